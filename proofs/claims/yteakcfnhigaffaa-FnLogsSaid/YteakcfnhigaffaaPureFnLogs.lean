/- Appended records are those of the log in order, also behind SyncLog, and the encodings of different records differ: for all codes that the logs and records are drawn from. -/
import Derived.Test.YteakcfnhigaffaaXSFnLogs
import Derived.Test.YteakcfnhigaffaaXLim
namespace Go.Proofs.Yteakcfnhigaffaa.Pure
open Go.RowKit Go.Proofs.YteakcfnhigaffaaW.PrintWords Go.Proofs.YteakcfnhigaffaaW.PrintLast Go.Proofs.YteakcfnhigaffaaW.PrintMore Go.Proofs.Yteakcfnhigaffaa.X Go.Proofs.Yteakcfnhigaffaa.XRow Go.Proofs.Yteakcfnhigaffaa.XLim
set_option linter.unusedVariables false
set_option linter.unusedSimpArgs false
instance : ∀ a0, Mono (fun k => impl_AppendChecksum.f k a0) := fun a0 => ⟨⟨impl_AppendChecksum.mono a0⟩⟩
instance : ∀ a0 a1 a2 a3 a4, Mono (fun k => impl_AppendRecord.f k a0 a1 a2 a3 a4) := fun a0 a1 a2 a3 a4 => ⟨⟨impl_AppendRecord.mono a0 a1 a2 a3 a4⟩⟩
instance : ∀ a0, Mono (fun k => impl_Checksum.f k a0) := fun a0 => ⟨⟨impl_Checksum.mono a0⟩⟩
instance : ∀ a0 a1 a2, Mono (fun k => impl_EncodeRecord.f k a0 a1 a2) := fun a0 a1 a2 => ⟨⟨impl_EncodeRecord.mono a0 a1 a2⟩⟩
instance : ∀ a0 a1 a2, Mono (fun k => impl_IsValidLog.f k a0 a1 a2) := fun a0 a1 a2 => ⟨⟨impl_IsValidLog.mono a0 a1 a2⟩⟩
instance : ∀ a0 a1, Mono (fun k => impl_IsValidRecord.f k a0 a1) := fun a0 a1 => ⟨⟨impl_IsValidRecord.mono a0 a1⟩⟩
instance : ∀ a0 a1 a2, Mono (fun k => impl_LogRecords.f k a0 a1 a2) := fun a0 a1 a2 => ⟨⟨impl_LogRecords.mono a0 a1 a2⟩⟩
instance : ∀ a0 a1 a2, Mono (fun k => impl_SyncLog.f k a0 a1 a2) := fun a0 a1 a2 => ⟨⟨impl_SyncLog.mono a0 a1 a2⟩⟩
instance : ∀ a0 a1, Mono (fun k => impl_decode.f k a0 a1) := fun a0 a1 => ⟨⟨impl_decode.mono a0 a1⟩⟩
instance : ∀ a0, Mono (fun k => impl_isPrinted.f k a0) := fun a0 => ⟨⟨impl_isPrinted.mono a0⟩⟩
instance : ∀ a0, Mono (fun k => impl_recovered.f k a0) := fun a0 => ⟨⟨impl_recovered.mono a0⟩⟩
instance : ∀ a0 a1, Mono (fun k => impl_split.f k a0 a1) := fun a0 a1 => ⟨⟨impl_split.mono a0 a1⟩⟩
instance : ∀ a0, Mono (fun k => impl_text.f k a0) := fun a0 => ⟨⟨impl_text.mono a0⟩⟩
instance : ∀ a0, Mono (fun k => laws_FnLogs.f k a0) := fun a0 => ⟨⟨laws_FnLogs.mono a0⟩⟩
instance : ∀ a0 a1, Mono (fun k => laws_vRecords.f k a0 a1) := fun a0 a1 => ⟨⟨laws_vRecords.mono a0 a1⟩⟩
instance : ∀ a0 a1 a2 a3 a4, Mono (fun k => spec_AppendRecord.f k a0 a1 a2 a3 a4) := fun a0 a1 a2 a3 a4 => ⟨⟨spec_AppendRecord.mono a0 a1 a2 a3 a4⟩⟩
instance : ∀ a0, Mono (fun k => spec_DrawAppendRecord.f k a0) := fun a0 => ⟨⟨spec_DrawAppendRecord.mono a0⟩⟩
instance : ∀ a0, Mono (fun k => spec_DrawIsValidLog.f k a0) := fun a0 => ⟨⟨spec_DrawIsValidLog.mono a0⟩⟩
instance : ∀ a0 a1 a2, Mono (fun k => spec_EncodeRecord.f k a0 a1 a2) := fun a0 a1 a2 => ⟨⟨spec_EncodeRecord.mono a0 a1 a2⟩⟩
instance : ∀ a0 a1 a2, Mono (fun k => spec_IsValidLog.f k a0 a1 a2) := fun a0 a1 a2 => ⟨⟨spec_IsValidLog.mono a0 a1 a2⟩⟩
instance : ∀ a0 a1, Mono (fun k => spec_IsValidRecord.f k a0 a1) := fun a0 a1 => ⟨⟨spec_IsValidRecord.mono a0 a1⟩⟩
instance : ∀ a0 a1 a2, Mono (fun k => spec_LogRecords.f k a0 a1 a2) := fun a0 a1 a2 => ⟨⟨spec_LogRecords.mono a0 a1 a2⟩⟩
instance : ∀ a0 a1 a2, Mono (fun k => spec_SyncLog.f k a0 a1 a2) := fun a0 a1 a2 => ⟨⟨spec_SyncLog.mono a0 a1 a2⟩⟩
instance : ∀ a0 a1, Mono (fun k => spec_l12Bytes.f k a0 a1) := fun a0 a1 => ⟨⟨spec_l12Bytes.mono a0 a1⟩⟩
instance : ∀ a0 a1, Mono (fun k => spec_l12Decode.f k a0 a1) := fun a0 a1 => ⟨⟨spec_l12Decode.mono a0 a1⟩⟩
instance : ∀ a0 a1 a2, Mono (fun k => spec_l12Line.f k a0 a1 a2) := fun a0 a1 a2 => ⟨⟨spec_l12Line.mono a0 a1 a2⟩⟩
instance : ∀ a0, Mono (fun k => spec_l12Open.f k a0) := fun a0 => ⟨⟨spec_l12Open.mono a0⟩⟩
instance : ∀ a0 a1, Mono (fun k => spec_l12Record.f k a0 a1) := fun a0 a1 => ⟨⟨spec_l12Record.mono a0 a1⟩⟩
instance : ∀ a0 a1 a2, Mono (fun k => spec_l12Valid.f k a0 a1 a2) := fun a0 a1 a2 => ⟨⟨spec_l12Valid.mono a0 a1 a2⟩⟩
instance : ∀ a0 a1 a2, Mono (fun k => spec_l1Cur_anyLog.f k a0 a1 a2) := fun a0 a1 a2 => ⟨⟨spec_l1Cur_anyLog.mono a0 a1 a2⟩⟩
instance : ∀ a0 a1 a2, Mono (fun k => spec_l1Cur_log12.f k a0 a1 a2) := fun a0 a1 a2 => ⟨⟨spec_l1Cur_log12.mono a0 a1 a2⟩⟩
instance : ∀ a0, Mono (fun k => spec_l1Num.f k a0) := fun a0 => ⟨⟨spec_l1Num.mono a0⟩⟩
instance : ∀ a0, Mono (fun k => spec_l1Seal.f k a0) := fun a0 => ⟨⟨spec_l1Seal.mono a0⟩⟩
instance : ∀ a0 a1, Mono (fun k => spec_l1Split.f k a0 a1) := fun a0 a1 => ⟨⟨spec_l1Split.mono a0 a1⟩⟩
instance : ∀ a0 a1, Mono (fun k => spec_l1Stands.f k a0 a1) := fun a0 a1 => ⟨⟨spec_l1Stands.mono a0 a1⟩⟩
instance : ∀ a0, Mono (fun k => spec_l1Sum.f k a0) := fun a0 => ⟨⟨spec_l1Sum.mono a0⟩⟩
theorem lt_mid {α : Type} (pre : List α) (x : α) (r : List α) : ((pre.length : Int) < ((pre ++ x :: r).length : Int)) = True := by
  simp only [List.length_append, List.length_cons]
  exact eq_true (by omega)
theorem not_lt_end {α : Type} (pre : List α) : ((pre.length : Int) < ((pre ++ []).length : Int)) = False := by
  simp
theorem le_nat (n : Nat) : (0 ≤ (n : Int)) = True := eq_true (by omega)
theorem wrap_mid {α : Type} (pre : List α) (x : α) (h : pre.length < 4611686018427387904) : wrap64 ((pre.length : Int) + 1) = ((pre ++ [x]).length : Int) := by
  rw [wrap_id (by omega) (by omega)]
  simp
theorem app_cons {α : Type} (pre : List α) (x : α) (r : List α) : pre ++ x :: r = (pre ++ [x]) ++ r := by simp
theorem getD_mem {l : List Int} {j : Nat} (hj : j < l.length) : l.getD j 0 ∈ l := by
  rw [List.getD_eq_getElem?_getD, List.getElem?_eq_getElem hj]
  exact List.getElem_mem _
/-- Option.bind_some, not as a reduction: simp would reduce what stands behind it, numbers too. -/
theorem bindS {α β : Type} (a : α) (f : α → Option β) : (some a).bind f = f a := id rfl
def inB (a lo hi : Int) : Bool := decide (lo ≤ a) && decide (a ≤ hi)
theorem inB_iff {a lo hi : Int} : inB a lo hi = true ↔ lo ≤ a ∧ a ≤ hi := by simp [inB]
theorem within_e (a lo hi : Int) : impl_within.f a lo hi = some (inB a lo hi) := by
  unfold impl_within.f inB
  by_cases h : lo ≤ a <;> simp [h]
theorem l1In_e (a lo hi : Int) : spec_l1In.f a lo hi = some (inB a lo hi) := by
  unfold spec_l1In.f inB
  by_cases h : lo ≤ a <;> simp [h]
theorem wrapn {n : Nat} (h : n ≤ 9223372036854775806) : wrap64 ((n : Int) + 1) = ((n + 1 : Nat) : Int) := by
  rw [wrap_id (by omega) (by omega)]
  omega
theorem bt_get (s : ByteArray) (i : Nat) (h : i < s.size) : bt s (i : Int) = ((s[i]'h).toNat : Int) := by
  unfold bt
  rw [dif_pos (by omega)]
  simp only [Int.toNat_natCast]
theorem bt_ext (s : ByteArray) (a i : Nat) (h : a + i < s.size) : bt (s.extract a s.size) (i : Int) = bt s ((a + i : Nat) : Int) := by
  rw [bt_get _ i (by rw [ByteArray.size_extract]; omega), bt_get _ _ h, ByteArray.getElem_extract]
theorem bt_left (a b : ByteArray) (i : Nat) (h : i < a.size) : bt (a ++ b) (i : Int) = bt a (i : Int) := by
  rw [bt_get _ i (by rw [ByteArray.size_append]; omega), bt_get _ i h, ByteArray.getElem_append_left]
theorem bt_right (a b : ByteArray) (i : Nat) (h : a.size ≤ i) (h2 : i < a.size + b.size) : bt (a ++ b) (i : Int) = bt b ((i - a.size : Nat) : Int) := by
  rw [bt_get _ i (by rw [ByteArray.size_append]; omega), bt_get _ _ (by omega), ByteArray.getElem_append_right h]
theorem toList_inj {a b : ByteArray} : a.toList = b.toList ↔ a = b := by
  rw [ByteArray.toList_eq, ByteArray.toList_eq]
  constructor
  · intro h
    apply ByteArray.ext
    exact Array.toList_inj.1 h
  · intro h
    rw [h]
theorem toList_beq (a b : ByteArray) : (a.toList == b.toList) = decide (a = b) := by
  rw [Bool.eq_iff_iff]
  simp only [beq_iff_eq, decide_eq_true_eq, toList_inj]
theorem toList_bne (a b : ByteArray) : (a.toList != b.toList) = !decide (a = b) := by
  rw [bne, toList_beq]
theorem toList_nil (a : ByteArray) : a.toList = ([] : List UInt8) ↔ a.size = 0 := by
  rw [ByteArray.toList_eq]
  constructor
  · intro h
    have := congrArg List.length h
    simpa using this
  · intro h
    exact List.length_eq_zero_iff.1 (by simpa using h)
/-- The first place from i on, among d, of a byte. -/
def nxtP (s : ByteArray) (b : Int) : Nat → Nat → Nat
  | 0, i => i
  | d + 1, i => if bt s (i : Int) = b then i else nxtP s b d (i + 1)
theorem nxtP_le (s : ByteArray) (b : Int) : ∀ d i, i ≤ nxtP s b d i ∧ nxtP s b d i ≤ i + d
  | 0, i => by simp [nxtP]
  | d + 1, i => by
    have := nxtP_le s b d (i + 1)
    rw [nxtP]
    by_cases h : bt s (i : Int) = b
    · rw [if_pos h]
      omega
    · rw [if_neg h]
      omega
theorem nxtP_none (s : ByteArray) (b : Int) : ∀ d i : Nat, (∀ j : Nat, i ≤ j → j < i + d → bt s (j : Int) ≠ b) → nxtP s b d i = i + d
  | 0, i, _ => rfl
  | d + 1, i, h => by
    rw [nxtP, if_neg (h i (Nat.le_refl _) (by omega)), nxtP_none s b d (i + 1) (fun j h1 h2 => h j (by omega) (by omega))]
    omega
theorem nxtP_ext (s : ByteArray) (b : Int) (a : Nat) : ∀ d i, a + i + d ≤ s.size → nxtP (s.extract a s.size) b d i + a = nxtP s b d (a + i)
  | 0, i, h => by
    simp only [nxtP]
    omega
  | d + 1, i, h => by
    have := nxtP_ext s b a d (i + 1) (by omega)
    rw [nxtP, nxtP, bt_ext s a i (by omega)]
    by_cases hb : bt s ((a + i : Nat) : Int) = b
    · rw [if_pos hb, if_pos hb]
      omega
    · rw [if_neg hb, if_neg hb, this]
      rfl
def endP (s : ByteArray) (b : Int) : Nat := nxtP s b s.size 0
theorem endP_le (s : ByteArray) (b : Int) : endP s b ≤ s.size := by
  have := nxtP_le s b s.size 0
  unfold endP
  omega
/-- The parts of a text from place i on, the current one begun at place j. -/
def splP (s : ByteArray) (b : Int) : Nat → Nat → Nat → List ByteArray
  | 0, _, j => [s.extract j s.size]
  | d + 1, i, j => if bt s (i : Int) = b then s.extract j i :: splP s b d (i + 1) (i + 1) else splP s b d (i + 1) j
theorem splP_ne (s : ByteArray) (b : Int) : ∀ d i j, splP s b d i j ≠ []
  | 0, i, j => by simp [splP]
  | d + 1, i, j => by
    rw [splP]
    by_cases h : bt s (i : Int) = b
    · rw [if_pos h]
      simp
    · rw [if_neg h]
      exact splP_ne s b d _ _
theorem splP_head (s : ByteArray) (b : Int) : ∀ d i j, i + d = s.size → ∃ r, splP s b d i j = s.extract j (nxtP s b d i) :: r ∧ (r = [] ↔ nxtP s b d i = s.size)
  | 0, i, j, h => ⟨[], by simp only [splP, nxtP]; rw [show i = s.size by omega], ⟨fun _ => by show i = s.size; omega, fun _ => rfl⟩⟩
  | d + 1, i, j, h => by
    rw [splP, nxtP]
    by_cases hb : bt s (i : Int) = b
    · rw [if_pos hb, if_pos hb]
      exact ⟨_, rfl, fun e => absurd e (splP_ne s b d _ _), fun e => by omega⟩
    · rw [if_neg hb, if_neg hb]
      exact splP_head s b d (i + 1) j (by omega)
def splitP (s : ByteArray) (b : Int) : List ByteArray := splP s b s.size 0 0
theorem splitP_head (s : ByteArray) (b : Int) : ∃ r, splitP s b = s.extract 0 (endP s b) :: r ∧ (r = [] ↔ endP s b = s.size) := splP_head s b s.size 0 0 (by omega)
theorem splitP_pos (s : ByteArray) (b : Int) : 0 < ((splitP s b).length : Int) := by
  obtain ⟨r, h, _⟩ := splitP_head s b
  rw [h]
  simp only [List.length_cons]
  omega
theorem splitP_rd (s : ByteArray) (b : Int) : rdOf ByteArray.empty (splitP s b) 0 = s.extract 0 (endP s b) := by
  obtain ⟨r, h, _⟩ := splitP_head s b
  rw [h]
  rfl
theorem splitP_two (s : ByteArray) (b : Int) : ((splitP s b).length : Int) < 2 ↔ endP s b = s.size := by
  obtain ⟨r, h, h2⟩ := splitP_head s b
  rw [h, ← h2]
  simp only [List.length_cons]
  constructor
  · intro h3
    exact List.length_eq_zero_iff.1 (by omega)
  · rintro rfl
    simp
theorem size_head (s : ByteArray) (b : Int) : (s.extract 0 (endP s b)).size = endP s b := by
  have := endP_le s b
  rw [ByteArray.size_extract]
  omega
theorem l1Split_l (s : ByteArray) (b : Int) (hs : s.size ≤ 1000000000) : ∀ (d i j : Nat) (out : List ByteArray), i + d = s.size → j ≤ i → out.length ≤ i →
    L (fun k => spec_l1Split.l0 k s b out (j : Int) (i : Int)) = some (out ++ splP s b d i j)
  | 0, i, j, out, h, hj, ho => by
    rw [L_shift]
    simp only [spec_l1Split.l0, if_neg (show ¬ (i : Int) < (s.size : Int) by omega), le_nat, if_true, if_pos (show (j : Int) ≤ (s.size : Int) by omega), if_pos (show out.length < 8796093022208 by omega), L_const, Int.toNat_natCast, splP]
  | d + 1, i, j, out, h, hj, ho => by
    rw [L_shift]
    simp only [spec_l1Split.l0, if_pos (show (i : Int) < (s.size : Int) by omega), le_nat, if_true, wrapn (show i ≤ 9223372036854775806 by omega), if_pos (show (j : Int) ≤ (i : Int) by omega), if_pos (show (i : Int) ≤ (s.size : Int) by omega), if_pos (show out.length < 8796093022208 by omega), Int.toNat_natCast, L_ite, splP]
    by_cases hb : bt s (i : Int) = b
    · rw [if_pos hb, if_pos hb, l1Split_l s b hs d (i + 1) (i + 1) _ (by omega) (by omega) (by simp; omega)]
      simp
    · rw [if_neg hb, if_neg hb, l1Split_l s b hs d (i + 1) j out (by omega) (by omega) (by omega)]
theorem l1Split_L (s : ByteArray) (b : Int) (hs : s.size ≤ 1000000000) : L (fun k => spec_l1Split.f k s b) = some (splitP s b) := by
  have := l1Split_l s b hs s.size 0 0 [] (by omega) (by omega) (by simp)
  simpa [spec_l1Split.f, splitP] using this
theorem split_l (s : ByteArray) (b : Int) (hs : s.size ≤ 1000000000) : ∀ (d i j : Nat) (out : List ByteArray), i + d = s.size → j ≤ i → out.length ≤ i →
    L (fun k => impl_split.l0 k s b out (j : Int) (i : Int)) = some (out ++ splP s b d i j)
  | 0, i, j, out, h, hj, ho => by
    rw [L_shift]
    simp only [impl_split.l0, if_neg (show ¬ (i : Int) < (s.size : Int) by omega), le_nat, if_true, if_pos (show (j : Int) ≤ (s.size : Int) by omega), if_pos (show out.length < 8796093022208 by omega), L_const, Int.toNat_natCast, splP]
  | d + 1, i, j, out, h, hj, ho => by
    rw [L_shift]
    simp only [impl_split.l0, if_pos (show (i : Int) < (s.size : Int) by omega), le_nat, if_true, wrapn (show i ≤ 9223372036854775806 by omega), if_pos (show (j : Int) ≤ (i : Int) by omega), if_pos (show (i : Int) ≤ (s.size : Int) by omega), if_pos (show out.length < 8796093022208 by omega), Int.toNat_natCast, L_ite, splP]
    by_cases hb : bt s (i : Int) = b
    · rw [if_pos hb, if_pos hb, split_l s b hs d (i + 1) (i + 1) _ (by omega) (by omega) (by simp; omega)]
      simp
    · rw [if_neg hb, if_neg hb, split_l s b hs d (i + 1) j out (by omega) (by omega) (by omega)]
theorem split_L (s : ByteArray) (b : Int) (hs : s.size ≤ 1000000000) : L (fun k => impl_split.f k s b) = some (splitP s b) := by
  have := split_l s b hs s.size 0 0 [] (by omega) (by omega) (by simp)
  simpa [impl_split.f, splitP] using this
theorem l1Stands_l (s : ByteArray) (b : Int) (hs : s.size ≤ 1000000000) : ∀ (d i : Nat), i + d = s.size →
    L (fun k => spec_l1Stands.l0 k s b (i : Int)) = some (decide (nxtP s b d i < s.size))
  | 0, i, h => by
    rw [L_shift]
    simp only [spec_l1Stands.l0, if_neg (show ¬ (i : Int) < (s.size : Int) by omega), L_const]
    rw [decide_eq_false (by show ¬ i < s.size; omega)]
  | d + 1, i, h => by
    rw [L_shift]
    simp only [spec_l1Stands.l0, if_pos (show (i : Int) < (s.size : Int) by omega), le_nat, if_true, wrapn (show i ≤ 9223372036854775806 by omega), L_ite, L_const, l1Stands_l s b hs d (i + 1) (by omega)]
    by_cases hb : bt s (i : Int) = b
    · rw [if_pos hb, decide_eq_true (by rw [nxtP, if_pos hb]; omega)]
    · rw [if_neg hb]
      simp only [nxtP, if_neg hb]
theorem l1Stands_L (s : ByteArray) (b : Int) (hs : s.size ≤ 1000000000) : L (fun k => spec_l1Stands.f k s b) = some (decide (endP s b < s.size)) :=
  l1Stands_l s b hs s.size 0 (by omega)
/-- Printable bytes alone, none of them a number sign. -/
def prB (s : ByteArray) : Nat → Nat → Bool
  | 0, _ => true
  | d + 1, i => inB (bt s (i : Int)) 32 126 && (!decide (bt s (i : Int) = 35) && prB s d (i + 1))
theorem prB_at (s : ByteArray) : ∀ d i, prB s d i = true → ∀ j, i ≤ j → j < i + d → 32 ≤ bt s (j : Int) ∧ bt s (j : Int) ≠ 35
  | 0, i, _, j, h1, h2 => by omega
  | d + 1, i, h, j, h1, h2 => by
    rw [prB] at h
    simp only [Bool.and_eq_true, inB_iff, Bool.not_eq_true', decide_eq_false_iff_not] at h
    by_cases e : i = j
    · subst e
      exact ⟨h.1.1, h.2.1⟩
    · exact prB_at s d (i + 1) h.2.2 j (by omega) (by omega)
theorem wrap_bt (s : ByteArray) (i : Int) : wrap64 (bt s i) = bt s i := by
  have := bt_range s i
  exact wrap_id (by omega) (by omega)
theorem l12Bytes_l (s : ByteArray) (m : Int) (hs : s.size ≤ 1000000000) : ∀ (d i : Nat), i + d = s.size →
    L (fun k => spec_l12Bytes.l0 k s m (i : Int)) = some (prB s d i && decide ((s.size : Int) ≤ m))
  | 0, i, h => by
    rw [L_shift]
    simp only [spec_l12Bytes.l0, if_neg (show ¬ (i : Int) < (s.size : Int) by omega), L_const, prB, Bool.true_and]
  | d + 1, i, h => by
    rw [L_shift]
    simp only [spec_l12Bytes.l0, if_pos (show (i : Int) < (s.size : Int) by omega), le_nat, if_true, wrap_bt, l1In_e, Option.bind_some, wrapn (show i ≤ 9223372036854775806 by omega), L_ite, L_const, prB, l12Bytes_l s m hs d (i + 1) (by omega)]
    cases h1 : inB (bt s (i : Int)) 32 126 with
    | false => simp
    | true =>
      by_cases h2 : bt s (i : Int) = 35
      · simp [h2]
      · simp [h2]
theorem l12Bytes_L (s : ByteArray) (m : Int) (hs : s.size ≤ 1000000000) : L (fun k => spec_l12Bytes.f k s m) = some (prB s s.size 0 && decide ((s.size : Int) ≤ m)) := by
  have := l12Bytes_l s m hs s.size 0 (by omega)
  simpa [spec_l12Bytes.f] using this
theorem isPrinted_l (s : ByteArray) (hs : s.size ≤ 1000000000) : ∀ (d i : Nat), i + d = s.size →
    L (fun k => impl_isPrinted.l0 k s (i : Int)) = some (prB s d i)
  | 0, i, h => by
    rw [L_shift]
    simp only [impl_isPrinted.l0, if_neg (show ¬ (i : Int) < (s.size : Int) by omega), L_const, prB]
  | d + 1, i, h => by
    rw [L_shift]
    simp only [impl_isPrinted.l0, if_pos (show (i : Int) < (s.size : Int) by omega), le_nat, if_true, wrapn (show i ≤ 9223372036854775806 by omega), L_ite, L_const, prB, isPrinted_l s hs d (i + 1) (by omega), inB]
    by_cases h1 : bt s (i : Int) < 32
    · rw [if_pos h1, decide_eq_false (by omega)]
      rfl
    · rw [if_neg h1, decide_eq_true (by omega)]
      by_cases h2 : bt s (i : Int) > 126
      · rw [if_pos h2, decide_eq_false (by omega)]
        rfl
      · rw [if_neg h2, decide_eq_true (by omega)]
        by_cases h3 : bt s (i : Int) = 35
        · simp [h3]
        · simp [h3]
theorem isPrinted_L (s : ByteArray) (hs : s.size ≤ 1000000000) : L (fun k => impl_isPrinted.f k s) = some (prB s s.size 0) := by
  have := isPrinted_l s hs s.size 0 (by omega)
  simpa [impl_isPrinted.f] using this
/-- A valid record. -/
def recB (c r : ByteArray) : Bool := decide (1 ≤ c.size ∧ c.size ≤ 160 ∧ r.size ≤ 200) && (prB c c.size 0 && (prB r r.size 0 && decide (endP c 64 = c.size)))
theorem l12Record_L (c r : ByteArray) (hc : c.size ≤ 1000000000) (hr : r.size ≤ 1000000000) : L (fun k => spec_l12Record.f k c r) = some (recB c r) := by
  simp only [spec_l12Record.f, toList_nil, L_ite, L_const, L_bind, l12Bytes_L _ _ hc, l12Bytes_L _ _ hr, l1Stands_L _ _ hc, Option.bind_some, recB]
  have he := endP_le c 64
  by_cases h0 : c.size = 0
  · simp [h0]
  · rw [if_neg h0]
    have h5 : decide (endP c 64 < c.size) = !decide (endP c 64 = c.size) := by
      rw [Bool.eq_iff_iff]
      simp
      omega
    have h6 : decide ((c.size : Int) ≤ 160) = decide (c.size ≤ 160) := by
      rw [Bool.eq_iff_iff, decide_eq_true_eq, decide_eq_true_eq]
      omega
    have h7 : decide ((r.size : Int) ≤ 200) = decide (r.size ≤ 200) := by
      rw [Bool.eq_iff_iff, decide_eq_true_eq, decide_eq_true_eq]
      omega
    have h8 : decide (1 ≤ c.size ∧ c.size ≤ 160 ∧ r.size ≤ 200) = (decide (c.size ≤ 160) && decide (r.size ≤ 200)) := by
      rw [Bool.eq_iff_iff, Bool.and_eq_true, decide_eq_true_eq, decide_eq_true_eq, decide_eq_true_eq]
      omega
    rw [h5, h6, h7, h8]
    generalize prB c c.size 0 = b1
    generalize prB r r.size 0 = b2
    generalize decide (endP c 64 = c.size) = b3
    generalize decide (c.size ≤ 160) = b4
    generalize decide (r.size ≤ 200) = b5
    cases b1 <;> cases b2 <;> cases b3 <;> cases b4 <;> cases b5 <;> rfl
theorem IsValidRecord_L (c r : ByteArray) (hc : c.size ≤ 1000000000) (hr : r.size ≤ 1000000000) : L (fun k => impl_IsValidRecord.f k c r) = some (recB c r) := by
  simp only [impl_IsValidRecord.f, within_e, L_ite, L_const, L_bind, isPrinted_L _ hc, isPrinted_L _ hr, split_L _ _ hc, Option.bind_some, recB, inB]
  have h6 : ((((splitP c 64).length : Int) == 1) = true) ↔ endP c 64 = c.size := by
    rw [← splitP_two]
    have := splitP_pos c 64
    rw [beq_iff_eq]
    omega
  have h7 : (((splitP c 64).length : Int) == 1) = decide (endP c 64 = c.size) := by
    rw [Bool.eq_iff_iff, h6, decide_eq_true_eq]
  rw [h7]
  by_cases h0 : 1 ≤ (c.size : Int)
  · by_cases h1 : (c.size : Int) ≤ 160
    · by_cases h2 : (r.size : Int) ≤ 200
      · have h8 : (1 ≤ c.size ∧ c.size ≤ 160 ∧ r.size ≤ 200) := by omega
        cases h3 : prB c c.size 0 <;> cases h4 : prB r r.size 0 <;> simp [h0, h1, h2, h8]
      · have h8 : ¬ (1 ≤ c.size ∧ c.size ≤ 160 ∧ r.size ≤ 200) := by omega
        simp [h0, h1, h2, h8]
    · have h8 : ¬ (1 ≤ c.size ∧ c.size ≤ 160 ∧ r.size ≤ 200) := by omega
      simp [h0, h1, h8]
  · have h8 : ¬ (1 ≤ c.size ∧ c.size ≤ 160 ∧ r.size ≤ 200) := by omega
    simp [h0, h8]
def digP (d : Nat) : ByteArray := ⟨#[UInt8.ofNat (48 + d)]⟩
theorem digP_size (d : Nat) : (digP d).size = 1 := rfl
def numP (n : Nat) : ByteArray := if n < 10 then digP n else numP (n / 10) ++ digP (n % 10)
theorem numP_lt {n : Nat} (h : n < 10) : numP n = digP n := by rw [numP, if_pos h]
theorem numP_ge {n : Nat} (h : ¬ n < 10) : numP n = numP (n / 10) ++ digP (n % 10) := by rw [numP, if_neg h]
theorem numP_size : ∀ (m n : Nat), n < 10 ^ (m + 1) → (numP n).size ≤ m + 1
  | 0, n, h => by
    rw [numP_lt (by simpa using h), digP_size]
    omega
  | m + 1, n, h => by
    by_cases h10 : n < 10
    · rw [numP_lt h10, digP_size]
      omega
    · have := numP_size m (n / 10) (by rw [Nat.pow_succ] at h; omega)
      rw [numP_ge h10, ByteArray.size_append, digP_size]
      omega
theorem lit_dig : ∀ d : Nat, d < 10 → (⟨#[48, 49, 50, 51, 52, 53, 54, 55, 56, 57]⟩ : ByteArray).extract d (d + 1) = digP d := by
  intro d hd
  match d, hd with
  | 0, _ => rfl
  | 1, _ => rfl
  | 2, _ => rfl
  | 3, _ => rfl
  | 4, _ => rfl
  | 5, _ => rfl
  | 6, _ => rfl
  | 7, _ => rfl
  | 8, _ => rfl
  | 9, _ => rfl
theorem str_dig : ∀ d : Nat, d < 10 → strOfNums [((48 + d : Nat) : Int)] = digP d := by
  intro d hd
  match d, hd with
  | 0, _ => rfl
  | 1, _ => rfl
  | 2, _ => rfl
  | 3, _ => rfl
  | 4, _ => rfl
  | 5, _ => rfl
  | 6, _ => rfl
  | 7, _ => rfl
  | 8, _ => rfl
  | 9, _ => rfl
theorem bt_dig : ∀ d : Nat, d < 10 → bt (digP d) ((0 : Nat) : Int) = ((48 + d : Nat) : Int) := by
  intro d hd
  match d, hd with
  | 0, _ => rfl
  | 1, _ => rfl
  | 2, _ => rfl
  | 3, _ => rfl
  | 4, _ => rfl
  | 5, _ => rfl
  | 6, _ => rfl
  | 7, _ => rfl
  | 8, _ => rfl
  | 9, _ => rfl
theorem numP_at (n : Nat) : ∀ i : Nat, i < (numP n).size → 48 ≤ bt (numP n) (i : Int) ∧ bt (numP n) (i : Int) ≤ 57 := by
  induction n using Nat.strongRecOn with
  | _ n ih =>
    intro i hi
    by_cases h10 : n < 10
    · rw [numP_lt h10] at hi ⊢
      have h1 := digP_size n
      obtain rfl : i = 0 := by omega
      rw [bt_dig n h10]
      omega
    · rw [numP_ge h10] at hi ⊢
      rw [ByteArray.size_append, digP_size] at hi
      by_cases h : i < (numP (n / 10)).size
      · rw [bt_left _ _ i h]
        exact ih (n / 10) (by omega) i h
      · rw [bt_right _ _ i (by omega) (by rw [digP_size]; omega), show i - (numP (n / 10)).size = 0 by omega, bt_dig _ (by omega)]
        omega
theorem tdiv10 (n : Nat) (h : n ≤ 1000000000000) : wrap64 (Int.tdiv (n : Int) 10) = ((n / 10 : Nat) : Int) := by
  rw [Int.tdiv_eq_ediv_of_nonneg (by omega), wrap_id (by omega) (by omega)]
  omega
theorem tmod10 (n : Nat) : Int.tmod (n : Int) 10 = ((n % 10 : Nat) : Int) := by
  rw [Int.tmod_eq_emod_of_nonneg (by omega)]
  omega
theorem l1Num_L (n : Nat) : n ≤ 1000000000 → L (fun k => spec_l1Num.f k (n : Int)) = some (numP n) := by
  induction n using Nat.strongRecOn with
  | _ n ih =>
    intro hn
    rw [L_shift]
    have e1 : wrap64 (((n % 10 : Nat) : Int) + 1) = ((n % 10 + 1 : Nat) : Int) := wrapn (by omega)
    have e2 : wrap64 ((n : Int) + 1) = ((n + 1 : Nat) : Int) := wrapn (by omega)
    simp only [spec_l1Num.f, if_neg (show ¬ (n : Int) < 0 by omega), L_ite, L_bind, L_const, tdiv10 n (by omega), tmod10, e1, e2, Int.toNat_natCast, le_nat, if_true]
    by_cases h10 : n < 10
    · rw [if_pos (show (n : Int) < 10 by omega), if_pos (by omega), if_pos (by omega), lit_dig n h10, numP_lt h10]
    · have hs := numP_size 9 (n / 10) (by omega)
      rw [if_neg (show ¬ (n : Int) < 10 by omega), ih (n / 10) (by omega) (by omega), Option.bind_some, if_pos (by omega), if_pos (by omega), lit_dig _ (by omega), if_pos (by rw [digP_size]; omega), numP_ge h10]
theorem text_l (n : Nat) : n ≤ 1000000000 → ∀ out : ByteArray, out.size + n ≤ 1000000000000 → L (fun k => impl_text.l0 k (n : Int) out) = some (numP n ++ out) := by
  induction n using Nat.strongRecOn with
  | _ n ih =>
    intro hn out ho
    rw [L_shift]
    have e1 : (wrap64 (48 + ((n % 10 : Nat) : Int))) % 256 = ((48 + n % 10 : Nat) : Int) := by
      rw [wrap_id (by omega) (by omega)]
      omega
    simp only [impl_text.l0, L_ite, L_const, tdiv10 n (by omega), tmod10, e1, Option.bind_some, str_dig (n % 10) (by omega), digP_size, if_pos (show 1 + out.size ≤ 9223372036854775807 by omega)]
    by_cases h10 : n < 10
    · rw [if_pos (by omega), numP_lt h10, show n % 10 = n by omega]
    · rw [if_neg (by omega), ih (n / 10) (by omega) (by omega) _ (by rw [ByteArray.size_append, digP_size]; omega), numP_ge h10, ByteArray.append_assoc]
theorem text_L (n : Nat) (hn : n ≤ 1000000000) : L (fun k => impl_text.f k (n : Int)) = some (numP n) := by
  rw [L_shift]
  have := text_l n hn (⟨#[]⟩ : ByteArray) (by show 0 + n ≤ _; omega)
  simp only [impl_text.f, if_neg (show ¬ (n : Int) < 0 by omega), this]
  rw [show (⟨#[]⟩ : ByteArray) = ByteArray.empty from rfl, ByteArray.append_empty]
def sumE (h c : Int) : Int := Int.tmod (wrap64 ((wrap64 ((wrap64 (41 * h)) + c)) + 1)) 999979
theorem sumE_range {h c : Int} (h0 : 0 ≤ h) (h1 : h ≤ 999979) (c0 : 0 ≤ c) (c1 : c ≤ 255) : 0 ≤ sumE h c ∧ sumE h c < 999979 := by
  unfold sumE
  rw [wrap_id (n := 41 * h) (by omega) (by omega), wrap_id (n := 41 * h + c) (by omega) (by omega), wrap_id (n := 41 * h + c + 1) (by omega) (by omega), Int.tmod_eq_emod_of_nonneg (by omega)]
  omega
def sumP (s : ByteArray) : Nat → Nat → Int → Int
  | 0, _, h => h
  | d + 1, i, h => sumP s d (i + 1) (sumE h (bt s (i : Int)))
theorem sumP_range (s : ByteArray) : ∀ d i h, 0 ≤ h → h < 999979 → 0 ≤ sumP s d i h ∧ sumP s d i h < 999979
  | 0, i, h, h0, h1 => ⟨h0, h1⟩
  | d + 1, i, h, h0, h1 => by
    have hb := bt_range s (i : Int)
    have := sumE_range h0 (by omega) hb.1 hb.2
    exact sumP_range s d (i + 1) _ this.1 this.2
def sumN (s : ByteArray) : Nat := (sumP s s.size 0 7).toNat
theorem sumN_lt (s : ByteArray) : sumN s < 1000000 := by
  have := sumP_range s s.size 0 7 (by omega) (by omega)
  unfold sumN
  omega
theorem sumN_e (s : ByteArray) : sumP s s.size 0 7 = (sumN s : Int) := by
  have := sumP_range s s.size 0 7 (by omega) (by omega)
  unfold sumN
  omega
theorem l1Sum_l (s : ByteArray) (hs : s.size ≤ 1000000000) : ∀ (d i : Nat) (h : Int), i + d = s.size → L (fun k => spec_l1Sum.l0 k s h (i : Int)) = some (sumP s d i h)
  | 0, i, h, hi => by
    rw [L_shift]
    simp only [spec_l1Sum.l0, if_neg (show ¬ (i : Int) < (s.size : Int) by omega), L_const, sumP]
  | d + 1, i, h, hi => by
    rw [L_shift]
    simp only [spec_l1Sum.l0, if_pos (show (i : Int) < (s.size : Int) by omega), le_nat, if_true, wrapn (show i ≤ 9223372036854775806 by omega), wrap_bt]
    exact l1Sum_l s hs d (i + 1) _ (by omega)
theorem l1Sum_L (s : ByteArray) (hs : s.size ≤ 1000000000) : L (fun k => spec_l1Sum.f k s) = some (sumN s : Int) := by
  rw [← sumN_e]
  exact l1Sum_l s hs s.size 0 7 (by omega)
theorem Checksum_l (s : ByteArray) (hs : s.size ≤ 1000000000) : ∀ (d i : Nat) (h : Int), i + d = s.size → L (fun k => impl_Checksum.l0 k s h (i : Int)) = some (sumP s d i h, true)
  | 0, i, h, hi => by
    rw [L_shift]
    simp only [impl_Checksum.l0, if_neg (show ¬ (i : Int) < (s.size : Int) by omega), L_const, sumP]
  | d + 1, i, h, hi => by
    rw [L_shift]
    simp only [impl_Checksum.l0, if_pos (show (i : Int) < (s.size : Int) by omega), le_nat, if_true, wrapn (show i ≤ 9223372036854775806 by omega), wrap_bt]
    exact Checksum_l s hs d (i + 1) _ (by omega)
theorem Checksum_L (s : ByteArray) (hs : s.size ≤ 4000) : L (fun k => impl_Checksum.f k s) = some ((sumN s : Int), true) := by
  rw [← sumN_e]
  simp only [impl_Checksum.f, if_neg (show ¬ (s.size : Int) > 4000 by omega)]
  exact Checksum_l s (by omega) s.size 0 7 (by omega)
def sealP (s : ByteArray) : ByteArray := (s ++ (⟨#[35]⟩ : ByteArray)) ++ numP (sumN s)
theorem one_size (b : UInt8) : (⟨#[b]⟩ : ByteArray).size = 1 := rfl
theorem sealP_size (s : ByteArray) : (sealP s).size ≤ s.size + 7 := by
  have := numP_size 5 (sumN s) (sumN_lt s)
  rw [sealP, ByteArray.size_append, ByteArray.size_append, one_size]
  omega
theorem l1Seal_L (s : ByteArray) (hs : s.size ≤ 1000000000) : L (fun k => spec_l1Seal.f k s) = some (sealP s) := by
  have h1 := numP_size 5 (sumN s) (sumN_lt s)
  have h2 := sumN_lt s
  simp only [spec_l1Seal.f, L_ite, L_bind, L_const, l1Sum_L s hs, Option.bind_some, l1Num_L (sumN s) (by omega), if_pos (show s.size + 1 ≤ 9223372036854775807 by omega), if_pos (show s.size + 1 + (numP (sumN s)).size ≤ 9223372036854775807 by omega), sealP]
theorem AppendChecksum_L (s : ByteArray) (hs : s.size ≤ 3000) (hn : endP s 35 = s.size) : L (fun k => impl_AppendChecksum.f k s) = some (sealP s, true) := by
  have h1 := numP_size 5 (sumN s) (sumN_lt s)
  have h2 := sumN_lt s
  have h3 := (splitP_two s 35).2 hn
  simp only [impl_AppendChecksum.f, L_ite, L_bind, L_const, Checksum_L s (by omega), Option.bind_some, text_L (sumN s) (by omega), split_L s 35 (by omega), if_pos (show s.size + 1 ≤ 9223372036854775807 by omega), if_pos (show s.size + 1 + (numP (sumN s)).size ≤ 9223372036854775807 by omega), if_true, if_neg (show ¬ ((splitP s 35).length : Int) > 1 by omega), if_neg (show ¬ ((s.size : Int) + 1 + ((numP (sumN s)).size : Int)) > 4000 by omega), sealP]
def bodyP (n : Nat) (c r : ByteArray) : ByteArray := (((numP n ++ (⟨#[32]⟩ : ByteArray)) ++ c) ++ (⟨#[64]⟩ : ByteArray)) ++ r
def lineP (n : Nat) (c r : ByteArray) : ByteArray := sealP (bodyP n c r) ++ (⟨#[10]⟩ : ByteArray)
theorem bodyP_size (n : Nat) (c r : ByteArray) : (bodyP n c r).size = (numP n).size + 1 + c.size + 1 + r.size := by
  simp only [bodyP, ByteArray.size_append, one_size]
def noB (s : ByteArray) (b : Int) : Prop := ∀ i : Nat, i < s.size → bt s (i : Int) ≠ b
theorem noB_app {s t : ByteArray} {b : Int} (hs : noB s b) (ht : noB t b) : noB (s ++ t) b := by
  intro i hi
  rw [ByteArray.size_append] at hi
  by_cases h : i < s.size
  · rw [bt_left _ _ i h]
    exact hs i h
  · rw [bt_right _ _ i (by omega) hi]
    exact ht _ (by omega)
theorem noB_end {s : ByteArray} {b : Int} (h : noB s b) : endP s b = s.size := by
  rw [endP, nxtP_none s b s.size 0 (fun j _ h2 => h j (by omega))]
  omega
theorem noB_one (x : UInt8) (b : Int) (h : (x.toNat : Int) ≠ b) : noB (⟨#[x]⟩ : ByteArray) b := by
  intro i hi
  rw [one_size] at hi
  obtain rfl : i = 0 := by omega
  exact h
theorem recB_iff {c r : ByteArray} : recB c r = true ↔ (1 ≤ c.size ∧ c.size ≤ 160 ∧ r.size ≤ 200) ∧ prB c c.size 0 = true ∧ prB r r.size 0 = true ∧ endP c 64 = c.size := by
  simp only [recB, Bool.and_eq_true, decide_eq_true_eq]
theorem bodyP_no {n : Nat} {c r : ByteArray} (h : recB c r = true) (b : Int) (hb : b = 35 ∨ b = 10) : noB (bodyP n c r) b := by
  obtain ⟨_, h1, h2, _⟩ := recB_iff.1 h
  unfold bodyP
  refine noB_app (noB_app (noB_app (noB_app ?_ ?_) ?_) ?_) ?_
  · intro i hi
    have := numP_at n i hi
    omega
  · exact noB_one _ _ (by show (32 : Int) ≠ b; omega)
  · intro i hi
    have := prB_at c c.size 0 h1 i (by omega) (by omega)
    omega
  · exact noB_one _ _ (by show (64 : Int) ≠ b; omega)
  · intro i hi
    have := prB_at r r.size 0 h2 i (by omega) (by omega)
    omega
theorem lineP_size {n : Nat} {c r : ByteArray} (hn : n < 60) (h : recB c r = true) : (lineP n c r).size ≤ 372 := by
  obtain ⟨h1, _⟩ := recB_iff.1 h
  have h2 := sealP_size (bodyP n c r)
  have h3 := bodyP_size n c r
  have h4 := numP_size 1 n (by omega)
  rw [lineP, ByteArray.size_append, one_size]
  omega
theorem l12Line_L (n : Nat) (c r : ByteArray) (hn : n ≤ 1000) (hc : c.size ≤ 10000000) (hr : r.size ≤ 10000000) : L (fun k => spec_l12Line.f k (n : Int) c r) = some (lineP n c r) := by
  have h1 := numP_size 3 n (by omega)
  have h2 := bodyP_size n c r
  have h3 := sealP_size (bodyP n c r)
  have h4 := l1Seal_L (bodyP n c r) (by omega)
  unfold bodyP at h4
  simp only [spec_l12Line.f, L_ite, L_bind, L_const, l1Num_L n (by omega), Option.bind_some, h4, if_pos (show (numP n).size + 1 ≤ 9223372036854775807 by omega), if_pos (show (numP n).size + 1 + c.size ≤ 9223372036854775807 by omega), if_pos (show (numP n).size + 1 + c.size + 1 ≤ 9223372036854775807 by omega), if_pos (show (numP n).size + 1 + c.size + 1 + r.size ≤ 9223372036854775807 by omega)]
  rw [if_pos (by have : (sealP (bodyP n c r)).size + 1 ≤ 9223372036854775807 := by omega
                 exact this)]
  rfl
theorem EncodeRecord_L (n : Nat) (c r : ByteArray) (hn : n < 60) (hc : c.size ≤ 10000000) (hr : r.size ≤ 10000000) :
    L (fun k => impl_EncodeRecord.f k (n : Int) c r) = some (if recB c r = true then (lineP n c r, true) else ((⟨#[]⟩ : ByteArray), false)) := by
  have hw : inB (n : Int) 0 59 = true := inB_iff.2 (by omega)
  simp only [impl_EncodeRecord.f, L_ite, L_bind, L_const, within_e, hw, Option.bind_some, if_true, IsValidRecord_L c r (by omega) (by omega)]
  cases hb : recB c r with
  | false =>
    rw [L_shift]
    simp only [impl_EncodeRecord.j0, Bool.not_false, if_true, L_const]
    rfl
  | true =>
    obtain ⟨h0, _⟩ := recB_iff.1 hb
    have h1 := numP_size 1 n (by omega)
    have h2 := bodyP_size n c r
    have h3 := sealP_size (bodyP n c r)
    have h4 := AppendChecksum_L (bodyP n c r) (by omega) (noB_end (bodyP_no hb 35 (.inl rfl)))
    unfold bodyP at h4
    rw [L_shift]
    simp only [impl_EncodeRecord.j0, Bool.not_true, Bool.false_eq_true, if_false, L_ite, L_bind, L_const, text_L n (by omega), Option.bind_some, h4, if_pos (show (numP n).size + 1 ≤ 9223372036854775807 by omega), if_pos (show (numP n).size + 1 + c.size ≤ 9223372036854775807 by omega), if_pos (show (numP n).size + 1 + c.size + 1 ≤ 9223372036854775807 by omega), if_pos (show (numP n).size + 1 + c.size + 1 + r.size ≤ 9223372036854775807 by omega)]
    rw [if_pos (by have : (sealP (bodyP n c r)).size + 1 ≤ 9223372036854775807 := by omega
                   exact this)]
    rfl
theorem EncodeRecord_full (c r : ByteArray) : L (fun k => impl_EncodeRecord.f k (60 : Int) c r) = some ((⟨#[]⟩ : ByteArray), false) := by
  simp only [impl_EncodeRecord.f, within_e, show inB 60 0 59 = false from rfl, Option.bind_some, Bool.false_eq_true, if_false]
  rw [L_shift]
  simp only [impl_EncodeRecord.j0, if_true, L_const]
def nl1 : ByteArray := ⟨#[10]⟩
theorem decode_j (n : Nat) (line h t : ByteArray) (hn : n < 60) (ht : h.size ≤ t.size) (hs : t.size ≤ 10000000) (hl : line.size ≤ 10000000) :
    ∃ (a b : ByteArray) (ok : Bool), L (fun k => spec_l12Decode.j0 k line (n : Int) h t false) = some (a, b, ok) ∧ L (fun k => impl_decode.j0 k (n : Int) line h t false) = some (a, b, ok) ∧ (ok = true → recB a b = true ∧ lineP n a b = line ++ nl1) := by
  obtain ⟨R, hR⟩ : ∃ R, R = t.extract h.size t.size := ⟨_, rfl⟩
  have hRs : R.size = t.size - h.size := by rw [hR, ByteArray.size_extract, Nat.min_self]
  have he := endP_le R 64
  have hsz := size_head R 64
  by_cases hend : endP R 64 = R.size
  · refine ⟨⟨#[]⟩, ⟨#[]⟩, false, ?_, ?_, fun h => by cases h⟩
    · rw [L_shift]
      simp only [spec_l12Decode.j0, ← hR, Bool.false_eq_true, if_false, L_ite, L_bind, L_const, le_nat, if_true, if_pos (show (h.size : Int) ≤ (t.size : Int) by omega), l1Split_L R 64 (by omega), Option.bind_some, splitP_pos, splitP_rd, size_head, if_pos (show (endP R 64 : Int) = ((t.size - h.size : Nat) : Int) by omega)]
    · rw [L_shift]
      simp only [impl_decode.j0, ← hR, Bool.false_eq_true, if_false, L_ite, L_bind, L_const, le_nat, if_true, if_pos (show (h.size : Int) ≤ (t.size : Int) by omega), split_L R 64 (by omega), Option.bind_some, splitP_pos, splitP_rd, size_head, if_pos (show (endP R 64 : Int) = ((t.size - h.size : Nat) : Int) by omega)]
  · have hw : wrap64 ((endP R 64 : Int) + 1) = ((endP R 64 + 1 : Nat) : Int) := wrapn (by omega)
    obtain ⟨A, hA⟩ : ∃ A, A = R.extract 0 (endP R 64) := ⟨_, rfl⟩
    obtain ⟨B, hB⟩ : ∃ B, B = R.extract (endP R 64 + 1) (t.size - h.size) := ⟨_, rfl⟩
    have hAs : A.size ≤ 10000000 := by
      rw [hA, hsz]
      omega
    have hBs : B.size ≤ 10000000 := by
      rw [hB, ByteArray.size_extract]
      omega
    have hAe : A.size = endP R 64 := by rw [hA, hsz]
    have hrec := l12Record_L A B (by omega) (by omega)
    have hline := l12Line_L n A B (by omega) (by omega) (by omega)
    have henc := EncodeRecord_L n A B hn (by omega) (by omega)
    have e1 : L (fun k => spec_l12Decode.j0 k line (n : Int) h t false) = some (A, B, recB A B && decide (lineP n A B = line ++ nl1)) := by
      rw [L_shift]
      simp only [spec_l12Decode.j0, ← hR, Bool.false_eq_true, if_false, L_ite, L_bind, L_const, le_nat, if_true, if_pos (show (h.size : Int) ≤ (t.size : Int) by omega), l1Split_L R 64 (by omega), Option.bind_some, splitP_pos, splitP_rd, ← hA, hAe, if_neg (show ¬ (endP R 64 : Int) = ((t.size - h.size : Nat) : Int) by omega), hw, if_pos (show ((endP R 64 + 1 : Nat) : Int) ≤ ((t.size - h.size : Nat) : Int) by omega), Int.toNat_natCast, ← hB, hrec, hline, if_pos (show line.size + 1 ≤ 9223372036854775807 by omega), toList_beq]
      cases recB A B <;> rfl
    have e2 : L (fun k => impl_decode.j0 k (n : Int) line h t false) = some (A, B, recB A B && decide (lineP n A B = line ++ nl1)) := by
      rw [L_shift]
      simp only [impl_decode.j0, ← hR, Bool.false_eq_true, if_false, L_ite, L_bind, L_const, le_nat, if_true, if_pos (show (h.size : Int) ≤ (t.size : Int) by omega), split_L R 64 (by omega), Option.bind_some, splitP_pos, splitP_rd, ← hA, hAe, if_neg (show ¬ (endP R 64 : Int) = ((t.size - h.size : Nat) : Int) by omega), hw, if_pos (show ((endP R 64 + 1 : Nat) : Int) ≤ ((t.size - h.size : Nat) : Int) by omega), Int.toNat_natCast, ← hB, henc, if_pos (show line.size + 1 ≤ 9223372036854775807 by omega), toList_beq]
      cases recB A B <;> rfl
    refine ⟨A, B, _, e1, e2, fun h => ?_⟩
    simp only [Bool.and_eq_true, decide_eq_true_eq] at h
    exact h
theorem decode_both (n : Nat) (line : ByteArray) (hn : n < 60) (hl : line.size ≤ 10000000) :
    ∃ (a b : ByteArray) (ok : Bool), L (fun k => spec_l12Decode.f k line (n : Int)) = some (a, b, ok) ∧ L (fun k => impl_decode.f k (n : Int) line) = some (a, b, ok) ∧ (ok = true → recB a b = true ∧ lineP n a b = line ++ nl1) := by
  have h1 := numP_size 1 n (by omega)
  have he := endP_le line 35
  have hsz := size_head line 35
  have hh : (numP n ++ (⟨#[32]⟩ : ByteArray)).size = (numP n).size + 1 := by rw [ByteArray.size_append, one_size]
  obtain ⟨T, hT⟩ : ∃ T, T = line.extract 0 (endP line 35) := ⟨_, rfl⟩
  rw [← hT] at hsz
  have es : L (fun k => spec_l12Decode.f k line (n : Int)) = L (fun k => spec_l12Decode.j0 k line (n : Int) (numP n ++ (⟨#[32]⟩ : ByteArray)) T (decide ((T.size : Int) < ((numP n).size : Int) + 1) || !decide (T.extract 0 ((numP n).size + 1) = numP n ++ (⟨#[32]⟩ : ByteArray)))) := by
    simp only [spec_l12Decode.f, L_ite, L_bind, L_const, l1Num_L n (by omega), Option.bind_some, if_pos (show (numP n).size + 1 ≤ 9223372036854775807 by omega), l1Split_L line 35 (by omega), splitP_pos, if_true, splitP_rd, ← hT, toList_bne]
    by_cases hc : (T.size : Int) < ((numP n).size : Int) + 1
    · rw [if_pos hc]
      simp only [hc, decide_true, Bool.true_or]
    · rw [if_neg hc, if_pos (by omega), if_pos (by omega)]
      simp only [hc, decide_false, Bool.false_or]
      rw [show (((numP n).size : Int) + 1).toNat = (numP n).size + 1 by omega]
  have ei : L (fun k => impl_decode.f k (n : Int) line) = L (fun k => impl_decode.j0 k (n : Int) line (numP n ++ (⟨#[32]⟩ : ByteArray)) T (decide ((T.size : Int) < ((numP n).size : Int) + 1) || !decide (T.extract 0 ((numP n).size + 1) = numP n ++ (⟨#[32]⟩ : ByteArray)))) := by
    simp only [impl_decode.f, L_ite, L_bind, L_const, text_L n (by omega), Option.bind_some, if_pos (show (numP n).size + 1 ≤ 9223372036854775807 by omega), split_L line 35 (by omega), splitP_pos, if_true, splitP_rd, ← hT, toList_bne]
    by_cases hc : (T.size : Int) < ((numP n).size : Int) + 1
    · rw [if_pos hc]
      simp only [hc, decide_true, Bool.true_or]
    · rw [if_neg hc, if_pos (by omega), if_pos (by omega)]
      simp only [hc, decide_false, Bool.false_or]
      rw [show (((numP n).size : Int) + 1).toNat = (numP n).size + 1 by omega]
  rw [es, ei]
  by_cases hc : (T.size : Int) < ((numP n).size : Int) + 1
  · simp only [hc, decide_true, Bool.true_or]
    refine ⟨⟨#[]⟩, ⟨#[]⟩, false, ?_, ?_, fun h => by cases h⟩
    · rw [L_shift]
      simp only [spec_l12Decode.j0, if_true, L_const]
    · rw [L_shift]
      simp only [impl_decode.j0, if_true, L_const]
  · simp only [hc, decide_false, Bool.false_or]
    cases hd : decide (T.extract 0 ((numP n).size + 1) = numP n ++ (⟨#[32]⟩ : ByteArray)) with
    | false =>
      refine ⟨⟨#[]⟩, ⟨#[]⟩, false, ?_, ?_, fun h => by cases h⟩
      · rw [L_shift]
        simp only [spec_l12Decode.j0, Bool.not_false, if_true, L_const]
      · rw [L_shift]
        simp only [impl_decode.j0, Bool.not_false, if_true, L_const]
    | true =>
      simp only [Bool.not_true]
      exact decode_j n line _ T hn (by omega) (by omega) hl
theorem recovered_scan (s : ByteArray) (recs : List S25) (at' : Int) (hs : s.size ≤ 10000000) : ∀ d i : Nat, i + d = s.size →
    L (fun k => impl_recovered.l1 k s recs at' (i : Int)) = L (fun k => impl_recovered.j2 k s recs at' ((nxtP s 10 d i : Nat) : Int))
  | 0, i, h => by
    rw [L_shift]
    simp only [impl_recovered.l1, if_neg (show ¬ (i : Int) < (s.size : Int) by omega), nxtP]
  | d + 1, i, h => by
    rw [L_shift]
    simp only [impl_recovered.l1, if_pos (show (i : Int) < (s.size : Int) by omega), le_nat, if_true, wrapn (show i ≤ 9223372036854775806 by omega), L_ite, nxtP, recovered_scan s recs at' hs d (i + 1) (by omega)]
    by_cases hb : bt s (i : Int) = 10
    · rw [if_pos hb, if_pos hb]
    · rw [if_neg hb, if_neg hb]
theorem sub_same {E s a : Nat} (h : E - a = s - a) (h1 : a ≤ E) (h2 : a ≤ s) : E = s := by omega
theorem at_add1 (a E : Nat) (h : a ≤ E) (hE : E ≤ 3000000) : wrap64 (wrap64 ((a : Int) + ((E - a : Nat) : Int)) + 1) = ((E + 1 : Nat) : Int) := by
  rw [wrap_id (n := (a : Int) + ((E - a : Nat) : Int)) (by omega) (by omega), wrap_id (by omega) (by omega)]
  omega
theorem at_add2 (a E : Nat) (h : a ≤ E) (hE : E ≤ 3000000) : wrap64 ((a : Int) + wrap64 (((E - a : Nat) : Int) + 1)) = ((E + 1 : Nat) : Int) := by
  rw [wrap_id (n := ((E - a : Nat) : Int) + 1) (by omega) (by omega), wrap_id (by omega) (by omega)]
  omega
theorem open_l (s : ByteArray) (hs : s.size ≤ 3000000) : ∀ (m at' : Nat) (recs : List S25), s.size - at' ≤ m → at' ≤ s.size → recs.length ≤ 60 →
    ∃ (R : List S25) (e : Nat), L (fun k => spec_l12Open.l0 k s recs (at' : Int)) = some (R, (e : Int)) ∧ L (fun k => impl_recovered.l0 k s recs (at' : Int)) = some (R, (e : Int)) ∧ at' ≤ e ∧ e ≤ s.size ∧ recs.length ≤ R.length ∧ R.length ≤ 60 ∧ e ≤ at' + 372 * (R.length - recs.length) := by
  intro m
  induction m with
  | zero =>
    intro at' recs hm hat h60
    obtain rfl : at' = s.size := by omega
    refine ⟨recs, s.size, ?_, ?_, by omega, by omega, by omega, h60, by omega⟩
    · rw [L_shift]
      simp only [spec_l12Open.l0, if_neg (show ¬ (s.size : Int) < (s.size : Int) by omega)]
      rw [L_shift]
      simp only [spec_l12Open.j1, Bool.false_eq_true, if_false, L_const]
    · rw [L_shift]
      simp only [impl_recovered.l0, L_ite, L_const, recovered_scan s recs _ (by omega) 0 s.size (by omega), nxtP]
      rw [L_shift]
      simp only [impl_recovered.j2, if_true, L_const]
      by_cases h : (recs.length : Int) < 60
      · rw [if_pos h]
      · rw [if_neg h]
  | succ m ih =>
    intro at' recs hm hat h60
    by_cases hfull : recs.length < 60
    · by_cases hend : at' = s.size
      · exact ih at' recs (by omega) hat h60
      · have hX : (s.extract at' s.size).size = s.size - at' := by rw [ByteArray.size_extract, Nat.min_self]
        have hX9 : (s.extract at' s.size).size ≤ 1000000000 := by
          rw [hX]
          omega
        obtain ⟨E, hE⟩ : ∃ E, E = nxtP s 10 (s.size - at') at' := ⟨_, rfl⟩
        have hEl := nxtP_le s 10 (s.size - at') at'
        rw [← hE] at hEl
        have hE9 : E ≤ 3000000 := by omega
        have hEi : (at' : Int) ≤ (E : Int) := by omega
        have hEs : (E : Int) ≤ (s.size : Int) := by omega
        have hE2 : endP (s.extract at' s.size) 10 = E - at' := by
          have := nxtP_ext s 10 at' (s.size - at') 0 (by omega)
          rw [endP, hX]
          simp only [Nat.add_zero] at this
          omega
        have hhead : (s.extract at' s.size).extract 0 (endP (s.extract at' s.size) 10) = s.extract at' E := by
          rw [hE2, ByteArray.extract_extract, show min (at' + (E - at')) s.size = E by omega, Nat.add_zero]
        have hls : (s.extract at' E).size = E - at' := by
          rw [ByteArray.size_extract]
          omega
        obtain ⟨a, b, ok, hds, hdi, hok⟩ := decode_both recs.length (s.extract at' E) hfull (by omega)
        have hsp : L (fun k => spec_l12Open.l0 k s recs (at' : Int)) = if E = s.size then some (recs, (at' : Int)) else if ok = true then L (fun k => spec_l12Open.l0 k s (recs ++ [⟨a, b⟩]) ((E + 1 : Nat) : Int)) else some (recs, (at' : Int)) := by
          rw [L_shift]
          simp only [spec_l12Open.l0, if_pos (show (at' : Int) < (s.size : Int) by omega), show decide ((recs.length : Int) < 60) = true from decide_eq_true (by omega)]
          rw [L_shift]
          have e3 := at_add1 at' E hEl.1 hE9
          simp only [spec_l12Open.j1, if_true, le_nat, if_pos (show (at' : Int) ≤ (s.size : Int) by omega), Int.toNat_natCast, L_ite, L_bind, L_const, l1Split_L (s.extract at' s.size) 10 hX9, Option.bind_some, splitP_pos, splitP_rd, hhead, hds, hls, e3, if_pos (show recs.length < 4398046511104 by omega)]
          by_cases h2 : E = s.size
          · have h2' : endP (s.extract at' s.size) 10 = (s.extract at' s.size).size := by
              rw [hE2, hX, h2]
            rw [if_pos ((splitP_two (s.extract at' s.size) 10).2 h2'), if_pos h2]
          · have h2' : ¬ endP (s.extract at' s.size) 10 = (s.extract at' s.size).size := by
              rw [hE2, hX]
              exact fun h => h2 (sub_same h hEl.1 hat)
            rw [if_neg (fun h => h2' ((splitP_two (s.extract at' s.size) 10).1 h)), if_neg h2]
        have him : L (fun k => impl_recovered.l0 k s recs (at' : Int)) = if E = s.size then some (recs, (at' : Int)) else if ok = true then L (fun k => impl_recovered.l0 k s (recs ++ [⟨a, b⟩]) ((E + 1 : Nat) : Int)) else some (recs, (at' : Int)) := by
          rw [L_shift]
          simp only [impl_recovered.l0, if_pos (show (recs.length : Int) < 60 by omega), recovered_scan s recs _ (by omega) (s.size - at') at' (by omega), ← hE]
          rw [L_shift]
          have e3 := at_add2 at' E hEl.1 hE9
          simp only [impl_recovered.j2, le_nat, if_true, if_pos hEi, if_pos hEs, Int.toNat_natCast, L_ite, L_bind, L_const, hdi, Option.bind_some, hls, e3, if_pos (show recs.length < 4398046511104 by omega)]
          by_cases h2 : E = s.size
          · rw [if_pos (congrArg Nat.cast h2), if_pos h2]
          · have h2' : ¬ (E : Int) = (s.size : Int) := fun h => h2 (Int.ofNat_inj.1 h)
            rw [if_neg h2', if_neg h2]
        rw [hsp, him]
        by_cases h2 : E = s.size
        · rw [if_pos h2, if_pos h2]
          exact ⟨recs, at', rfl, rfl, by omega, by omega, by omega, h60, by omega⟩
        · rw [if_neg h2, if_neg h2]
          cases ok with
          | false =>
            simp only [Bool.false_eq_true, if_false]
            exact ⟨recs, at', rfl, rfl, by omega, by omega, by omega, h60, by omega⟩
          | true =>
            obtain ⟨hr, hl⟩ := hok rfl
            have hz := lineP_size hfull hr
            rw [hl, ByteArray.size_append, hls, show nl1.size = 1 from rfl] at hz
            simp only [if_true]
            obtain ⟨R, e, h3, h4, h5, h6, h7, h8, h9⟩ := ih (E + 1) (recs ++ [⟨a, b⟩]) (by omega) (by omega) (by simp; omega)
            simp only [List.length_append, List.length_cons, List.length_nil] at h7 h9
            exact ⟨R, e, h3, h4, by omega, h6, by omega, h8, by omega⟩
    · refine ⟨recs, at', ?_, ?_, by omega, by omega, by omega, h60, by omega⟩
      · rw [L_shift]
        simp only [spec_l12Open.l0, show decide ((recs.length : Int) < 60) = false from decide_eq_false (by omega), ite_self]
        rw [L_shift]
        simp only [spec_l12Open.j1, Bool.false_eq_true, if_false, L_const]
      · rw [L_shift]
        simp only [impl_recovered.l0, if_neg (show ¬ (recs.length : Int) < 60 by omega), L_const]
theorem open_both (s : ByteArray) (hs : s.size ≤ 3000000) :
    ∃ (R : List S25) (e : Nat), L (fun k => spec_l12Open.f k s) = some (R, (e : Int)) ∧ L (fun k => impl_recovered.f k s) = some (R, (e : Int)) ∧ e ≤ s.size ∧ R.length ≤ 60 ∧ e ≤ 22320 := by
  obtain ⟨R, e, h1, h2, h3, h4, h5, h6, h7⟩ := open_l s hs s.size 0 [] (by omega) (by omega) (by simp)
  simp only [List.length_nil] at h7
  exact ⟨R, e, h1, h2, h4, h6, by omega⟩
theorem Valid_both (D P : ByteArray) (c : Int) (h : D.size + P.size ≤ 1048576) :
    ∃ b : Bool, L (fun k => spec_l12Valid.f k D P c) = some b ∧ L (fun k => impl_IsValidLog.f k D P c) = some b ∧ (b = true → 0 ≤ c ∧ c ≤ 60) := by
  have hs : (D ++ P).size = D.size + P.size := ByteArray.size_append
  obtain ⟨R, e, h1, h2, h3, h4, h5⟩ := open_both (D ++ P) (by omega)
  obtain ⟨R', e', h1', h2', h3', h4', h5'⟩ := open_both D (by omega)
  have ew : wrap64 ((D.size : Int) + (P.size : Int)) = ((D.size + P.size : Nat) : Int) := by
    rw [wrap_id (by omega) (by omega)]
    omega
  have e1 : ((R.length : Int) == c) = (c == (R.length : Int)) := by
    rw [Bool.eq_iff_iff, beq_iff_eq, beq_iff_eq]
    exact eq_comm
  have hi : L (fun k => impl_IsValidLog.f k D P c) = if (e : Int) = ((D.size + P.size : Nat) : Int) then (if (e' : Int) = (D.size : Int) then some (c == (R.length : Int)) else some false) else some false := by
    simp only [impl_IsValidLog.f, if_pos (show D.size + P.size ≤ 9223372036854775807 by omega), L_ite, L_bind, L_const, h2, h2', Option.bind_some, ew]
  by_cases hbig : D.size + P.size > 30000
  · refine ⟨false, ?_, ?_, fun h => by cases h⟩
    · simp only [spec_l12Valid.f, ew, if_pos (show ((D.size + P.size : Nat) : Int) > 30000 by omega), L_const]
    · rw [hi, if_neg (by omega)]
  · have hsp : L (fun k => spec_l12Valid.f k D P c) = if (e : Int) = ((D.size + P.size : Nat) : Int) then (if (e' : Int) = (D.size : Int) then some (c == (R.length : Int)) else some false) else some false := by
      simp only [spec_l12Valid.f, ew, if_neg (show ¬ ((D.size + P.size : Nat) : Int) > 30000 by omega), if_pos (show D.size + P.size ≤ 9223372036854775807 by omega), L_ite, L_bind, L_const, h1, h1', Option.bind_some, e1]
    rw [hi, hsp]
    by_cases c1 : (e : Int) = ((D.size + P.size : Nat) : Int)
    · rw [if_pos c1]
      by_cases c2 : (e' : Int) = (D.size : Int)
      · rw [if_pos c2]
        refine ⟨_, rfl, rfl, fun h => ?_⟩
        have := beq_iff_eq.1 h
        omega
      · rw [if_neg c2]
        exact ⟨false, rfl, rfl, fun h => by cases h⟩
    · rw [if_neg c1]
      exact ⟨false, rfl, rfl, fun h => by cases h⟩
theorem wf_u8 {y : Int} (h : (Lit.int .u8 y).wf = true) : 0 ≤ y ∧ y < 256 := by
  have h1 : (decide (IntKind.u8.min ≤ y) && decide (y ≤ IntKind.u8.max)) = true := h
  rw [Bool.and_eq_true, decide_eq_true_eq, decide_eq_true_eq] at h1
  have e1 : IntKind.u8.min = 0 := rfl
  have e2 : IntKind.u8.max = 255 := rfl
  omega
theorem u64_rng (n : Int) : 0 ≤ IntKind.u64.wrap n ∧ IntKind.u64.wrap n < 18446744073709551616 := by
  rw [IntKind.wrap_u64]
  omega
theorem u64_255 (x : Int) (h0 : 0 ≤ x) (h1 : x < 18446744073709551616) : Go.bits .and .u64 x 255 = x % 256 :=
  bits_mask .u64 64 (by decide) (fun n h0 h1 => by rw [IntKind.wrap_u64]; have : (2 : Int) ^ 64 = 18446744073709551616 := rfl; omega) 8 (by decide) x h0 (by have : (2 : Int) ^ 64 = 18446744073709551616 := rfl; omega)
theorem curByte (X : Int) : ∃ v, wrap64 (Go.bits .and .u64 (IntKind.u64.wrap X / 1099511627776) 255) = v ∧ 0 ≤ v ∧ v ≤ 255 := by
  have h := u64_rng X
  generalize IntKind.u64.wrap X = Y at h
  rw [u64_255 (Y / 1099511627776) (by omega) (by omega)]
  exact ⟨(Y / 1099511627776) % 256, wrap_id (by omega) (by omega), by omega, by omega⟩
/-- Bytes. -/
def Byt (c : List Int) : Prop := c.length ≤ 100000 ∧ ∀ y ∈ c, 0 ≤ y ∧ y < 256
theorem cur_next (c : List Int) (hc : Byt c) (a s : Int) (h0 : 0 ≤ a) (h1 : a ≤ 1000000000) : ∃ v s', spec_l1Cur_next.f c a s = some (v, a + 1, s') ∧ 0 ≤ v ∧ v ≤ 255 := by
  have e1 : wrap64 (a + 1) = a + 1 := wrap_id (by omega) (by omega)
  by_cases hl : a < (c.length : Int)
  · have hm : rd c a ∈ c := getD_mem (by omega)
    have hv := hc.2 _ hm
    have e2 : wrap64 (rd c a) = rd c a := wrap_id (by omega) (by omega)
    obtain ⟨s', hs'⟩ : ∃ s', spec_l1Cur_next.f c a s = some (rd c a, a + 1, s') := by
      rw [spec_l1Cur_next.f, if_pos hl, if_pos h0, e1, if_pos (show a + 1 ≤ (c.length : Int) by omega), e2]
      exact ⟨_, rfl⟩
    exact ⟨rd c a, s', hs', hv.1, by omega⟩
  · obtain ⟨v, e, v0, v1⟩ := curByte (IntKind.u64.wrap ((IntKind.u64.wrap (s * 6364136223846793005)) + 0) + 462197)
    obtain ⟨s', hs'⟩ : ∃ s', spec_l1Cur_next.f c a s = some (v, a + 1, s') := by
      rw [spec_l1Cur_next.f, if_neg hl, e1, if_neg (show ¬ a + 1 ≤ (c.length : Int) by omega), e]
      exact ⟨_, rfl⟩
    exact ⟨v, s', hs', v0, v1⟩
theorem cur_pick (c : List Int) (hc : Byt c) (a s n : Int) (h0 : 0 ≤ a) (h1 : a ≤ 900000000) : ∃ r a' s', spec_l1Cur_pick.f c a s n = some (r, a', s') ∧ 0 ≤ r ∧ (r < n ∨ r = 0 ∧ n ≤ 1) ∧ a ≤ a' ∧ a' ≤ a + 2 := by
  by_cases hn : n ≤ 1
  · exact ⟨0, a, s, by rw [spec_l1Cur_pick.f, if_pos hn], by omega, .inr ⟨rfl, hn⟩, by omega, by omega⟩
  · obtain ⟨v, s1, e1, v0, v1⟩ := cur_next c hc a s h0 (by omega)
    by_cases hb : n > 200
    · obtain ⟨u, s2, e2, u0, u1⟩ := cur_next c hc (a + 1) s1 (by omega) (by omega)
      have e3 : wrap64 (wrap64 (v * 256) + u) = v * 256 + u := by rw [wrap_id (n := v * 256) (by omega) (by omega), wrap_id (by omega) (by omega)]
      refine ⟨Int.tmod (v * 256 + u) n, a + 1 + 1, s2, ?_, Int.tmod_nonneg _ (by omega), .inl (Int.tmod_lt_of_pos _ (by omega)), by omega, by omega⟩
      rw [spec_l1Cur_pick.f, if_neg hn, e1, Option.bind_some]
      simp only [if_pos hb, e2, Option.bind_some, if_neg (show ¬ n = 0 by omega), e3]
    · refine ⟨Int.tmod v n, a + 1, s1, ?_, Int.tmod_nonneg _ v0, .inl (Int.tmod_lt_of_pos _ (by omega)), by omega, by omega⟩
      rw [spec_l1Cur_pick.f, if_neg hn, e1, Option.bind_some]
      simp only [if_neg hb, if_neg (show ¬ n = 0 by omega)]
theorem cur_one (c : List Int) (hc : Byt c) (a s n : Int) (h0 : 0 ≤ a) (h1 : a ≤ 900000000) : ∃ b a' s', spec_l1Cur_one.f c a s n = some (b, a', s') ∧ a ≤ a' ∧ a' ≤ a + 2 := by
  obtain ⟨r, a', s', e, _, _, h2, h3⟩ := cur_pick c hc a s n h0 h1
  exact ⟨r == 0, a', s', by rw [spec_l1Cur_one.f, e, Option.bind_some], h2, h3⟩
theorem cur_among (c : List Int) (hc : Byt c) (l : List Int) (hl : 0 < l.length) (a s : Int) (h0 : 0 ≤ a) (h1 : a ≤ 900000000) : ∃ z a' s', spec_l1Cur_among.f c a s l = some (z, a', s') ∧ z ∈ l ∧ a ≤ a' ∧ a' ≤ a + 2 := by
  obtain ⟨r, a', s', e, r0, r1, h2, h3⟩ := cur_pick c hc a s (l.length : Int) h0 h1
  have hr : r < (l.length : Int) := by omega
  refine ⟨rd l r, a', s', ?_, getD_mem (by omega), h2, h3⟩
  rw [spec_l1Cur_among.f, e, Option.bind_some]
  simp only [if_pos r0, if_pos hr]
theorem vCut_L (c : List Int) (hc : Byt c) (hl : c.length ≤ 70000) (n : Int) (hn : 0 ≤ n) : ∃ c', laws_vCut.f c n = some c' ∧ Byt c' := by
  have key : ∀ m : Int, 0 ≤ m → m ≤ (c.length : Int) → Byt (c.drop m.toNat ++ [m % 256]) := fun m h0 h1 => by
    refine ⟨by simp; omega, fun y hy => ?_⟩
    rcases List.mem_append.1 hy with h | h
    · exact hc.2 y (List.mem_of_mem_drop h)
    · rw [List.mem_singleton] at h
      omega
  by_cases hb : n > (c.length : Int)
  · refine ⟨_, ?_, key (c.length : Int) (by omega) (by omega)⟩
    simp only [laws_vCut.f, if_pos hb, Option.bind_some, le_nat, if_true, List.nil_append, List.length_nil, Nat.zero_add, if_pos (show (c.length : Int) ≤ (c.length : Int) by omega)]
    rw [if_pos (by simp), if_pos (by simp)]
  · refine ⟨_, ?_, key n hn (by omega)⟩
    simp only [laws_vCut.f, if_neg hb, Option.bind_some, if_pos hn, List.nil_append, List.length_nil, Nat.zero_add, if_pos (show n ≤ (c.length : Int) by omega)]
    rw [if_pos (by simp; omega), if_pos (by simp; omega)]
theorem lg_ext {a b : ByteArray} (hs : a.size = b.size) (h : ∀ i : Nat, i < a.size → bt a (i : Int) = bt b (i : Int)) : a = b := by
  refine ByteArray.ext_getElem hs (fun i h1 h2 => ?_)
  have := h i h1
  rw [bt_get a i h1, bt_get b i h2] at this
  exact UInt8.toNat_inj.1 (by omega)
theorem lg_emp : (⟨#[]⟩ : ByteArray) = ByteArray.empty := rfl
/-- An end is where the byte stands first. -/
theorem nxtP_at (s : ByteArray) (b : Int) : ∀ (d i : Nat) (E : Nat), i ≤ E → E < i + d → (∀ j : Nat, i ≤ j → j < E → bt s (j : Int) ≠ b) → bt s (E : Int) = b → nxtP s b d i = E
  | 0, i, E, h1, h2, _, _ => by omega
  | d + 1, i, E, h1, h2, h3, h4 => by
    rw [nxtP]
    by_cases e : i = E
    · subst e
      rw [if_pos h4]
    · rw [if_neg (h3 i (Nat.le_refl _) (by omega))]
      exact nxtP_at s b d (i + 1) E (by omega) (by omega) (fun j a c => h3 j (by omega) c) h4
theorem end_mid (s t : ByteArray) (x : UInt8) (hs : noB s (x.toNat : Int)) : endP (s ++ ((⟨#[x]⟩ : ByteArray) ++ t)) (x.toNat : Int) = s.size := by
  have hz : (s ++ ((⟨#[x]⟩ : ByteArray) ++ t)).size = s.size + (1 + t.size) := by rw [ByteArray.size_append, ByteArray.size_append, one_size]
  refine nxtP_at _ _ _ 0 s.size (Nat.zero_le _) (by omega) (fun j _ h => ?_) ?_
  · rw [bt_left s _ j h]
    exact hs j h
  · rw [bt_right s _ s.size (Nat.le_refl _) (by rw [ByteArray.size_append, one_size]; omega), Nat.sub_self, bt_left _ _ 0 (by rw [one_size]; omega)]
    rfl
theorem noB_of_end {s : ByteArray} {b : Int} (h : endP s b = s.size) : noB s b := by
  have key : ∀ (d i : Nat), i + d = s.size → nxtP s b d i = s.size → ∀ j : Nat, i ≤ j → j < s.size → bt s (j : Int) ≠ b := by
    intro d
    induction d with
    | zero => intro i h1 _ j h2 h3; omega
    | succ d ih =>
      intro i h1 h2 j h3 h4
      rw [nxtP] at h2
      split at h2
      · omega
      · rename_i hb
        by_cases e : i = j
        · subst e
          exact hb
        · exact ih (i + 1) (by omega) h2 j (by omega) h4
  intro i hi
  exact key s.size 0 (by omega) h i (Nat.zero_le _) hi
theorem num_no {n : Nat} {b : Int} (hb : b < 48 ∨ 57 < b) : noB (numP n) b := by
  intro i hi
  have := numP_at n i hi
  omega
/-- A line of a valid record is decoded as that record. -/
theorem decode_line (n : Nat) (a b line : ByteArray) (hn : n < 60) (hr : recB a b = true) (hl : lineP n a b = line ++ nl1) : L (fun k => impl_decode.f k (n : Int) line) = some (a, b, true) := by
  obtain ⟨⟨s1, s2, s3⟩, p1, p2, p3⟩ := recB_iff.1 hr
  have h1 := numP_size 1 n (by omega)
  have hline : line = sealP (bodyP n a b) := by
    rw [lineP] at hl
    exact ((ByteArray.append_left_inj _).1 hl).symm
  have hbs := bodyP_size n a b
  have hls := sealP_size (bodyP n a b)
  have hls2 : (bodyP n a b).size + 1 ≤ line.size := by
    rw [hline, sealP, ByteArray.size_append, ByteArray.size_append, one_size]
    omega
  have hl9 : line.size ≤ 10000 := by rw [hline]; omega
  have g1 : (((bodyP n a b).size : Nat) : Int) = ((numP n).size : Int) + 1 + (a.size : Int) + 1 + (b.size : Int) := by rw [hbs]; omega
  have g2 : ¬ ((bodyP n a b).size : Int) < ((numP n).size : Int) + 1 := by omega
  have g3 : (0 : Int) ≤ ((numP n).size : Int) + 1 := by omega
  have g4 : ((numP n).size : Int) + 1 ≤ ((bodyP n a b).size : Int) := by omega
  have g5 : (((numP n).size : Int) + 1).toNat = (numP n).size + 1 := by omega
  have g6 : (((numP n).size + 1 : Nat) : Int) ≤ ((bodyP n a b).size : Int) := by omega
  have g7 : ¬ (a.size : Int) = (((bodyP n a b).size - ((numP n).size + 1) : Nat) : Int) := by omega
  have g8 : ((a.size + 1 : Nat) : Int) ≤ (((bodyP n a b).size - ((numP n).size + 1) : Nat) : Int) := by omega
  have g9 : line.size + 1 ≤ 9223372036854775807 := by omega
  have g10 : (numP n).size + 1 ≤ 9223372036854775807 := by omega
  have g11 : line.size ≤ 1000000000 := by omega
  have g12 : a.size + (1 + b.size) ≤ 1000000000 := by omega
  have g13 : (bodyP n a b).size - ((numP n).size + 1) = a.size + 1 + b.size := by omega
  have g14 : a.size ≤ 10000000 := by omega
  have g15 : b.size ≤ 10000000 := by omega
  have g16 : n ≤ 1000000000 := by omega
  have hw : wrap64 ((a.size : Int) + 1) = ((a.size + 1 : Nat) : Int) := wrapn (by omega)
  have he35 : endP line 35 = (bodyP n a b).size := by
    rw [hline, sealP, ByteArray.append_assoc]
    exact end_mid (bodyP n a b) (numP (sumN (bodyP n a b))) 35 (bodyP_no hr 35 (.inl rfl))
  have hT : line.extract 0 (endP line 35) = bodyP n a b := by
    rw [he35, hline, sealP, ByteArray.append_assoc]
    exact ByteArray.extract_append_eq_left rfl
  obtain ⟨H, hH⟩ : ∃ H, H = numP n ++ (⟨#[32]⟩ : ByteArray) := ⟨_, rfl⟩
  obtain ⟨R, hR⟩ : ∃ R, R = a ++ ((⟨#[64]⟩ : ByteArray) ++ b) := ⟨_, rfl⟩
  have hHs : H.size = (numP n).size + 1 := by rw [hH, ByteArray.size_append, one_size]
  have hRs : R.size = a.size + (1 + b.size) := by rw [hR, ByteArray.size_append, ByteArray.size_append, one_size]
  have hbody : bodyP n a b = H ++ R := by
    rw [hH, hR, bodyP]
    simp only [ByteArray.append_assoc]
  have hT1 : (bodyP n a b).extract 0 ((numP n).size + 1) = H := by
    rw [hbody]
    exact ByteArray.extract_append_eq_left hHs.symm
  have hT2 : (bodyP n a b).extract ((numP n).size + 1) (bodyP n a b).size = R := by
    rw [hbody, ByteArray.size_append, ← hHs]
    exact ByteArray.extract_append_eq_right rfl rfl
  have he64 : endP R 64 = a.size := by
    rw [hR]
    exact end_mid a b 64 (noB_of_end p3)
  have hA : R.extract 0 a.size = a := by
    rw [hR]
    exact ByteArray.extract_append_eq_left rfl
  have hB : R.extract (a.size + 1) ((bodyP n a b).size - ((numP n).size + 1)) = b := by
    rw [hR, ← ByteArray.append_assoc]
    refine ByteArray.extract_append_eq_right ?_ ?_
    · rw [ByteArray.size_append, one_size]
    · rw [ByteArray.size_append, one_size, g13]
  have henc := EncodeRecord_L n a b hn g14 g15
  rw [if_pos hr] at henc
  have e1 : L (fun k => impl_decode.f k (n : Int) line) = L (fun k => impl_decode.j0 k (n : Int) line H (bodyP n a b) false) := by
    simp only [impl_decode.f, L_ite, L_bind, L_const, text_L n g16, Option.bind_some, if_pos g10, split_L line 35 g11, splitP_pos, if_true, splitP_rd, hT, toList_bne, ← hH]
    rw [if_neg g2, if_pos g3, if_pos g4, g5, hT1]
    simp only [decide_true, Bool.not_true]
  rw [e1, L_shift]
  simp only [impl_decode.j0, Bool.false_eq_true, if_false, L_ite, L_bind, L_const, le_nat, if_true, hHs, if_pos g6, Int.toNat_natCast, hT2, split_L R 64 (by rw [hRs]; exact g12), Option.bind_some, splitP_pos, splitP_rd, he64, hA, if_neg g7, hw, if_pos g8, hB, henc, if_pos g9, toList_beq]
  rw [hl]
  simp [nl1]
/-- What a line decodes to: its record, or there is none. -/
theorem decode_is (n : Nat) (line : ByteArray) (hn : n < 60) (hl : line.size ≤ 10000000) : ∃ (a b : ByteArray) (ok : Bool), L (fun k => impl_decode.f k (n : Int) line) = some (a, b, ok) ∧ (ok = true → recB a b = true ∧ lineP n a b = line ++ nl1) ∧ ∀ x y : ByteArray, recB x y = true → lineP n x y = line ++ nl1 → ok = true ∧ x = a ∧ y = b := by
  obtain ⟨a, b, ok, _, h2, h3⟩ := decode_both n line hn hl
  refine ⟨a, b, ok, h2, h3, fun x y hx hy => ?_⟩
  have h4 := decode_line n x y line hn hx hy
  rw [h2] at h4
  simp only [Option.some.injEq, Prod.mk.injEq] at h4
  exact ⟨h4.2.2, h4.1.symm, h4.2.1.symm⟩
/-- The text of records from a number on. -/
def linesP : Nat → List S25 → ByteArray
  | _, [] => ByteArray.empty
  | n, x :: r => lineP n x.f0 x.f1 ++ linesP (n + 1) r
def okR (R : List S25) : Prop := ∀ x ∈ R, recB x.f0 x.f1 = true
theorem linesP_app : ∀ (R Q : List S25) (n : Nat), linesP n (R ++ Q) = linesP n R ++ linesP (n + R.length) Q
  | [], Q, n => by
    rw [List.nil_append, linesP, ByteArray.empty_append]
    rfl
  | x :: R, Q, n => by
    rw [List.cons_append, linesP, linesP, linesP_app R Q (n + 1), ByteArray.append_assoc, List.length_cons, show n + 1 + R.length = n + (R.length + 1) by omega]
theorem lineP_pos (n : Nat) (a b : ByteArray) : 1 ≤ (lineP n a b).size := by
  rw [lineP, ByteArray.size_append, one_size]
  omega
theorem linesP_pos : ∀ (R : List S25) (n : Nat), R.length ≤ (linesP n R).size
  | [], n => Nat.zero_le _
  | x :: R, n => by
    have h1 := lineP_pos n x.f0 x.f1
    have h2 := linesP_pos R (n + 1)
    rw [linesP, ByteArray.size_append, List.length_cons]
    omega
/-- A line is some bytes without a newline, and one. -/
theorem lineP_cut {n : Nat} {a b : ByteArray} (h : recB a b = true) : ∃ l : ByteArray, lineP n a b = l ++ nl1 ∧ noB l 10 := by
  refine ⟨sealP (bodyP n a b), rfl, ?_⟩
  rw [sealP]
  exact noB_app (noB_app (bodyP_no h 10 (.inr rfl)) (noB_one _ _ (by decide))) (num_no (.inl (by omega)))
theorem lg_sub1 {a E : Nat} (h : a ≤ E) (z : Nat) : a + (E - a + 1 + z) = E + 1 + z := by omega
theorem lg_sub2 {a E : Nat} (h : a ≤ E) : a + (E - a) = E := by omega
theorem lg_sub3 {a E s : Nat} (h : a ≤ E) (h2 : E < s) : E - a < s - a := by omega
/-- Where an open log stops: the records are those of the text, no more of them can be read. -/
theorem open_m (s : ByteArray) (hs : s.size ≤ 3000000) : ∀ (m at' : Nat) (recs : List S25), s.size - at' ≤ m → at' ≤ s.size → recs.length ≤ 60 →
    ∃ (R : List S25) (t : ByteArray), L (fun k => impl_recovered.l0 k s recs (at' : Int)) = some (recs ++ R, ((at' + (linesP recs.length R).size : Nat) : Int)) ∧ okR R ∧ recs.length + R.length ≤ 60 ∧ s.extract at' s.size = linesP recs.length R ++ t ∧
      ∀ (Q : List S25) (u : ByteArray), okR Q → recs.length + Q.length ≤ 60 → s.extract at' s.size = linesP recs.length Q ++ u → ∃ R', R = Q ++ R' ∧ (noB u 10 → R' = []) := by
  intro m
  induction m with
  | zero =>
    intro at' recs hm hat h60
    obtain rfl : at' = s.size := by omega
    have hemp : s.extract s.size s.size = ByteArray.empty := by rw [ByteArray.extract_eq_empty_iff]; omega
    refine ⟨[], ByteArray.empty, ?_, fun x hx => by simp at hx, by simpa using h60, by rw [hemp]; rfl, fun Q u hq h6 e => ?_⟩
    · rw [L_shift]
      simp only [impl_recovered.l0, L_ite, L_const, recovered_scan s recs _ (by omega) 0 s.size (by omega), nxtP]
      rw [L_shift]
      simp only [impl_recovered.j2, if_true, L_const, linesP, List.append_nil, ByteArray.size_empty, Nat.add_zero, ite_self]
    · have hz : (linesP recs.length Q ++ u).size = 0 := by rw [← e, hemp]; rfl
      have h1 := linesP_pos Q recs.length
      rw [ByteArray.size_append] at hz
      have : Q = [] := List.eq_nil_of_length_eq_zero (by omega)
      subst this
      exact ⟨[], rfl, fun _ => rfl⟩
  | succ m ih =>
    intro at' recs hm hat h60
    by_cases hfull : recs.length < 60
    · by_cases hend : at' = s.size
      · exact ih at' recs (by omega) hat h60
      · have hX : (s.extract at' s.size).size = s.size - at' := by rw [ByteArray.size_extract, Nat.min_self]
        obtain ⟨E, hE⟩ : ∃ E, E = nxtP s 10 (s.size - at') at' := ⟨_, rfl⟩
        have hEl := nxtP_le s 10 (s.size - at') at'
        rw [← hE] at hEl
        have hE9 : E ≤ 3000000 := by omega
        have hEi : (at' : Int) ≤ (E : Int) := by omega
        have hEs : (E : Int) ≤ (s.size : Int) := by omega
        have hE2 : endP (s.extract at' s.size) 10 = E - at' := by
          have := nxtP_ext s 10 at' (s.size - at') 0 (by omega)
          rw [endP, hX]
          simp only [Nat.add_zero] at this
          omega
        have hls : (s.extract at' E).size = E - at' := by
          rw [ByteArray.size_extract]
          omega
        obtain ⟨a, b, ok, hdi, hok, hcp⟩ := decode_is recs.length (s.extract at' E) hfull (by omega)
        have him : L (fun k => impl_recovered.l0 k s recs (at' : Int)) = if E = s.size then some (recs, (at' : Int)) else if ok = true then L (fun k => impl_recovered.l0 k s (recs ++ [⟨a, b⟩]) ((E + 1 : Nat) : Int)) else some (recs, (at' : Int)) := by
          rw [L_shift]
          simp only [impl_recovered.l0, if_pos (show (recs.length : Int) < 60 by omega), recovered_scan s recs _ (by omega) (s.size - at') at' (by omega), ← hE]
          rw [L_shift]
          have e3 := at_add2 at' E hEl.1 hE9
          simp only [impl_recovered.j2, le_nat, if_true, if_pos hEi, if_pos hEs, Int.toNat_natCast, L_ite, L_bind, L_const, hdi, Option.bind_some, hls, e3, if_pos (show recs.length < 4398046511104 by omega)]
          by_cases h2 : E = s.size
          · rw [if_pos (congrArg Nat.cast h2), if_pos h2]
          · have h2' : ¬ (E : Int) = (s.size : Int) := fun h => h2 (Int.ofNat_inj.1 h)
            rw [if_neg h2', if_neg h2]
        -- a text that begins with a line: its first newline is that line's
        have hline : ∀ (x : S25) (Q : List S25) (u : ByteArray), recB x.f0 x.f1 = true → s.extract at' s.size = linesP recs.length (x :: Q) ++ u → E ≠ s.size ∧ lineP recs.length x.f0 x.f1 = s.extract at' E ++ nl1 ∧ s.extract (E + 1) s.size = linesP (recs.length + 1) Q ++ u := by
          intro x Q u hx e
          obtain ⟨l, hl1, hl2⟩ := lineP_cut (n := recs.length) hx
          rw [linesP, hl1] at e
          have e' : s.extract at' s.size = l ++ (nl1 ++ (linesP (recs.length + 1) Q ++ u)) := by
            rw [e]
            simp only [ByteArray.append_assoc]
          have hEe : endP (s.extract at' s.size) 10 = l.size := by
            rw [e']
            exact end_mid l _ 10 hl2
          have hlE : l.size = E - at' := by omega
          have hsz : s.size - at' = l.size + (1 + (linesP (recs.length + 1) Q ++ u).size) := by
            rw [← hX, e', ByteArray.size_append, ByteArray.size_append]
            rfl
          have hl3 : s.extract at' E = l := by
            have h1 : (s.extract at' s.size).extract 0 l.size = l := by
              rw [e']
              exact ByteArray.extract_append_eq_left rfl
            rw [ByteArray.extract_extract, Nat.add_zero, show min (at' + l.size) s.size = E by omega] at h1
            exact h1
          refine ⟨by omega, by rw [hl3, hl1], ?_⟩
          have h1 : (s.extract at' s.size).extract (l.size + 1) (l.size + 1 + (linesP (recs.length + 1) Q ++ u).size) = linesP (recs.length + 1) Q ++ u := by
            rw [e', ← ByteArray.append_assoc]
            have hz : (l ++ nl1).size = l.size + 1 := ByteArray.size_append
            exact ByteArray.extract_append_eq_right hz.symm (by rw [hz])
          rw [ByteArray.extract_extract, show at' + (l.size + 1) = E + 1 by omega, show min (at' + (l.size + 1 + (linesP (recs.length + 1) Q ++ u).size)) s.size = s.size by omega] at h1
          exact h1
        rw [him]
        have hstop : E = s.size ∨ ok = false → ∃ (R : List S25) (t : ByteArray), some (recs, (at' : Int)) = some (recs ++ R, ((at' + (linesP recs.length R).size : Nat) : Int)) ∧ okR R ∧ recs.length + R.length ≤ 60 ∧ s.extract at' s.size = linesP recs.length R ++ t ∧
            ∀ (Q : List S25) (u : ByteArray), okR Q → recs.length + Q.length ≤ 60 → s.extract at' s.size = linesP recs.length Q ++ u → ∃ R', R = Q ++ R' ∧ (noB u 10 → R' = []) := by
          intro h
          refine ⟨[], s.extract at' s.size, by simp [linesP], fun x hx => by simp at hx, by simpa using h60, by rw [linesP, ByteArray.empty_append], fun Q u hq h6 e => ?_⟩
          cases Q with
          | nil => exact ⟨[], rfl, fun _ => rfl⟩
          | cons x Q =>
            obtain ⟨g1, g2, g3⟩ := hline x Q u (hq x List.mem_cons_self) e
            rcases h with h | h
            · exact absurd h g1
            · obtain ⟨g4, _⟩ := hcp x.f0 x.f1 (hq x List.mem_cons_self) g2
              rw [h] at g4
              cases g4
        by_cases h2 : E = s.size
        · rw [if_pos h2]
          exact hstop (.inl h2)
        · rw [if_neg h2]
          cases ok with
          | false =>
            simp only [Bool.false_eq_true, if_false]
            exact hstop (.inr rfl)
          | true =>
            obtain ⟨hr, hl⟩ := hok rfl
            simp only [if_true]
            obtain ⟨R, t, h3, h4, h5, h6, h7⟩ := ih (E + 1) (recs ++ [⟨a, b⟩]) (by omega) (by omega) (by simp; omega)
            simp only [List.length_append, List.length_cons, List.length_nil, Nat.zero_add] at h3 h5 h6 h7
            have hls2 : (lineP recs.length a b).size = E - at' + 1 := by
              rw [hl, ByteArray.size_append, hls]
              rfl
            have hEs2 : E < s.size := by omega
            have hEx : (s.extract E (E + 1)).size = 1 := by rw [ByteArray.size_extract, Nat.min_eq_left (show E + 1 ≤ s.size from hEs2), Nat.add_sub_cancel_left]
            have hq2 : E - at' < s.size - at' := lg_sub3 hEl.1 hEs2
            have hq3 : at' + (E - at') = E := lg_sub2 hEl.1
            have hq4 : ∀ z : Nat, at' + (E - at' + 1 + z) = E + 1 + z := fun z => lg_sub1 hEl.1 z
            have hbE : bt s (E : Int) = 10 := by
              have key : ∀ (d i : Nat), nxtP s 10 d i < i + d → bt s ((nxtP s 10 d i : Nat) : Int) = 10 := by
                intro d
                induction d with
                | zero => intro i h; simp [nxtP] at h
                | succ d ihd =>
                  intro i h
                  rw [nxtP] at h ⊢
                  split
                  · assumption
                  · rename_i hb
                    rw [if_neg hb] at h
                    exact ihd (i + 1) (by omega)
              rw [hE]
              exact key _ _ (by omega)
            have hsplit : s.extract at' s.size = lineP recs.length a b ++ s.extract (E + 1) s.size := by
              rw [hl]
              have hnl : nl1 = s.extract E (E + 1) := by
                refine lg_ext hEx.symm (fun i hi => ?_)
                · have hi0 : i = 0 := Nat.lt_one_iff.1 hi
                  subst hi0
                  rw [bt_get (s.extract E (E + 1)) 0 (by rw [hEx]; exact Nat.one_pos), ByteArray.getElem_extract]
                  rw [bt_get s E hEs2] at hbE
                  simp only [Nat.add_zero]
                  rw [hbE]
                  rfl
              rw [hnl, ByteArray.extract_append_extract, show min at' E = at' by omega, show max E (E + 1) = E + 1 by omega, ByteArray.extract_append_extract, show min at' (E + 1) = at' by omega, show max (E + 1) s.size = s.size by omega]
            refine ⟨⟨a, b⟩ :: R, t, ?_, ?_, by simp; omega, ?_, fun Q u hq hq6 e => ?_⟩
            · rw [h3, List.append_assoc, List.singleton_append, linesP, ByteArray.size_append, hls2]
              rw [hq4]
            · intro x hx
              rcases List.mem_cons.1 hx with rfl | hx
              · exact hr
              · exact h4 x hx
            · rw [hsplit, h6, linesP, ByteArray.append_assoc]
            · cases Q with
              | nil =>
                refine ⟨⟨a, b⟩ :: R, rfl, fun hn => ?_⟩
                exfalso
                rw [linesP, ByteArray.empty_append] at e
                rw [← e] at hn
                have := hn (E - at') (by rw [hX]; exact hq2)
                rw [bt_ext s at' (E - at') (by rw [hq3]; exact hEs2), hq3] at this
                exact this hbE
              | cons x Q =>
                obtain ⟨g1, g2, g3⟩ := hline x Q u (hq x List.mem_cons_self) e
                obtain ⟨_, g4, g5⟩ := hcp x.f0 x.f1 (hq x List.mem_cons_self) g2
                obtain ⟨R', g6, g7⟩ := h7 Q u (fun y hy => hq y (List.mem_cons_of_mem _ hy)) (by simp at hq6; omega) g3
                refine ⟨R', ?_, g7⟩
                have hx2 : x = ⟨a, b⟩ := by
                  cases x
                  simp only at g4 g5
                  rw [g4, g5]
                rw [g6, hx2]
                rfl
    · refine ⟨[], s.extract at' s.size, ?_, fun x hx => by simp at hx, by simpa using h60, by rw [linesP, ByteArray.empty_append], fun Q u hq h6 e => ?_⟩
      · rw [L_shift]
        simp only [impl_recovered.l0, if_neg (show ¬ (recs.length : Int) < 60 by omega), L_const, linesP, List.append_nil, ByteArray.size_empty, Nat.add_zero]
      · have : Q = [] := List.eq_nil_of_length_eq_zero (by omega)
        subst this
        exact ⟨[], rfl, fun _ => rfl⟩
/-- The records that are read from a text. -/
structure Opn (s : ByteArray) (R : List S25) : Prop where
  oi : L (fun k => impl_recovered.f k s) = some (R, (((linesP 0 R).size : Nat) : Int))
  os : L (fun k => spec_l12Open.f k s) = some (R, (((linesP 0 R).size : Nat) : Int))
  ok : okR R
  on : R.length ≤ 60
  ot : ∃ t, s = linesP 0 R ++ t
  om : ∀ (Q : List S25) (u : ByteArray), okR Q → Q.length ≤ 60 → s = linesP 0 Q ++ u → ∃ R', R = Q ++ R' ∧ (noB u 10 → R' = [])
theorem open_is (s : ByteArray) (hs : s.size ≤ 3000000) : ∃ R, Opn s R := by
  obtain ⟨R, t, h1, h2, h3, h4, h5⟩ := open_m s hs s.size 0 [] (by omega) (by omega) (by simp)
  obtain ⟨R2, e, g1, g2, _, _, _⟩ := open_both s hs
  rw [ByteArray.extract_zero_size] at h4 h5
  simp only [List.length_nil, Nat.zero_add, List.nil_append] at h1 h3 h4 h5
  have hi : L (fun k => impl_recovered.f k s) = some (R, (((linesP 0 R).size : Nat) : Int)) := h1
  rw [hi] at g2
  simp only [Option.some.injEq, Prod.mk.injEq] at g2
  refine ⟨R, hi, ?_, h2, h3, ⟨t, h4⟩, h5⟩
  rw [g1, ← g2.1, ← g2.2]
theorem noB_emp (b : Int) : noB ByteArray.empty b := fun i hi => absurd hi (by simp)
/-- A text of valid lines is read whole. -/
theorem open_all {s : ByteArray} {R Q : List S25} (h : Opn s R) (hq : okR Q) (hn : Q.length ≤ 60) (e : s = linesP 0 Q) : R = Q := by
  obtain ⟨R', h1, h2⟩ := h.om Q ByteArray.empty hq hn (by rw [e, ByteArray.append_empty])
  rw [h1, h2 (noB_emp 10), List.append_nil]
theorem open_whole {s : ByteArray} {R : List S25} (h : Opn s R) (e : (linesP 0 R).size = s.size) : s = linesP 0 R := by
  obtain ⟨t, ht⟩ := h.ot
  have hz : s.size = (linesP 0 R).size + t.size := by
    rw [← ByteArray.size_append, ← ht]
  have : t = ByteArray.empty := ByteArray.size_eq_zero_iff.1 (by omega)
  rw [ht, this, ByteArray.append_empty]
/-- A valid log: its texts are those of records. -/
def LogP (D P : ByteArray) (c : Int) (R RD : List S25) : Prop := okR R ∧ R.length ≤ 60 ∧ okR RD ∧ RD.length ≤ 60 ∧ D ++ P = linesP 0 R ∧ D = linesP 0 RD ∧ c = (R.length : Int)
theorem valid_is (D P : ByteArray) (c : Int) (h : D.size + P.size ≤ 1048576) :
    ∃ b : Bool, L (fun k => spec_l12Valid.f k D P c) = some b ∧ L (fun k => impl_IsValidLog.f k D P c) = some b ∧ (b = true ↔ ∃ R RD, LogP D P c R RD) := by
  obtain ⟨b, hs, hi, _⟩ := Valid_both D P c h
  refine ⟨b, hs, hi, ?_⟩
  have hz : (D ++ P).size = D.size + P.size := ByteArray.size_append
  obtain ⟨R, oR⟩ := open_is (D ++ P) (by omega)
  obtain ⟨RD, oD⟩ := open_is D (by omega)
  have ew : wrap64 ((D.size : Int) + (P.size : Int)) = ((D.size + P.size : Nat) : Int) := by
    rw [wrap_id (by omega) (by omega)]
    omega
  have hi2 : L (fun k => impl_IsValidLog.f k D P c) = if (((linesP 0 R).size : Nat) : Int) = ((D.size + P.size : Nat) : Int) then (if (((linesP 0 RD).size : Nat) : Int) = (D.size : Int) then some (c == (R.length : Int)) else some false) else some false := by
    simp only [impl_IsValidLog.f, if_pos (show D.size + P.size ≤ 9223372036854775807 by omega), L_ite, L_bind, L_const, oR.oi, oD.oi, Option.bind_some, ew]
  rw [hi] at hi2
  constructor
  · intro hb
    subst hb
    by_cases c1 : (((linesP 0 R).size : Nat) : Int) = ((D.size + P.size : Nat) : Int)
    · rw [if_pos c1] at hi2
      by_cases c2 : (((linesP 0 RD).size : Nat) : Int) = (D.size : Int)
      · rw [if_pos c2] at hi2
        have hc := beq_iff_eq.1 (Option.some.inj hi2).symm
        exact ⟨R, RD, oR.ok, oR.on, oD.ok, oD.on, open_whole oR (by rw [hz]; exact Int.ofNat_inj.1 c1), open_whole oD (Int.ofNat_inj.1 c2), hc⟩
      · rw [if_neg c2] at hi2
        cases hi2
    · rw [if_neg c1] at hi2
      cases hi2
  · rintro ⟨R', RD', h1, h2, h3, h4, h5, h6, h7⟩
    have e1 := open_all oR h1 h2 h5
    have e2 := open_all oD h3 h4 h6
    subst e1
    subst e2
    rw [if_pos (by rw [← h5, hz]), if_pos (by rw [← h6])] at hi2
    rw [Option.some.inj hi2, h7]
    exact beq_self_eq_true _
theorem records_i (D P : ByteArray) (c : Int) (h : D.size + P.size ≤ 1048576) {R RD : List S25} (hv : LogP D P c R RD) : L (fun k => impl_LogRecords.f k D P c) = some (R, true) := by
  obtain ⟨b, hs, hi, hb⟩ := valid_is D P c h
  have hb1 : b = true := hb.2 ⟨R, RD, hv⟩
  subst hb1
  have hz : (D ++ P).size = D.size + P.size := ByteArray.size_append
  obtain ⟨R', oR⟩ := open_is (D ++ P) (by omega)
  have e := open_all oR hv.1 hv.2.1 hv.2.2.2.2.1
  subst e
  simp only [impl_LogRecords.f, L_bind, L_ite, hi, bindS, if_true, if_pos (show D.size + P.size ≤ 9223372036854775807 by omega), oR.oi, L_const]
theorem records_s (D P : ByteArray) (c : Int) (h : D.size + P.size ≤ 1048576) {R RD : List S25} (hv : LogP D P c R RD) : L (fun k => spec_LogRecords.f k D P c) = some (R, true) := by
  obtain ⟨b, hs, hi, hb⟩ := valid_is D P c h
  have hb1 : b = true := hb.2 ⟨R, RD, hv⟩
  subst hb1
  have hz : (D ++ P).size = D.size + P.size := ByteArray.size_append
  obtain ⟨R', oR⟩ := open_is (D ++ P) (by omega)
  have e := open_all oR hv.1 hv.2.1 hv.2.2.2.2.1
  subst e
  simp only [spec_LogRecords.f, L_bind, L_ite, hs, bindS, if_true, if_pos (show D.size + P.size ≤ 9223372036854775807 by omega), oR.os, L_const]
theorem records_is (D P : ByteArray) (c : Int) (h : D.size + P.size ≤ 1048576) {R RD : List S25} (hv : LogP D P c R RD) : L (fun k => impl_LogRecords.f k D P c) = some (R, true) ∧ L (fun k => spec_LogRecords.f k D P c) = some (R, true) := ⟨records_i D P c h hv, records_s D P c h hv⟩
theorem records_no (D P : ByteArray) (c : Int) (hs : L (fun k => spec_l12Valid.f k D P c) = some false) (hi : L (fun k => impl_IsValidLog.f k D P c) = some false) : L (fun k => impl_LogRecords.f k D P c) = some (([] : List S25), false) ∧ L (fun k => spec_LogRecords.f k D P c) = some (([] : List S25), false) := by
  constructor
  · simp only [impl_LogRecords.f, L_bind, L_ite, hi, bindS, Bool.false_eq_true, if_false, L_const]
  · simp only [spec_LogRecords.f, L_bind, L_ite, hs, bindS, Bool.false_eq_true, if_false, L_const]
theorem append_is (D P : ByteArray) (c : Int) (A B : ByteArray) (h : D.size + P.size ≤ 1048576) (hA : A.size ≤ 1048576) (hB : B.size ≤ 1048576) :
    ∃ (X Y : ByteArray) (z st : Int), L (fun k => spec_AppendRecord.f k D P c A B) = some (X, Y, z, st) ∧ L (fun k => impl_AppendRecord.f k D P c A B) = some (X, Y, z, st) ∧ X.size + Y.size ≤ D.size + P.size + 372 ∧
      (st ≠ 0 → X = D ∧ Y = P ∧ z = c) ∧ (st = 0 → ∃ R RD, LogP D P c R RD ∧ LogP X Y z (R ++ [⟨A, B⟩]) RD) := by
  obtain ⟨b, hs, hi, hb⟩ := valid_is D P c h
  have j1 : L (fun k => spec_AppendRecord.j0 k true D P c A B) = some (D, P, c, 1) := by
    rw [L_shift]
    simp only [spec_AppendRecord.j0, if_true, L_const]
  have j2 : L (fun k => impl_AppendRecord.j0 k true D P c A B) = some (D, P, c, 1) := by
    rw [L_shift]
    simp only [impl_AppendRecord.j0, if_true, L_const]
  cases b with
  | false =>
    refine ⟨D, P, c, 1, ?_, ?_, by omega, fun _ => ⟨rfl, rfl, rfl⟩, fun h => by cases h⟩
    · simp only [spec_AppendRecord.f, L_bind, hs, Option.bind_some, Bool.false_eq_true, if_false, j1]
    · simp only [impl_AppendRecord.f, L_bind, hi, Option.bind_some, Bool.false_eq_true, if_false, j2]
  | true =>
    obtain ⟨R, RD, hv⟩ := hb.1 rfl
    obtain ⟨v1, v2, v3, v4, v5, v6, v7⟩ := id hv
    cases hr : recB A B with
    | false =>
      refine ⟨D, P, c, 1, ?_, ?_, by omega, fun _ => ⟨rfl, rfl, rfl⟩, fun h => by cases h⟩
      · simp only [spec_AppendRecord.f, L_bind, hs, Option.bind_some, if_true, l12Record_L A B (by omega) (by omega), hr, Bool.not_false, j1]
      · simp only [impl_AppendRecord.f, L_bind, hi, Option.bind_some, if_true, IsValidRecord_L A B (by omega) (by omega), hr, Bool.not_false, j2]
    | true =>
      have e1 : L (fun k => spec_AppendRecord.f k D P c A B) = L (fun k => spec_AppendRecord.j0 k false D P c A B) := by
        simp only [spec_AppendRecord.f, L_bind, hs, Option.bind_some, if_true, l12Record_L A B (by omega) (by omega), hr, Bool.not_true]
      have e2 : L (fun k => impl_AppendRecord.f k D P c A B) = L (fun k => impl_AppendRecord.j0 k false D P c A B) := by
        simp only [impl_AppendRecord.f, L_bind, hi, Option.bind_some, if_true, IsValidRecord_L A B (by omega) (by omega), hr, Bool.not_true]
      rw [e1, e2]
      by_cases h60 : c = 60
      · refine ⟨D, P, c, 2, ?_, ?_, by omega, fun _ => ⟨rfl, rfl, rfl⟩, fun h => by cases h⟩
        · rw [L_shift]
          simp only [spec_AppendRecord.j0, Bool.false_eq_true, if_false, if_pos h60, L_const]
        · rw [L_shift, h60]
          simp only [impl_AppendRecord.j0, Bool.false_eq_true, if_false, L_bind, EncodeRecord_full, Option.bind_some, L_const]
      · obtain ⟨n, hn0⟩ : ∃ n : Nat, n = R.length := ⟨_, rfl⟩
        have hcn : c = (n : Int) := by omega
        subst hcn
        have hn : n < 60 := by omega
        have hz := lineP_size hn hr
        have hw : wrap64 ((n : Int) + 1) = ((n + 1 : Nat) : Int) := wrapn (by omega)
        refine ⟨D, P ++ lineP n A B, ((n + 1 : Nat) : Int), 0, ?_, ?_, ?_, fun h => absurd rfl h, fun _ => ⟨R, RD, hv, ?_, ?_, v3, v4, ?_, v6, ?_⟩⟩
        · rw [L_shift]
          simp only [spec_AppendRecord.j0, Bool.false_eq_true, if_false, if_neg h60, L_bind, l12Line_L n A B (by omega) (by omega) (by omega), Option.bind_some, if_pos (show P.size + (lineP n A B).size ≤ 9223372036854775807 by omega), L_const, hw]
        · rw [L_shift]
          simp only [impl_AppendRecord.j0, Bool.false_eq_true, if_false, L_bind, EncodeRecord_L n A B hn (by omega) (by omega), hr, if_true, Option.bind_some, if_pos (show P.size + (lineP n A B).size ≤ 9223372036854775807 by omega), L_const, hw]
        · rw [ByteArray.size_append]
          omega
        · intro x hx
          rcases List.mem_append.1 hx with hx | hx
          · exact v1 x hx
          · rw [List.mem_singleton.1 hx]
            exact hr
        · rw [List.length_append, List.length_singleton]
          omega
        · rw [← ByteArray.append_assoc, v5, linesP_app, Nat.zero_add, ← hn0, linesP, linesP, ByteArray.append_empty]
        · rw [List.length_append, List.length_singleton, ← hn0]
theorem append_sp (D P : ByteArray) (c : Int) (A B : ByteArray) (h : D.size + P.size ≤ 1048576) (hA : A.size ≤ 1048576) (hB : B.size ≤ 1048576) :
    ∃ (X Y : ByteArray) (z st : Int), L (fun k => spec_AppendRecord.f k D P c A B) = some (X, Y, z, st) ∧ X.size + Y.size ≤ D.size + P.size + 372 := by
  obtain ⟨b, hs, hi, hb⟩ := valid_is D P c h
  have j1 : L (fun k => spec_AppendRecord.j0 k true D P c A B) = some (D, P, c, 1) := by
    rw [L_shift]
    simp only [spec_AppendRecord.j0, if_true, L_const]
  cases b with
  | false =>
    refine ⟨D, P, c, 1, ?_, by omega⟩
    simp only [spec_AppendRecord.f, L_bind, hs, Option.bind_some, Bool.false_eq_true, if_false, j1]
  | true =>
    obtain ⟨R, RD, hv⟩ := hb.1 rfl
    obtain ⟨v1, v2, v3, v4, v5, v6, v7⟩ := id hv
    cases hr : recB A B with
    | false =>
      refine ⟨D, P, c, 1, ?_, by omega⟩
      simp only [spec_AppendRecord.f, L_bind, hs, Option.bind_some, if_true, l12Record_L A B (by omega) (by omega), hr, Bool.not_false, j1]
    | true =>
      have e1 : L (fun k => spec_AppendRecord.f k D P c A B) = L (fun k => spec_AppendRecord.j0 k false D P c A B) := by
        simp only [spec_AppendRecord.f, L_bind, hs, Option.bind_some, if_true, l12Record_L A B (by omega) (by omega), hr, Bool.not_true]
      rw [e1]
      by_cases h60 : c = 60
      · refine ⟨D, P, c, 2, ?_, by omega⟩
        rw [L_shift]
        simp only [spec_AppendRecord.j0, Bool.false_eq_true, if_false, if_pos h60, L_const]
      · obtain ⟨n, hn0⟩ : ∃ n : Nat, n = R.length := ⟨_, rfl⟩
        have hcn : c = (n : Int) := by omega
        subst hcn
        have hn : n < 60 := by omega
        have hz := lineP_size hn hr
        refine ⟨D, P ++ lineP n A B, wrap64 ((n : Int) + 1), 0, ?_, ?_⟩
        · rw [L_shift]
          simp only [spec_AppendRecord.j0, Bool.false_eq_true, if_false, if_neg h60, L_bind, l12Line_L n A B (by omega) (by omega) (by omega), Option.bind_some, if_pos (show P.size + (lineP n A B).size ≤ 9223372036854775807 by omega), L_const]
        · rw [ByteArray.size_append]
          omega
theorem sync_sp (D P : ByteArray) (c : Int) (h : D.size + P.size ≤ 1048576) : ∃ (X : ByteArray) (z : Int) (b : Bool), L (fun k => spec_SyncLog.f k D P c) = some (X, (⟨#[]⟩ : ByteArray), z, b) ∧ X.size ≤ D.size + P.size := by
  obtain ⟨b, hs, hi, hb⟩ := valid_is D P c h
  have hz : (D ++ P).size = D.size + P.size := ByteArray.size_append
  cases b with
  | false =>
    refine ⟨⟨#[]⟩, 0, false, ?_, Nat.zero_le _⟩
    simp only [spec_SyncLog.f, L_bind, L_ite, hs, bindS, Bool.false_eq_true, if_false, L_const]
  | true =>
    refine ⟨D ++ P, c, true, ?_, by omega⟩
    simp only [spec_SyncLog.f, L_bind, L_ite, hs, bindS, if_true, if_pos (show D.size + P.size ≤ 9223372036854775807 by omega), L_const]
theorem sync_is (D P : ByteArray) (c : Int) (h : D.size + P.size ≤ 1048576) : ∃ (X : ByteArray) (z : Int) (b : Bool), L (fun k => spec_SyncLog.f k D P c) = some (X, (⟨#[]⟩ : ByteArray), z, b) ∧ L (fun k => impl_SyncLog.f k D P c) = some (X, (⟨#[]⟩ : ByteArray), z, b) ∧ X.size ≤ D.size + P.size ∧
    ((b = false ∧ L (fun k => spec_l12Valid.f k D P c) = some false ∧ L (fun k => impl_IsValidLog.f k D P c) = some false) ∨ (b = true ∧ ∃ R RD, LogP D P c R RD ∧ LogP X (⟨#[]⟩ : ByteArray) z R R)) := by
  obtain ⟨b, hs, hi, hb⟩ := valid_is D P c h
  have hz : (D ++ P).size = D.size + P.size := ByteArray.size_append
  cases b with
  | false =>
    refine ⟨⟨#[]⟩, 0, false, ?_, ?_, Nat.zero_le _, .inl ⟨rfl, hs, hi⟩⟩
    · simp only [spec_SyncLog.f, L_bind, L_ite, hs, bindS, Bool.false_eq_true, if_false, L_const]
    · simp only [impl_SyncLog.f, L_bind, L_ite, hi, bindS, Bool.false_eq_true, if_false, L_const]
  | true =>
    obtain ⟨R, RD, hv⟩ := hb.1 rfl
    obtain ⟨v1, v2, v3, v4, v5, v6, v7⟩ := id hv
    refine ⟨D ++ P, c, true, ?_, ?_, by omega, .inr ⟨rfl, R, RD, hv, v1, v2, v1, v2, ?_, v5, v7⟩⟩
    · simp only [spec_SyncLog.f, L_bind, L_ite, hs, bindS, if_true, if_pos (show D.size + P.size ≤ 9223372036854775807 by omega), L_const]
    · simp only [impl_SyncLog.f, L_bind, L_ite, hi, bindS, if_true, if_pos (show D.size + P.size ≤ 9223372036854775807 by omega), L_const]
    · rw [← v5, lg_emp, ByteArray.append_empty]
theorem encode_both (n : Int) (c r : ByteArray) (hc : c.size ≤ 10000000) (hr : r.size ≤ 10000000) : ∃ (s : ByteArray) (b : Bool), L (fun k => spec_EncodeRecord.f k n c r) = some (s, b) ∧ L (fun k => impl_EncodeRecord.f k n c r) = some (s, b) := by
  have hin : spec_l1In.f n 0 59 = some (inB n 0 59) := l1In_e n 0 59
  cases hb : inB n 0 59 with
  | false =>
    refine ⟨⟨#[]⟩, false, ?_, ?_⟩
    · simp only [spec_EncodeRecord.f, hin, hb, Option.bind_some, Bool.false_eq_true, if_false, L_const]
    · simp only [impl_EncodeRecord.f, within_e, hb, Option.bind_some, Bool.false_eq_true, if_false]
      rw [L_shift]
      simp only [impl_EncodeRecord.j0, if_true, L_const]
  | true =>
    have h2 := inB_iff.1 hb
    obtain ⟨m, rfl⟩ : ∃ m : Nat, n = (m : Int) := ⟨n.toNat, by omega⟩
    have hi := EncodeRecord_L m c r (by omega) hc hr
    refine ⟨(if recB c r = true then (lineP m c r, true) else ((⟨#[]⟩ : ByteArray), false)).1, (if recB c r = true then (lineP m c r, true) else ((⟨#[]⟩ : ByteArray), false)).2, ?_, hi⟩
    simp only [spec_EncodeRecord.f, hin, hb, Option.bind_some, if_true, L_bind, L_ite, L_const, l12Record_L c r (by omega) (by omega)]
    cases hr2 : recB c r with
    | false => simp
    | true => simp only [if_true, l12Line_L m c r (by omega) hc hr, Option.bind_some]
theorem vRecords_l (r : List S25) : ∀ pre : List S25, (pre ++ r).length < 4611686018427387904 → L (fun k => laws_vRecords.l0 k (pre ++ r) (pre ++ r) (pre.length : Int)) = some true := by
  induction r with
  | nil =>
    intro pre hb
    rw [L_shift]
    simp only [laws_vRecords.l0, not_lt_end, if_false, L_const]
  | cons x r ih =>
    intro pre hb
    rw [L_shift]
    have hl : pre.length < 4611686018427387904 := by simp at hb; omega
    simp only [laws_vRecords.l0, lt_mid, le_nat, if_true, wrap_mid pre x hl, beq_self_eq_true, Bool.not_true, Bool.or_self, Bool.false_eq_true, if_false]
    rw [app_cons pre x r]
    exact ih (pre ++ [x]) (by simpa using hb)
theorem vRecords_L (l : List S25) (h : l.length ≤ 1048576) : L (fun k => laws_vRecords.f k l l) = some true := by
  simp only [laws_vRecords.f, if_true]
  exact vRecords_l l [] (by simp; omega)
theorem cur_of (c : List Int) (hc : Byt c) (l : List ByteArray) (hl : 0 < l.length) (M : Nat) (hM : ∀ z ∈ l, z.size ≤ M) (a s : Int) (h0 : 0 ≤ a) (h1 : a ≤ 900000000) : ∃ z a' s', spec_l1Cur_of.f c a s l = some (z, a', s') ∧ z.size ≤ M ∧ a ≤ a' ∧ a' ≤ a + 2 := by
  obtain ⟨r, a', s', e, r0, r1, h2, h3⟩ := cur_pick c hc a s (l.length : Int) h0 h1
  have hr : r < (l.length : Int) := by omega
  refine ⟨rdOf ByteArray.empty l r, a', s', ?_, hM _ ?_, h2, h3⟩
  · rw [spec_l1Cur_of.f, e, Option.bind_some]
    simp only [if_pos r0, if_pos hr]
  · unfold rdOf
    rw [List.getD_eq_getElem?_getD, List.getElem?_eq_getElem (by omega)]
    exact List.getElem_mem _
theorem cur_logRecord (c : List Int) (hc : Byt c) (a s : Int) (h0 : 0 ≤ a) (h1 : a ≤ 800000000) : ∃ x y a' s', spec_l1Cur_logRecord.f c a s = some (x, y, a', s') ∧ x.size ≤ 20 ∧ y.size ≤ 20 ∧ a ≤ a' ∧ a' ≤ a + 8 := by
  obtain ⟨x, a1, s1, e1, z1, p1, q1⟩ := cur_of c hc [(⟨#[110, 111, 119]⟩ : ByteArray), (⟨#[114, 117, 110, 32, 51]⟩ : ByteArray), (⟨#[120]⟩ : ByteArray), (⟨#[97, 100, 100, 32, 49, 32, 49, 32, 48, 32, 53]⟩ : ByteArray), (⟨#[48, 32, 49]⟩ : ByteArray)] (by simp) 20 (by
    intro z hz
    simp only [List.mem_cons, List.not_mem_nil, or_false] at hz
    rcases hz with rfl | rfl | rfl | rfl | rfl <;> decide) a s h0 (by omega)
  obtain ⟨y, a2, s2, e2, z2, p2, q2⟩ := cur_of c hc [(⟨#[]⟩ : ByteArray), (⟨#[51]⟩ : ByteArray), (⟨#[63]⟩ : ByteArray), (⟨#[97, 64, 98]⟩ : ByteArray), (⟨#[51, 32, 49, 32, 50]⟩ : ByteArray)] (by simp) 20 (by
    intro z hz
    simp only [List.mem_cons, List.not_mem_nil, or_false] at hz
    rcases hz with rfl | rfl | rfl | rfl | rfl <;> decide) a1 s1 (by omega) (by omega)
  obtain ⟨p, a3, s3, e3, _, _, p3, q3⟩ := cur_pick c hc a2 s2 24 (by omega) (by omega)
  obtain ⟨x2, a4, s4, e4, z4, p4, q4⟩ := cur_of c hc [(⟨#[]⟩ : ByteArray), (⟨#[97, 64, 98]⟩ : ByteArray), (⟨#[97, 35]⟩ : ByteArray), (⟨#[10]⟩ : ByteArray), strOfNums (List.replicate 3 0)] (by simp) 20 (by
    intro z hz
    simp only [List.mem_cons, List.not_mem_nil, or_false] at hz
    rcases hz with rfl | rfl | rfl | rfl | rfl <;> decide) a3 s3 (by omega) (by omega)
  obtain ⟨y2, a5, s5, e5, z5, p5, q5⟩ := cur_of c hc [(⟨#[35]⟩ : ByteArray), (⟨#[10]⟩ : ByteArray), (⟨#[127]⟩ : ByteArray)] (by simp) 20 (by
    intro z hz
    simp only [List.mem_cons, List.not_mem_nil, or_false] at hz
    rcases hz with rfl | rfl | rfl <;> decide) a3 s3 (by omega) (by omega)
  by_cases c1 : p = 0
  · refine ⟨x2, y, a4, s4, ?_, z4, z2, by omega, by omega⟩
    simp only [spec_l1Cur_logRecord.f, e1, Option.bind_some, e2, e3, if_pos c1, if_pos (show 3 ≤ 281474976710656 by decide), e4]
  · by_cases c2 : p = 1
    · refine ⟨x, y2, a5, s5, ?_, z1, z5, by omega, by omega⟩
      simp only [spec_l1Cur_logRecord.f, e1, Option.bind_some, e2, e3, if_neg c1, if_pos c2, e5]
    · refine ⟨x, y, a3, s3, ?_, z1, z2, by omega, by omega⟩
      simp only [spec_l1Cur_logRecord.f, e1, Option.bind_some, e2, e3, if_neg c1, if_neg c2]
theorem cur_spoiltT (c : List Int) (hc : Byt c) (t w : ByteArray) (ht : t.size ≤ 1000000) (hw1 : 1 ≤ w.size) (hw : w.size ≤ 1000) (a s : Int) (h0 : 0 ≤ a) (h1 : a ≤ 800000000) : ∃ r a' s', spec_l1Cur_spoilt.f c a s t w = some (r, a', s') ∧ r.size ≤ t.size + 1 ∧ a ≤ a' ∧ a' ≤ a + 6 := by
  by_cases hz : t.size = 0
  · refine ⟨w.extract 0 1, a, s, ?_, ?_, by omega, by omega⟩
    · rw [spec_l1Cur_spoilt.f, if_pos ((toList_nil t).2 hz), if_pos (by decide), if_pos (by omega)]
    · rw [ByteArray.size_extract]
      omega
  · obtain ⟨i, a1, s1, e1, i0, i1, p1, q1⟩ := cur_pick c hc a s (t.size : Int) h0 (by omega)
    obtain ⟨j, a2, s2, e2, j0, j1, p2, q2⟩ := cur_pick c hc a1 s1 (w.size : Int) (by omega) (by omega)
    obtain ⟨p, a3, s3, e3, _, _, p3, q3⟩ := cur_pick c hc a2 s2 3 (by omega) (by omega)
    have hi : i < (t.size : Int) := by omega
    have hj : j < (w.size : Int) := by omega
    have hw2 : wrap64 (i + 1) = i + 1 := wrap_id (by omega) (by omega)
    have z1 : (t.extract 0 i.toNat).size = i.toNat := by rw [ByteArray.size_extract]; omega
    have z2 : ((w.extract j.toNat w.size).extract 0 1).size = 1 := by rw [ByteArray.size_extract, ByteArray.size_extract]; omega
    have z3 : (t.extract i.toNat t.size).size = t.size - i.toNat := by rw [ByteArray.size_extract]; omega
    have z4 : (t.extract (i + 1).toNat t.size).size = t.size - (i + 1).toNat := by rw [ByteArray.size_extract]; omega
    have hpre : ∀ {r : ByteArray × Int × Int}, (if p = 0 then some (((t.extract 0 i.toNat) ++ ((w.extract j.toNat w.size).extract 0 1)) ++ (t.extract i.toNat t.size), a3, s3) else if p = 1 then some (((t.extract 0 i.toNat) ++ ((w.extract j.toNat w.size).extract 0 1)) ++ (t.extract (i + 1).toNat t.size), a3, s3) else some ((t.extract 0 i.toNat) ++ (t.extract (i + 1).toNat t.size), a3, s3)) = some r → spec_l1Cur_spoilt.f c a s t w = some r := by
      intro r hr
      rw [← hr]
      simp only [spec_l1Cur_spoilt.f, if_neg (fun h => hz ((toList_nil t).1 h)), e1, e2, e3, Option.bind_some, if_pos j0, if_pos (show j ≤ (w.size : Int) by omega), if_pos (show (0 : Nat) ≤ 1 by decide), if_pos (show (0 : Int) ≤ 1 by decide), if_pos (show (1 : Int) ≤ ((w.size - j.toNat : Nat) : Int) by omega), if_pos i0, if_pos (show i ≤ (t.size : Int) by omega), z1, z2, if_pos (show i.toNat + 1 ≤ 9223372036854775807 by omega), if_pos (show i.toNat + 1 + (t.size - i.toNat) ≤ 9223372036854775807 by omega), hw2, if_pos (show (0 : Int) ≤ i + 1 by omega), if_pos (show i + 1 ≤ (t.size : Int) by omega), if_pos (show i.toNat + 1 + (t.size - (i + 1).toNat) ≤ 9223372036854775807 by omega), if_pos (show i.toNat + (t.size - (i + 1).toNat) ≤ 9223372036854775807 by omega)]
    by_cases c1 : p = 0
    · refine ⟨_, a3, s3, hpre (by rw [if_pos c1]), ?_, by omega, by omega⟩
      rw [ByteArray.size_append, ByteArray.size_append, z1, z2, z3]
      omega
    · by_cases c2 : p = 1
      · refine ⟨_, a3, s3, hpre (by rw [if_neg c1, if_pos c2]), ?_, by omega, by omega⟩
        rw [ByteArray.size_append, ByteArray.size_append, z1, z2, z4]
        omega
      · refine ⟨_, a3, s3, hpre (by rw [if_neg c1, if_neg c2]), ?_, by omega, by omega⟩
        rw [ByteArray.size_append, z1, z4]
        omega
theorem emp_size : (⟨#[]⟩ : ByteArray).size = 0 := rfl
theorem cur_log12_l (c : List Int) (hc : Byt c) : ∀ (d : Nat) (D P : ByteArray) (z a s : Int), D.size + P.size + 372 * d ≤ 100000 → 0 ≤ a → a + 20 * (d : Int) ≤ 700000000 → ∃ X Y w a' s', L (fun k => spec_l1Cur_log12.l0 k (d : Int) c a s D P z) = some (X, Y, w, a', s') ∧ X.size + Y.size ≤ D.size + P.size + 372 * d ∧ a ≤ a' ∧ a' ≤ a + 20 * (d : Int)
  | 0, D, P, z, a, s, h, h0, h1 => by
    refine ⟨D, P, z, a, s, ?_, by omega, by omega, by omega⟩
    rw [L_shift]
    simp only [spec_l1Cur_log12.l0, if_neg (show ¬ (((0 : Nat) : Int) > 0) by decide), L_const]
  | d + 1, D, P, z, a, s, h, h0, h1 => by
    obtain ⟨x, y, a1, s1, e1, x1, y1, p1, q1⟩ := cur_logRecord c hc a s h0 (by omega)
    obtain ⟨X, Y, w, st, e2, z2⟩ := append_sp D P z x y (by omega) (by omega) (by omega)
    obtain ⟨b, a3, s3, e3, p3, q3⟩ := cur_one c hc a1 s1 4 (by omega) (by omega)
    have hd : wrap64 (((d + 1 : Nat) : Int) - 1) = (d : Int) := by rw [wrap_id (by omega) (by omega)]; omega
    cases b with
    | true =>
      obtain ⟨X2, w2, b2, e4, z4⟩ := sync_sp X Y w (by omega)
      obtain ⟨X3, Y3, w3, a5, s5, e5, z5, p5, q5⟩ := cur_log12_l c hc d X2 (⟨#[]⟩ : ByteArray) w2 a3 s3 (by rw [emp_size]; omega) (by omega) (by omega)
      rw [emp_size] at z5
      refine ⟨X3, Y3, w3, a5, s5, ?_, by omega, by omega, by omega⟩
      rw [L_shift]
      simp only [spec_l1Cur_log12.l0, if_pos (show ((d + 1 : Nat) : Int) > 0 by omega), e1, bindS, L_bind, L_ite, L_const, e2, e3, if_true, e4, hd, e5]
    | false =>
      obtain ⟨X3, Y3, w3, a5, s5, e5, z5, p5, q5⟩ := cur_log12_l c hc d X Y w a3 s3 (by omega) (by omega) (by omega)
      refine ⟨X3, Y3, w3, a5, s5, ?_, by omega, by omega, by omega⟩
      rw [L_shift]
      simp only [spec_l1Cur_log12.l0, if_pos (show ((d + 1 : Nat) : Int) > 0 by omega), e1, bindS, L_bind, L_ite, L_const, e2, e3, Bool.false_eq_true, if_false, hd, e5]
theorem cur_log12 (c : List Int) (hc : Byt c) (a s : Int) (h0 : 0 ≤ a) (h1 : a ≤ 600000000) : ∃ X Y w a' s', L (fun k => spec_l1Cur_log12.f k c a s) = some (X, Y, w, a', s') ∧ X.size + Y.size ≤ 2232 ∧ a ≤ a' ∧ a' ≤ a + 200 := by
  obtain ⟨n, a1, s1, e1, n0, n1, p1, q1⟩ := cur_pick c hc a s 7 h0 (by omega)
  obtain ⟨d, rfl⟩ : ∃ d : Nat, n = (d : Int) := ⟨n.toNat, by omega⟩
  have hz : (⟨#[]⟩ : ByteArray).size = 0 := rfl
  obtain ⟨X, Y, w, a2, s2, e2, z2, p2, q2⟩ := cur_log12_l c hc d (⟨#[]⟩ : ByteArray) (⟨#[]⟩ : ByteArray) 0 a1 s1 (by rw [hz]; omega) (by omega) (by omega)
  rw [hz] at z2
  refine ⟨X, Y, w, a2, s2, ?_, by omega, by omega, by omega⟩
  simp only [spec_l1Cur_log12.f, e1, Option.bind_some, e2]
theorem cur_anyLog (c : List Int) (hc : Byt c) (a s : Int) (h0 : 0 ≤ a) (h1 : a ≤ 500000000) : ∃ X Y w a' s', L (fun k => spec_l1Cur_anyLog.f k c a s) = some (X, Y, w, a', s') ∧ X.size + Y.size ≤ 5000 ∧ a ≤ a' ∧ a' ≤ a + 300 := by
  obtain ⟨X, Y, w, a1, s1, e1, z1, p1, q1⟩ := cur_log12 c hc a s h0 (by omega)
  obtain ⟨p, a2, s2, e2, _, _, p2, q2⟩ := cur_pick c hc a1 s1 24 (by omega) (by omega)
  by_cases c0 : p = 0
  · refine ⟨X, Y, wrap64 (w + 1), a2, s2, ?_, by omega, by omega, by omega⟩
    simp only [spec_l1Cur_anyLog.f, L_bind, L_ite, L_const, e1, Option.bind_some, e2, if_pos c0]
  · by_cases c1 : p = 1
    · obtain ⟨Y2, a3, s3, e3, z3, p3, q3⟩ := cur_spoiltT c hc Y (⟨#[35, 64, 10, 48, 49]⟩ : ByteArray) (by omega) (by decide) (by decide) a2 s2 (by omega) (by omega)
      refine ⟨X, Y2, w, a3, s3, ?_, by omega, by omega, by omega⟩
      simp only [spec_l1Cur_anyLog.f, L_bind, L_ite, L_const, e1, Option.bind_some, e2, if_neg c0, if_pos c1, e3]
    · by_cases c2 : p = 2
      · refine ⟨X ++ Y, Y, w, a2, s2, ?_, by rw [ByteArray.size_append]; omega, by omega, by omega⟩
        simp only [spec_l1Cur_anyLog.f, L_bind, L_ite, L_const, e1, Option.bind_some, e2, if_neg c0, if_neg c1, if_pos c2, if_pos (show X.size + Y.size ≤ 9223372036854775807 by omega)]
      · refine ⟨X, Y, w, a2, s2, ?_, by omega, by omega, by omega⟩
        simp only [spec_l1Cur_anyLog.f, L_bind, L_ite, L_const, e1, Option.bind_some, e2, if_neg c0, if_neg c1, if_neg c2]

theorem lg_draw_rec (c : List Int) (hc : Byt c) : ∃ x y, spec_DrawIsValidRecord.f c = some (x, y) ∧ x.size ≤ 20 ∧ y.size ≤ 20 := by
  obtain ⟨x, y, a1, s1, e1, x1, y1, _, _⟩ := cur_logRecord c hc 0 0 (by omega) (by omega)
  exact ⟨x, y, by rw [spec_DrawIsValidRecord.f, e1, Option.bind_some], x1, y1⟩
theorem lg_draw_enc (c : List Int) (hc : Byt c) : ∃ n x y, spec_DrawEncodeRecord.f c = some (n, x, y) ∧ x.size ≤ 20 ∧ y.size ≤ 20 := by
  obtain ⟨n, a0, s0, e0, _, p0, q0⟩ := cur_among c hc [0, 1, 12, 59, 60, (-1)] (by decide) 0 0 (by omega) (by omega)
  obtain ⟨x, y, a1, s1, e1, x1, y1, _, _⟩ := cur_logRecord c hc a0 s0 (by omega) (by omega)
  exact ⟨n, x, y, by rw [spec_DrawEncodeRecord.f, e0, Option.bind_some]; dsimp only; rw [e1, Option.bind_some], x1, y1⟩
theorem lg_draw_log (c : List Int) (hc : Byt c) : ∃ X Y w, L (fun k => spec_DrawIsValidLog.f k c) = some (X, Y, w) ∧ X.size + Y.size ≤ 5000 := by
  obtain ⟨X, Y, w, a1, s1, e1, z1, _, _⟩ := cur_anyLog c hc 0 0 (by omega) (by omega)
  exact ⟨X, Y, w, by simp only [spec_DrawIsValidLog.f, L_bind, e1, Option.bind_some, L_const], z1⟩
theorem lg_draw_l0 (c : List Int) (hc : Byt c) (a s : Int) (h0 : 0 ≤ a) (h1 : a ≤ 100000) : ∀ (d : Nat) (D P : ByteArray) (z : Int), D.size + P.size + 372 * d ≤ 100000 → ∃ X Y w x y, L (fun k => spec_DrawAppendRecord.l0 k (d : Int) c a s D P z) = some (X, Y, w, x, y) ∧ X.size + Y.size ≤ D.size + P.size + 372 * d ∧ x.size ≤ 20 ∧ y.size ≤ 20
  | 0, D, P, z, h => by
    obtain ⟨x, y, a1, s1, e1, x1, y1, _, _⟩ := cur_logRecord c hc a s h0 (by omega)
    refine ⟨D, P, z, x, y, ?_, by omega, x1, y1⟩
    rw [L_shift]
    simp only [spec_DrawAppendRecord.l0, if_neg (show ¬ (((0 : Nat) : Int) > 0) by decide), e1, Option.bind_some, L_const]
  | d + 1, D, P, z, h => by
    obtain ⟨X, Y, w, st, e2, z2⟩ := append_sp D P z (⟨#[120]⟩ : ByteArray) (⟨#[]⟩ : ByteArray) (by omega) (by decide) (by decide)
    have hd : wrap64 (((d + 1 : Nat) : Int) - 1) = (d : Int) := by rw [wrap_id (by omega) (by omega)]; omega
    obtain ⟨X3, Y3, w3, x, y, e5, z5, x5, y5⟩ := lg_draw_l0 c hc a s h0 h1 d X Y w (by omega)
    refine ⟨X3, Y3, w3, x, y, ?_, by omega, x5, y5⟩
    rw [L_shift]
    simp only [spec_DrawAppendRecord.l0, if_pos (show ((d + 1 : Nat) : Int) > 0 by omega), L_bind, e2, Option.bind_some, hd, e5]
theorem lg_draw_app (c : List Int) (hc : Byt c) : ∃ X Y w x y, L (fun k => spec_DrawAppendRecord.f k c) = some (X, Y, w, x, y) ∧ X.size + Y.size ≤ 30000 ∧ x.size ≤ 20 ∧ y.size ≤ 20 := by
  obtain ⟨X, Y, w, a1, s1, e1, z1, p1, q1⟩ := cur_anyLog c hc 0 0 (by omega) (by omega)
  obtain ⟨b, a2, s2, e2, p2, q2⟩ := cur_one c hc a1 s1 40 (by omega) (by omega)
  cases b with
  | true =>
    obtain ⟨i, a3, s3, e3, i0, i1, p3, q3⟩ := cur_pick c hc a2 s2 2 (by omega) (by omega)
    obtain ⟨d, hd⟩ : ∃ d : Nat, wrap64 (59 + i) = (d : Int) := ⟨(59 + i).toNat, by rw [wrap_id (by omega) (by omega)]; omega⟩
    have hd2 : d ≤ 60 := by
      rw [wrap_id (by omega) (by omega)] at hd
      omega
    have hz : (⟨#[]⟩ : ByteArray).size = 0 := rfl
    obtain ⟨X3, Y3, w3, x, y, e5, z5, x5, y5⟩ := lg_draw_l0 c hc a3 s3 (by omega) (by omega) d (⟨#[]⟩ : ByteArray) (⟨#[]⟩ : ByteArray) 0 (by rw [hz]; omega)
    rw [hz] at z5
    refine ⟨X3, Y3, w3, x, y, ?_, by omega, x5, y5⟩
    simp only [spec_DrawAppendRecord.f, L_bind, L_ite, L_const, e1, Option.bind_some, e2, if_true, e3, hd, e5]
  | false =>
    obtain ⟨x, y, a3, s3, e3, x3, y3, _, _⟩ := cur_logRecord c hc a2 s2 (by omega) (by omega)
    refine ⟨X, Y, w, x, y, ?_, by omega, x3, y3⟩
    simp only [spec_DrawAppendRecord.f, L_bind, L_ite, L_const, e1, Option.bind_some, e2, Bool.false_eq_true, if_false, e3]
theorem lg_rd (R : List S25) (g : S25) : rd_T25 (R ++ [g]) (R.length : Int) = g := by
  show (R ++ [g]).getD (R.length : Int).toNat _ = g
  rw [Int.toNat_natCast, List.getD_eq_getElem?_getD, List.getElem?_append_right (Nat.le_refl _), Nat.sub_self]
  rfl
theorem lg_j2 (D P : ByteArray) (z : Int) (A B X Y : ByteArray) (w st : Int) (hX : X.size + Y.size ≤ 1048576) (R : List S25) (h1 : st ≠ 0 → X = D ∧ Y = P ∧ w = z) (h2 : st = 0 → ∃ RD, LogP X Y w (R ++ [⟨A, B⟩]) RD) : L (fun k => laws_FnLogs.j2 k st R false D P z A B X Y w) = some true := by
  rw [L_shift]
  by_cases h : st = 0
  · obtain ⟨RD, hv⟩ := h2 h
    have hn := hv.2.1
    rw [List.length_append, List.length_singleton] at hn
    obtain ⟨r1, r2⟩ := records_is X Y w hX hv
    obtain ⟨b, _, hi, hb⟩ := valid_is X Y w hX
    rw [hb.2 ⟨_, _, hv⟩] at hi
    have hw : wrap64 ((R.length : Int) + 1) = ((R ++ [(⟨A, B⟩ : S25)]).length : Int) := by
      rw [wrap_id (by omega) (by omega), List.length_append, List.length_singleton]
      rfl
    have hle : (R.length : Int) ≤ ((R ++ [(⟨A, B⟩ : S25)]).length : Int) := by rw [List.length_append]; omega
    have hlt : (R.length : Int) < ((R ++ [(⟨A, B⟩ : S25)]).length : Int) := by rw [List.length_append, List.length_singleton]; omega
    simp only [laws_FnLogs.j2, Bool.false_eq_true, if_false, if_pos h, L_bind, L_ite, L_const, r1, Option.bind_some, hi, if_true, hw, le_nat, if_pos hle, if_pos hlt, Int.toNat_natCast, List.take_left, vRecords_L R (by omega), lg_rd, beq_self_eq_true, Bool.and_self]
  · obtain ⟨rfl, rfl, rfl⟩ := h1 h
    simp only [laws_FnLogs.j2, Bool.false_eq_true, if_false, if_neg h, L_const, beq_self_eq_true, Bool.and_self]
theorem lg_j0 (D P : ByteArray) (z : Int) (A B : ByteArray) (h : D.size + P.size ≤ 30000) (X Y : ByteArray) (w st : Int) (hX : X.size + Y.size ≤ 1048576) (h1 : st ≠ 0 → X = D ∧ Y = P ∧ w = z) (h2 : st = 0 → ∃ R RD, LogP D P z R RD ∧ LogP X Y w (R ++ [⟨A, B⟩]) RD) : L (fun k => laws_FnLogs.j0 k st false D P z A B X Y w) = some true := by
  obtain ⟨K, kz, kb, k1, k2, k3, k4⟩ := sync_is D P z (by omega)
  rw [L_shift]
  have hK : K.size + (⟨#[]⟩ : ByteArray).size ≤ 1048576 := by show K.size + 0 ≤ _; omega
  rcases k4 with ⟨rfl, k5, k6⟩ | ⟨rfl, R, RD, k5, k6⟩
  · obtain ⟨r1, r2⟩ := records_no D P z k5 k6
    have hst : st ≠ 0 := by
      intro hst
      obtain ⟨R, RD, hv, _⟩ := h2 hst
      obtain ⟨b, _, hi, hb⟩ := valid_is D P z (by omega)
      rw [k6] at hi
      rw [← Option.some.inj hi] at hb
      have := hb.2 ⟨R, RD, hv⟩
      cases this
    obtain ⟨b2, _, hi2, hb2⟩ := valid_is K (⟨#[]⟩ : ByteArray) kz hK
    have hag : ∃ R' b', L (fun k => impl_LogRecords.f k K (⟨#[]⟩ : ByteArray) kz) = some (R', b') := by
      obtain ⟨b3, hs3, hi3, hb3⟩ := valid_is K (⟨#[]⟩ : ByteArray) kz hK
      cases b3 with
      | true =>
        obtain ⟨R', RD', hv'⟩ := hb3.1 rfl
        exact ⟨R', true, (records_is _ _ _ hK hv').1⟩
      | false => exact ⟨[], false, (records_no _ _ _ hs3 hi3).1⟩
    obtain ⟨R', b', hag⟩ := hag
    simp only [laws_FnLogs.j0, Bool.false_eq_true, if_false, L_bind, L_ite, L_const, k1, k2, Option.bind_some, r1, r2, beq_self_eq_true, Bool.not_true, Bool.or_self, bne_self_eq_false, vRecords_L ([] : List S25) (by simp)]
    rw [L_shift]
    simp only [laws_FnLogs.j1, Bool.false_eq_true, if_false, L_bind, L_ite, hag, Option.bind_some, lg_j2 D P z A B X Y w st hX [] h1 (fun h => absurd h hst)]
  · obtain ⟨r1, r2⟩ := records_is D P z (by omega) k5
    obtain ⟨r3, _⟩ := records_is K (⟨#[]⟩ : ByteArray) kz hK k6
    have hn := k5.2.1
    simp only [laws_FnLogs.j0, Bool.false_eq_true, if_false, L_bind, L_ite, L_const, k1, k2, Option.bind_some, r1, r2, beq_self_eq_true, Bool.not_true, Bool.or_self, bne_self_eq_false, vRecords_L R (by omega)]
    rw [L_shift]
    simp only [laws_FnLogs.j1, Bool.false_eq_true, if_false, if_true, L_bind, L_ite, r3, Option.bind_some, vRecords_L R (by omega), Bool.not_true]
    refine lg_j2 D P z A B X Y w st hX R h1 (fun hst => ?_)
    obtain ⟨R2, RD2, hv, hv2⟩ := h2 hst
    obtain ⟨r5, _⟩ := records_is D P z (by omega) hv
    rw [r1] at r5
    have := (Prod.mk.injEq _ _ _ _ ▸ Option.some.inj r5 : R = R2 ∧ true = true).1
    subst this
    exact ⟨RD2, hv2⟩
theorem FnLogs : laws_FnLogs.Pure := by
  intro c h1 h2
  have e1 : maxLen = 9223372036854775807 := rfl
  refine rounds_of_L ?_
  simp only [laws_FnLogs.f, laws_vBig.f, Option.bind_some]
  by_cases hb : (c.length : Int) > 65536
  · rw [L_ite, if_pos (decide_eq_true hb), L_const]
  · rw [L_ite, if_neg (by rw [decide_eq_false hb]; decide)]
    have hc : Byt c := ⟨by omega, fun y hy => wf_u8 (h2 y hy)⟩
    obtain ⟨c1, hc1, hd1⟩ := vCut_L c hc (by omega) 1 (by omega)
    obtain ⟨c2, hc2, hd2⟩ := vCut_L c hc (by omega) 2 (by omega)
    obtain ⟨c3, hc3, hd3⟩ := vCut_L c hc (by omega) 3 (by omega)
    obtain ⟨rx, ry, d1, d1x, d1y⟩ := lg_draw_rec c hc
    obtain ⟨n, ex, ey, d2, d2x, d2y⟩ := lg_draw_enc c1 hd1
    obtain ⟨LX, LY, Lw, d3, d3z⟩ := lg_draw_log c2 hd2
    obtain ⟨D, P, z, A, B, d4, d4z, d4x, d4y⟩ := lg_draw_app c3 hd3
    obtain ⟨es, eb, g1, g2⟩ := encode_both n ex ey (by omega) (by omega)
    obtain ⟨X, Y, w, st, g3, g4, g5, g6, g7⟩ := append_is D P z A B (by omega) (by omega) (by omega)
    have v1 := IsValidRecord_L rx ry (by omega) (by omega)
    have v2 : L (fun k => spec_IsValidRecord.f k rx ry) = some (recB rx ry) := by
      simp only [spec_IsValidRecord.f, L_bind, l12Record_L rx ry (by omega) (by omega), Option.bind_some, L_const]
    obtain ⟨b, u1, u2, _⟩ := valid_is LX LY Lw (by omega)
    have u3 : L (fun k => spec_IsValidLog.f k LX LY Lw) = some b := by
      simp only [spec_IsValidLog.f, L_bind, u1, Option.bind_some, L_const]
    have hj := lg_j0 D P z A B d4z X Y w st (by omega) g6 g7
    simp only [d1, hc1, d2, hc2, hc3, Option.bind_some]
    (rw [L_bind, g2, Option.bind_some]; try dsimp only)
    (rw [L_bind, g1, Option.bind_some]; try dsimp only)
    (rw [L_bind, d3, Option.bind_some]; try dsimp only)
    (rw [L_bind, d4, Option.bind_some]; try dsimp only)
    (rw [L_bind, g4, Option.bind_some]; try dsimp only)
    (rw [L_bind, g3, Option.bind_some]; try dsimp only)
    (rw [L_bind, v1, Option.bind_some]; try dsimp only)
    (rw [L_bind, v2, Option.bind_some]; try dsimp only)
    rw [L_ite, if_neg (by simp)]
    rw [L_ite, if_pos rfl]
    rw [L_ite, if_neg (by simp)]
    (rw [L_bind, u2, Option.bind_some]; try dsimp only)
    (rw [L_bind, u3, Option.bind_some]; try dsimp only)
    rw [L_ite, if_neg (by simp)]
    rw [L_ite, if_neg (by simp)]
    rw [bne_self_eq_false]
    exact hj

end Go.Proofs.Yteakcfnhigaffaa.Pure
