/- The program's CrashLog answers what the reference's answers, for all logs, all numbers of bytes that are kept, torn or not. -/
import Derived.Test.YtkihaemgkagajaaXSFnExactCrashLog
import Derived.Test.YtkihaemgkagajaaXLim
namespace Go.Proofs.Ytkihaemgkagajaa.Pure
open Go.RowKit Go.Proofs.YtkihaemgkagajaaW.PrintWords Go.Proofs.YtkihaemgkagajaaW.PrintLast Go.Proofs.YtkihaemgkagajaaW.PrintMore Go.Proofs.Ytkihaemgkagajaa.X Go.Proofs.Ytkihaemgkagajaa.XRow Go.Proofs.Ytkihaemgkagajaa.XLim
set_option linter.unusedVariables false
set_option linter.unusedSimpArgs false
instance : ∀ a0, Mono (fun k => impl_AppendChecksum.f k a0) := fun a0 => ⟨⟨impl_AppendChecksum.mono a0⟩⟩
instance : ∀ a0, Mono (fun k => impl_Checksum.f k a0) := fun a0 => ⟨⟨impl_Checksum.mono a0⟩⟩
instance : ∀ a0 a1 a2 a3 a4, Mono (fun k => impl_CrashLog.f k a0 a1 a2 a3 a4) := fun a0 a1 a2 a3 a4 => ⟨⟨impl_CrashLog.mono a0 a1 a2 a3 a4⟩⟩
instance : ∀ a0 a1 a2, Mono (fun k => impl_EncodeRecord.f k a0 a1 a2) := fun a0 a1 a2 => ⟨⟨impl_EncodeRecord.mono a0 a1 a2⟩⟩
instance : ∀ a0 a1 a2, Mono (fun k => impl_IsValidLog.f k a0 a1 a2) := fun a0 a1 a2 => ⟨⟨impl_IsValidLog.mono a0 a1 a2⟩⟩
instance : ∀ a0 a1, Mono (fun k => impl_IsValidRecord.f k a0 a1) := fun a0 a1 => ⟨⟨impl_IsValidRecord.mono a0 a1⟩⟩
instance : ∀ a0 a1, Mono (fun k => impl_decode.f k a0 a1) := fun a0 a1 => ⟨⟨impl_decode.mono a0 a1⟩⟩
instance : ∀ a0, Mono (fun k => impl_isPrinted.f k a0) := fun a0 => ⟨⟨impl_isPrinted.mono a0⟩⟩
instance : ∀ a0, Mono (fun k => impl_recovered.f k a0) := fun a0 => ⟨⟨impl_recovered.mono a0⟩⟩
instance : ∀ a0 a1, Mono (fun k => impl_split.f k a0 a1) := fun a0 a1 => ⟨⟨impl_split.mono a0 a1⟩⟩
instance : ∀ a0, Mono (fun k => impl_text.f k a0) := fun a0 => ⟨⟨impl_text.mono a0⟩⟩
instance : ∀ a0 a1 a2 a3 a4, Mono (fun k => laws_FnExactCrashLog.f k a0 a1 a2 a3 a4) := fun a0 a1 a2 a3 a4 => ⟨⟨laws_FnExactCrashLog.mono a0 a1 a2 a3 a4⟩⟩
instance : ∀ a0 a1 a2 a3 a4, Mono (fun k => spec_CrashLog.f k a0 a1 a2 a3 a4) := fun a0 a1 a2 a3 a4 => ⟨⟨spec_CrashLog.mono a0 a1 a2 a3 a4⟩⟩
instance : ∀ a0 a1, Mono (fun k => spec_l12Bytes.f k a0 a1) := fun a0 a1 => ⟨⟨spec_l12Bytes.mono a0 a1⟩⟩
instance : ∀ a0 a1, Mono (fun k => spec_l12Decode.f k a0 a1) := fun a0 a1 => ⟨⟨spec_l12Decode.mono a0 a1⟩⟩
instance : ∀ a0 a1 a2, Mono (fun k => spec_l12Line.f k a0 a1 a2) := fun a0 a1 a2 => ⟨⟨spec_l12Line.mono a0 a1 a2⟩⟩
instance : ∀ a0, Mono (fun k => spec_l12Open.f k a0) := fun a0 => ⟨⟨spec_l12Open.mono a0⟩⟩
instance : ∀ a0 a1, Mono (fun k => spec_l12Record.f k a0 a1) := fun a0 a1 => ⟨⟨spec_l12Record.mono a0 a1⟩⟩
instance : ∀ a0 a1 a2, Mono (fun k => spec_l12Valid.f k a0 a1 a2) := fun a0 a1 a2 => ⟨⟨spec_l12Valid.mono a0 a1 a2⟩⟩
instance : ∀ a0, Mono (fun k => spec_l1Num.f k a0) := fun a0 => ⟨⟨spec_l1Num.mono a0⟩⟩
instance : ∀ a0, Mono (fun k => spec_l1Seal.f k a0) := fun a0 => ⟨⟨spec_l1Seal.mono a0⟩⟩
instance : ∀ a0 a1, Mono (fun k => spec_l1Split.f k a0 a1) := fun a0 a1 => ⟨⟨spec_l1Split.mono a0 a1⟩⟩
instance : ∀ a0 a1, Mono (fun k => spec_l1Stands.f k a0 a1) := fun a0 a1 => ⟨⟨spec_l1Stands.mono a0 a1⟩⟩
instance : ∀ a0, Mono (fun k => spec_l1Sum.f k a0) := fun a0 => ⟨⟨spec_l1Sum.mono a0⟩⟩
theorem le_nat (n : Nat) : (0 ≤ (n : Int)) = True := eq_true (by omega)
/-- Option.bind_some, not as a reduction: simp would reduce what stands behind it, numbers too. -/
theorem bindS {α β : Type} (a : α) (f : α → Option β) : (some a).bind f = f a := id rfl
def inB (a lo hi : Int) : Bool := decide (lo ≤ a) && decide (a ≤ hi)
theorem inB_iff {a lo hi : Int} : inB a lo hi = true ↔ lo ≤ a ∧ a ≤ hi := by simp [inB]
theorem within_e (a lo hi : Int) : impl_within.f a lo hi = some (inB a lo hi) := by
  unfold impl_within.f inB
  by_cases h : lo ≤ a <;> simp [h]
theorem l1In_e (a lo hi : Int) : spec_l1In.f a lo hi = some (inB a lo hi) := by
  unfold spec_l1In.f inB
  by_cases h : lo ≤ a <;> simp [h]
theorem wrapn {n : Nat} (h : n ≤ 9223372036854775806) : wrap64 ((n : Int) + 1) = ((n + 1 : Nat) : Int) := by
  rw [wrap_id (by omega) (by omega)]
  omega
theorem bt_get (s : ByteArray) (i : Nat) (h : i < s.size) : bt s (i : Int) = ((s[i]'h).toNat : Int) := by
  unfold bt
  rw [dif_pos (by omega)]
  simp only [Int.toNat_natCast]
theorem bt_ext (s : ByteArray) (a i : Nat) (h : a + i < s.size) : bt (s.extract a s.size) (i : Int) = bt s ((a + i : Nat) : Int) := by
  rw [bt_get _ i (by rw [ByteArray.size_extract]; omega), bt_get _ _ h, ByteArray.getElem_extract]
theorem bt_left (a b : ByteArray) (i : Nat) (h : i < a.size) : bt (a ++ b) (i : Int) = bt a (i : Int) := by
  rw [bt_get _ i (by rw [ByteArray.size_append]; omega), bt_get _ i h, ByteArray.getElem_append_left]
theorem bt_right (a b : ByteArray) (i : Nat) (h : a.size ≤ i) (h2 : i < a.size + b.size) : bt (a ++ b) (i : Int) = bt b ((i - a.size : Nat) : Int) := by
  rw [bt_get _ i (by rw [ByteArray.size_append]; omega), bt_get _ _ (by omega), ByteArray.getElem_append_right h]
theorem toList_inj {a b : ByteArray} : a.toList = b.toList ↔ a = b := by
  rw [ByteArray.toList_eq, ByteArray.toList_eq]
  constructor
  · intro h
    apply ByteArray.ext
    exact Array.toList_inj.1 h
  · intro h
    rw [h]
theorem toList_beq (a b : ByteArray) : (a.toList == b.toList) = decide (a = b) := by
  rw [Bool.eq_iff_iff]
  simp only [beq_iff_eq, decide_eq_true_eq, toList_inj]
theorem toList_bne (a b : ByteArray) : (a.toList != b.toList) = !decide (a = b) := by
  rw [bne, toList_beq]
theorem toList_nil (a : ByteArray) : a.toList = ([] : List UInt8) ↔ a.size = 0 := by
  rw [ByteArray.toList_eq]
  constructor
  · intro h
    have := congrArg List.length h
    simpa using this
  · intro h
    exact List.length_eq_zero_iff.1 (by simpa using h)
/-- The first place from i on, among d, of a byte. -/
def nxtP (s : ByteArray) (b : Int) : Nat → Nat → Nat
  | 0, i => i
  | d + 1, i => if bt s (i : Int) = b then i else nxtP s b d (i + 1)
theorem nxtP_le (s : ByteArray) (b : Int) : ∀ d i, i ≤ nxtP s b d i ∧ nxtP s b d i ≤ i + d
  | 0, i => by simp [nxtP]
  | d + 1, i => by
    have := nxtP_le s b d (i + 1)
    rw [nxtP]
    by_cases h : bt s (i : Int) = b
    · rw [if_pos h]
      omega
    · rw [if_neg h]
      omega
theorem nxtP_none (s : ByteArray) (b : Int) : ∀ d i : Nat, (∀ j : Nat, i ≤ j → j < i + d → bt s (j : Int) ≠ b) → nxtP s b d i = i + d
  | 0, i, _ => rfl
  | d + 1, i, h => by
    rw [nxtP, if_neg (h i (Nat.le_refl _) (by omega)), nxtP_none s b d (i + 1) (fun j h1 h2 => h j (by omega) (by omega))]
    omega
theorem nxtP_ext (s : ByteArray) (b : Int) (a : Nat) : ∀ d i, a + i + d ≤ s.size → nxtP (s.extract a s.size) b d i + a = nxtP s b d (a + i)
  | 0, i, h => by
    simp only [nxtP]
    omega
  | d + 1, i, h => by
    have := nxtP_ext s b a d (i + 1) (by omega)
    rw [nxtP, nxtP, bt_ext s a i (by omega)]
    by_cases hb : bt s ((a + i : Nat) : Int) = b
    · rw [if_pos hb, if_pos hb]
      omega
    · rw [if_neg hb, if_neg hb, this]
      rfl
def endP (s : ByteArray) (b : Int) : Nat := nxtP s b s.size 0
theorem endP_le (s : ByteArray) (b : Int) : endP s b ≤ s.size := by
  have := nxtP_le s b s.size 0
  unfold endP
  omega
/-- The parts of a text from place i on, the current one begun at place j. -/
def splP (s : ByteArray) (b : Int) : Nat → Nat → Nat → List ByteArray
  | 0, _, j => [s.extract j s.size]
  | d + 1, i, j => if bt s (i : Int) = b then s.extract j i :: splP s b d (i + 1) (i + 1) else splP s b d (i + 1) j
theorem splP_ne (s : ByteArray) (b : Int) : ∀ d i j, splP s b d i j ≠ []
  | 0, i, j => by simp [splP]
  | d + 1, i, j => by
    rw [splP]
    by_cases h : bt s (i : Int) = b
    · rw [if_pos h]
      simp
    · rw [if_neg h]
      exact splP_ne s b d _ _
theorem splP_head (s : ByteArray) (b : Int) : ∀ d i j, i + d = s.size → ∃ r, splP s b d i j = s.extract j (nxtP s b d i) :: r ∧ (r = [] ↔ nxtP s b d i = s.size)
  | 0, i, j, h => ⟨[], by simp only [splP, nxtP]; rw [show i = s.size by omega], ⟨fun _ => by show i = s.size; omega, fun _ => rfl⟩⟩
  | d + 1, i, j, h => by
    rw [splP, nxtP]
    by_cases hb : bt s (i : Int) = b
    · rw [if_pos hb, if_pos hb]
      exact ⟨_, rfl, fun e => absurd e (splP_ne s b d _ _), fun e => by omega⟩
    · rw [if_neg hb, if_neg hb]
      exact splP_head s b d (i + 1) j (by omega)
def splitP (s : ByteArray) (b : Int) : List ByteArray := splP s b s.size 0 0
theorem splitP_head (s : ByteArray) (b : Int) : ∃ r, splitP s b = s.extract 0 (endP s b) :: r ∧ (r = [] ↔ endP s b = s.size) := splP_head s b s.size 0 0 (by omega)
theorem splitP_pos (s : ByteArray) (b : Int) : 0 < ((splitP s b).length : Int) := by
  obtain ⟨r, h, _⟩ := splitP_head s b
  rw [h]
  simp only [List.length_cons]
  omega
theorem splitP_rd (s : ByteArray) (b : Int) : rdOf ByteArray.empty (splitP s b) 0 = s.extract 0 (endP s b) := by
  obtain ⟨r, h, _⟩ := splitP_head s b
  rw [h]
  rfl
theorem splitP_two (s : ByteArray) (b : Int) : ((splitP s b).length : Int) < 2 ↔ endP s b = s.size := by
  obtain ⟨r, h, h2⟩ := splitP_head s b
  rw [h, ← h2]
  simp only [List.length_cons]
  constructor
  · intro h3
    exact List.length_eq_zero_iff.1 (by omega)
  · rintro rfl
    simp
theorem size_head (s : ByteArray) (b : Int) : (s.extract 0 (endP s b)).size = endP s b := by
  have := endP_le s b
  rw [ByteArray.size_extract]
  omega
theorem l1Split_l (s : ByteArray) (b : Int) (hs : s.size ≤ 1000000000) : ∀ (d i j : Nat) (out : List ByteArray), i + d = s.size → j ≤ i → out.length ≤ i →
    L (fun k => spec_l1Split.l0 k s b out (j : Int) (i : Int)) = some (out ++ splP s b d i j)
  | 0, i, j, out, h, hj, ho => by
    rw [L_shift]
    simp only [spec_l1Split.l0, if_neg (show ¬ (i : Int) < (s.size : Int) by omega), le_nat, if_true, if_pos (show (j : Int) ≤ (s.size : Int) by omega), if_pos (show out.length < 8796093022208 by omega), L_const, Int.toNat_natCast, splP]
  | d + 1, i, j, out, h, hj, ho => by
    rw [L_shift]
    simp only [spec_l1Split.l0, if_pos (show (i : Int) < (s.size : Int) by omega), le_nat, if_true, wrapn (show i ≤ 9223372036854775806 by omega), if_pos (show (j : Int) ≤ (i : Int) by omega), if_pos (show (i : Int) ≤ (s.size : Int) by omega), if_pos (show out.length < 8796093022208 by omega), Int.toNat_natCast, L_ite, splP]
    by_cases hb : bt s (i : Int) = b
    · rw [if_pos hb, if_pos hb, l1Split_l s b hs d (i + 1) (i + 1) _ (by omega) (by omega) (by simp; omega)]
      simp
    · rw [if_neg hb, if_neg hb, l1Split_l s b hs d (i + 1) j out (by omega) (by omega) (by omega)]
theorem l1Split_L (s : ByteArray) (b : Int) (hs : s.size ≤ 1000000000) : L (fun k => spec_l1Split.f k s b) = some (splitP s b) := by
  have := l1Split_l s b hs s.size 0 0 [] (by omega) (by omega) (by simp)
  simpa [spec_l1Split.f, splitP] using this
theorem split_l (s : ByteArray) (b : Int) (hs : s.size ≤ 1000000000) : ∀ (d i j : Nat) (out : List ByteArray), i + d = s.size → j ≤ i → out.length ≤ i →
    L (fun k => impl_split.l0 k s b out (j : Int) (i : Int)) = some (out ++ splP s b d i j)
  | 0, i, j, out, h, hj, ho => by
    rw [L_shift]
    simp only [impl_split.l0, if_neg (show ¬ (i : Int) < (s.size : Int) by omega), le_nat, if_true, if_pos (show (j : Int) ≤ (s.size : Int) by omega), if_pos (show out.length < 8796093022208 by omega), L_const, Int.toNat_natCast, splP]
  | d + 1, i, j, out, h, hj, ho => by
    rw [L_shift]
    simp only [impl_split.l0, if_pos (show (i : Int) < (s.size : Int) by omega), le_nat, if_true, wrapn (show i ≤ 9223372036854775806 by omega), if_pos (show (j : Int) ≤ (i : Int) by omega), if_pos (show (i : Int) ≤ (s.size : Int) by omega), if_pos (show out.length < 8796093022208 by omega), Int.toNat_natCast, L_ite, splP]
    by_cases hb : bt s (i : Int) = b
    · rw [if_pos hb, if_pos hb, split_l s b hs d (i + 1) (i + 1) _ (by omega) (by omega) (by simp; omega)]
      simp
    · rw [if_neg hb, if_neg hb, split_l s b hs d (i + 1) j out (by omega) (by omega) (by omega)]
theorem split_L (s : ByteArray) (b : Int) (hs : s.size ≤ 1000000000) : L (fun k => impl_split.f k s b) = some (splitP s b) := by
  have := split_l s b hs s.size 0 0 [] (by omega) (by omega) (by simp)
  simpa [impl_split.f, splitP] using this
theorem l1Stands_l (s : ByteArray) (b : Int) (hs : s.size ≤ 1000000000) : ∀ (d i : Nat), i + d = s.size →
    L (fun k => spec_l1Stands.l0 k s b (i : Int)) = some (decide (nxtP s b d i < s.size))
  | 0, i, h => by
    rw [L_shift]
    simp only [spec_l1Stands.l0, if_neg (show ¬ (i : Int) < (s.size : Int) by omega), L_const]
    rw [decide_eq_false (by show ¬ i < s.size; omega)]
  | d + 1, i, h => by
    rw [L_shift]
    simp only [spec_l1Stands.l0, if_pos (show (i : Int) < (s.size : Int) by omega), le_nat, if_true, wrapn (show i ≤ 9223372036854775806 by omega), L_ite, L_const, l1Stands_l s b hs d (i + 1) (by omega)]
    by_cases hb : bt s (i : Int) = b
    · rw [if_pos hb, decide_eq_true (by rw [nxtP, if_pos hb]; omega)]
    · rw [if_neg hb]
      simp only [nxtP, if_neg hb]
theorem l1Stands_L (s : ByteArray) (b : Int) (hs : s.size ≤ 1000000000) : L (fun k => spec_l1Stands.f k s b) = some (decide (endP s b < s.size)) :=
  l1Stands_l s b hs s.size 0 (by omega)
/-- Printable bytes alone, none of them a number sign. -/
def prB (s : ByteArray) : Nat → Nat → Bool
  | 0, _ => true
  | d + 1, i => inB (bt s (i : Int)) 32 126 && (!decide (bt s (i : Int) = 35) && prB s d (i + 1))
theorem prB_at (s : ByteArray) : ∀ d i, prB s d i = true → ∀ j, i ≤ j → j < i + d → 32 ≤ bt s (j : Int) ∧ bt s (j : Int) ≠ 35
  | 0, i, _, j, h1, h2 => by omega
  | d + 1, i, h, j, h1, h2 => by
    rw [prB] at h
    simp only [Bool.and_eq_true, inB_iff, Bool.not_eq_true', decide_eq_false_iff_not] at h
    by_cases e : i = j
    · subst e
      exact ⟨h.1.1, h.2.1⟩
    · exact prB_at s d (i + 1) h.2.2 j (by omega) (by omega)
theorem wrap_bt (s : ByteArray) (i : Int) : wrap64 (bt s i) = bt s i := by
  have := bt_range s i
  exact wrap_id (by omega) (by omega)
theorem l12Bytes_l (s : ByteArray) (m : Int) (hs : s.size ≤ 1000000000) : ∀ (d i : Nat), i + d = s.size →
    L (fun k => spec_l12Bytes.l0 k s m (i : Int)) = some (prB s d i && decide ((s.size : Int) ≤ m))
  | 0, i, h => by
    rw [L_shift]
    simp only [spec_l12Bytes.l0, if_neg (show ¬ (i : Int) < (s.size : Int) by omega), L_const, prB, Bool.true_and]
  | d + 1, i, h => by
    rw [L_shift]
    simp only [spec_l12Bytes.l0, if_pos (show (i : Int) < (s.size : Int) by omega), le_nat, if_true, wrap_bt, l1In_e, Option.bind_some, wrapn (show i ≤ 9223372036854775806 by omega), L_ite, L_const, prB, l12Bytes_l s m hs d (i + 1) (by omega)]
    cases h1 : inB (bt s (i : Int)) 32 126 with
    | false => simp
    | true =>
      by_cases h2 : bt s (i : Int) = 35
      · simp [h2]
      · simp [h2]
theorem l12Bytes_L (s : ByteArray) (m : Int) (hs : s.size ≤ 1000000000) : L (fun k => spec_l12Bytes.f k s m) = some (prB s s.size 0 && decide ((s.size : Int) ≤ m)) := by
  have := l12Bytes_l s m hs s.size 0 (by omega)
  simpa [spec_l12Bytes.f] using this
theorem isPrinted_l (s : ByteArray) (hs : s.size ≤ 1000000000) : ∀ (d i : Nat), i + d = s.size →
    L (fun k => impl_isPrinted.l0 k s (i : Int)) = some (prB s d i)
  | 0, i, h => by
    rw [L_shift]
    simp only [impl_isPrinted.l0, if_neg (show ¬ (i : Int) < (s.size : Int) by omega), L_const, prB]
  | d + 1, i, h => by
    rw [L_shift]
    simp only [impl_isPrinted.l0, if_pos (show (i : Int) < (s.size : Int) by omega), le_nat, if_true, wrapn (show i ≤ 9223372036854775806 by omega), L_ite, L_const, prB, isPrinted_l s hs d (i + 1) (by omega), inB]
    by_cases h1 : bt s (i : Int) < 32
    · rw [if_pos h1, decide_eq_false (by omega)]
      rfl
    · rw [if_neg h1, decide_eq_true (by omega)]
      by_cases h2 : bt s (i : Int) > 126
      · rw [if_pos h2, decide_eq_false (by omega)]
        rfl
      · rw [if_neg h2, decide_eq_true (by omega)]
        by_cases h3 : bt s (i : Int) = 35
        · simp [h3]
        · simp [h3]
theorem isPrinted_L (s : ByteArray) (hs : s.size ≤ 1000000000) : L (fun k => impl_isPrinted.f k s) = some (prB s s.size 0) := by
  have := isPrinted_l s hs s.size 0 (by omega)
  simpa [impl_isPrinted.f] using this
/-- A valid record. -/
def recB (c r : ByteArray) : Bool := decide (1 ≤ c.size ∧ c.size ≤ 160 ∧ r.size ≤ 200) && (prB c c.size 0 && (prB r r.size 0 && decide (endP c 64 = c.size)))
theorem l12Record_L (c r : ByteArray) (hc : c.size ≤ 1000000000) (hr : r.size ≤ 1000000000) : L (fun k => spec_l12Record.f k c r) = some (recB c r) := by
  simp only [spec_l12Record.f, toList_nil, L_ite, L_const, L_bind, l12Bytes_L _ _ hc, l12Bytes_L _ _ hr, l1Stands_L _ _ hc, Option.bind_some, recB]
  have he := endP_le c 64
  by_cases h0 : c.size = 0
  · simp [h0]
  · rw [if_neg h0]
    have h5 : decide (endP c 64 < c.size) = !decide (endP c 64 = c.size) := by
      rw [Bool.eq_iff_iff]
      simp
      omega
    have h6 : decide ((c.size : Int) ≤ 160) = decide (c.size ≤ 160) := by
      rw [Bool.eq_iff_iff, decide_eq_true_eq, decide_eq_true_eq]
      omega
    have h7 : decide ((r.size : Int) ≤ 200) = decide (r.size ≤ 200) := by
      rw [Bool.eq_iff_iff, decide_eq_true_eq, decide_eq_true_eq]
      omega
    have h8 : decide (1 ≤ c.size ∧ c.size ≤ 160 ∧ r.size ≤ 200) = (decide (c.size ≤ 160) && decide (r.size ≤ 200)) := by
      rw [Bool.eq_iff_iff, Bool.and_eq_true, decide_eq_true_eq, decide_eq_true_eq, decide_eq_true_eq]
      omega
    rw [h5, h6, h7, h8]
    generalize prB c c.size 0 = b1
    generalize prB r r.size 0 = b2
    generalize decide (endP c 64 = c.size) = b3
    generalize decide (c.size ≤ 160) = b4
    generalize decide (r.size ≤ 200) = b5
    cases b1 <;> cases b2 <;> cases b3 <;> cases b4 <;> cases b5 <;> rfl
theorem IsValidRecord_L (c r : ByteArray) (hc : c.size ≤ 1000000000) (hr : r.size ≤ 1000000000) : L (fun k => impl_IsValidRecord.f k c r) = some (recB c r) := by
  simp only [impl_IsValidRecord.f, within_e, L_ite, L_const, L_bind, isPrinted_L _ hc, isPrinted_L _ hr, split_L _ _ hc, Option.bind_some, recB, inB]
  have h6 : ((((splitP c 64).length : Int) == 1) = true) ↔ endP c 64 = c.size := by
    rw [← splitP_two]
    have := splitP_pos c 64
    rw [beq_iff_eq]
    omega
  have h7 : (((splitP c 64).length : Int) == 1) = decide (endP c 64 = c.size) := by
    rw [Bool.eq_iff_iff, h6, decide_eq_true_eq]
  rw [h7]
  by_cases h0 : 1 ≤ (c.size : Int)
  · by_cases h1 : (c.size : Int) ≤ 160
    · by_cases h2 : (r.size : Int) ≤ 200
      · have h8 : (1 ≤ c.size ∧ c.size ≤ 160 ∧ r.size ≤ 200) := by omega
        cases h3 : prB c c.size 0 <;> cases h4 : prB r r.size 0 <;> simp [h0, h1, h2, h8]
      · have h8 : ¬ (1 ≤ c.size ∧ c.size ≤ 160 ∧ r.size ≤ 200) := by omega
        simp [h0, h1, h2, h8]
    · have h8 : ¬ (1 ≤ c.size ∧ c.size ≤ 160 ∧ r.size ≤ 200) := by omega
      simp [h0, h1, h8]
  · have h8 : ¬ (1 ≤ c.size ∧ c.size ≤ 160 ∧ r.size ≤ 200) := by omega
    simp [h0, h8]
def digP (d : Nat) : ByteArray := ⟨#[UInt8.ofNat (48 + d)]⟩
theorem digP_size (d : Nat) : (digP d).size = 1 := rfl
def numP (n : Nat) : ByteArray := if n < 10 then digP n else numP (n / 10) ++ digP (n % 10)
theorem numP_lt {n : Nat} (h : n < 10) : numP n = digP n := by rw [numP, if_pos h]
theorem numP_ge {n : Nat} (h : ¬ n < 10) : numP n = numP (n / 10) ++ digP (n % 10) := by rw [numP, if_neg h]
theorem numP_size : ∀ (m n : Nat), n < 10 ^ (m + 1) → (numP n).size ≤ m + 1
  | 0, n, h => by
    rw [numP_lt (by simpa using h), digP_size]
    omega
  | m + 1, n, h => by
    by_cases h10 : n < 10
    · rw [numP_lt h10, digP_size]
      omega
    · have := numP_size m (n / 10) (by rw [Nat.pow_succ] at h; omega)
      rw [numP_ge h10, ByteArray.size_append, digP_size]
      omega
theorem lit_dig : ∀ d : Nat, d < 10 → (⟨#[48, 49, 50, 51, 52, 53, 54, 55, 56, 57]⟩ : ByteArray).extract d (d + 1) = digP d := by
  intro d hd
  match d, hd with
  | 0, _ => rfl
  | 1, _ => rfl
  | 2, _ => rfl
  | 3, _ => rfl
  | 4, _ => rfl
  | 5, _ => rfl
  | 6, _ => rfl
  | 7, _ => rfl
  | 8, _ => rfl
  | 9, _ => rfl
theorem str_dig : ∀ d : Nat, d < 10 → strOfNums [((48 + d : Nat) : Int)] = digP d := by
  intro d hd
  match d, hd with
  | 0, _ => rfl
  | 1, _ => rfl
  | 2, _ => rfl
  | 3, _ => rfl
  | 4, _ => rfl
  | 5, _ => rfl
  | 6, _ => rfl
  | 7, _ => rfl
  | 8, _ => rfl
  | 9, _ => rfl
theorem bt_dig : ∀ d : Nat, d < 10 → bt (digP d) ((0 : Nat) : Int) = ((48 + d : Nat) : Int) := by
  intro d hd
  match d, hd with
  | 0, _ => rfl
  | 1, _ => rfl
  | 2, _ => rfl
  | 3, _ => rfl
  | 4, _ => rfl
  | 5, _ => rfl
  | 6, _ => rfl
  | 7, _ => rfl
  | 8, _ => rfl
  | 9, _ => rfl
theorem numP_at (n : Nat) : ∀ i : Nat, i < (numP n).size → 48 ≤ bt (numP n) (i : Int) ∧ bt (numP n) (i : Int) ≤ 57 := by
  induction n using Nat.strongRecOn with
  | _ n ih =>
    intro i hi
    by_cases h10 : n < 10
    · rw [numP_lt h10] at hi ⊢
      have h1 := digP_size n
      obtain rfl : i = 0 := by omega
      rw [bt_dig n h10]
      omega
    · rw [numP_ge h10] at hi ⊢
      rw [ByteArray.size_append, digP_size] at hi
      by_cases h : i < (numP (n / 10)).size
      · rw [bt_left _ _ i h]
        exact ih (n / 10) (by omega) i h
      · rw [bt_right _ _ i (by omega) (by rw [digP_size]; omega), show i - (numP (n / 10)).size = 0 by omega, bt_dig _ (by omega)]
        omega
theorem tdiv10 (n : Nat) (h : n ≤ 1000000000000) : wrap64 (Int.tdiv (n : Int) 10) = ((n / 10 : Nat) : Int) := by
  rw [Int.tdiv_eq_ediv_of_nonneg (by omega), wrap_id (by omega) (by omega)]
  omega
theorem tmod10 (n : Nat) : Int.tmod (n : Int) 10 = ((n % 10 : Nat) : Int) := by
  rw [Int.tmod_eq_emod_of_nonneg (by omega)]
  omega
theorem l1Num_L (n : Nat) : n ≤ 1000000000 → L (fun k => spec_l1Num.f k (n : Int)) = some (numP n) := by
  induction n using Nat.strongRecOn with
  | _ n ih =>
    intro hn
    rw [L_shift]
    have e1 : wrap64 (((n % 10 : Nat) : Int) + 1) = ((n % 10 + 1 : Nat) : Int) := wrapn (by omega)
    have e2 : wrap64 ((n : Int) + 1) = ((n + 1 : Nat) : Int) := wrapn (by omega)
    simp only [spec_l1Num.f, if_neg (show ¬ (n : Int) < 0 by omega), L_ite, L_bind, L_const, tdiv10 n (by omega), tmod10, e1, e2, Int.toNat_natCast, le_nat, if_true]
    by_cases h10 : n < 10
    · rw [if_pos (show (n : Int) < 10 by omega), if_pos (by omega), if_pos (by omega), lit_dig n h10, numP_lt h10]
    · have hs := numP_size 9 (n / 10) (by omega)
      rw [if_neg (show ¬ (n : Int) < 10 by omega), ih (n / 10) (by omega) (by omega), Option.bind_some, if_pos (by omega), if_pos (by omega), lit_dig _ (by omega), if_pos (by rw [digP_size]; omega), numP_ge h10]
theorem text_l (n : Nat) : n ≤ 1000000000 → ∀ out : ByteArray, out.size + n ≤ 1000000000000 → L (fun k => impl_text.l0 k (n : Int) out) = some (numP n ++ out) := by
  induction n using Nat.strongRecOn with
  | _ n ih =>
    intro hn out ho
    rw [L_shift]
    have e1 : (wrap64 (48 + ((n % 10 : Nat) : Int))) % 256 = ((48 + n % 10 : Nat) : Int) := by
      rw [wrap_id (by omega) (by omega)]
      omega
    simp only [impl_text.l0, L_ite, L_const, tdiv10 n (by omega), tmod10, e1, Option.bind_some, str_dig (n % 10) (by omega), digP_size, if_pos (show 1 + out.size ≤ 9223372036854775807 by omega)]
    by_cases h10 : n < 10
    · rw [if_pos (by omega), numP_lt h10, show n % 10 = n by omega]
    · rw [if_neg (by omega), ih (n / 10) (by omega) (by omega) _ (by rw [ByteArray.size_append, digP_size]; omega), numP_ge h10, ByteArray.append_assoc]
theorem text_L (n : Nat) (hn : n ≤ 1000000000) : L (fun k => impl_text.f k (n : Int)) = some (numP n) := by
  rw [L_shift]
  have := text_l n hn (⟨#[]⟩ : ByteArray) (by show 0 + n ≤ _; omega)
  simp only [impl_text.f, if_neg (show ¬ (n : Int) < 0 by omega), this]
  rw [show (⟨#[]⟩ : ByteArray) = ByteArray.empty from rfl, ByteArray.append_empty]
def sumE (h c : Int) : Int := Int.tmod (wrap64 ((wrap64 ((wrap64 (41 * h)) + c)) + 1)) 999979
theorem sumE_range {h c : Int} (h0 : 0 ≤ h) (h1 : h ≤ 999979) (c0 : 0 ≤ c) (c1 : c ≤ 255) : 0 ≤ sumE h c ∧ sumE h c < 999979 := by
  unfold sumE
  rw [wrap_id (n := 41 * h) (by omega) (by omega), wrap_id (n := 41 * h + c) (by omega) (by omega), wrap_id (n := 41 * h + c + 1) (by omega) (by omega), Int.tmod_eq_emod_of_nonneg (by omega)]
  omega
def sumP (s : ByteArray) : Nat → Nat → Int → Int
  | 0, _, h => h
  | d + 1, i, h => sumP s d (i + 1) (sumE h (bt s (i : Int)))
theorem sumP_range (s : ByteArray) : ∀ d i h, 0 ≤ h → h < 999979 → 0 ≤ sumP s d i h ∧ sumP s d i h < 999979
  | 0, i, h, h0, h1 => ⟨h0, h1⟩
  | d + 1, i, h, h0, h1 => by
    have hb := bt_range s (i : Int)
    have := sumE_range h0 (by omega) hb.1 hb.2
    exact sumP_range s d (i + 1) _ this.1 this.2
def sumN (s : ByteArray) : Nat := (sumP s s.size 0 7).toNat
theorem sumN_lt (s : ByteArray) : sumN s < 1000000 := by
  have := sumP_range s s.size 0 7 (by omega) (by omega)
  unfold sumN
  omega
theorem sumN_e (s : ByteArray) : sumP s s.size 0 7 = (sumN s : Int) := by
  have := sumP_range s s.size 0 7 (by omega) (by omega)
  unfold sumN
  omega
theorem l1Sum_l (s : ByteArray) (hs : s.size ≤ 1000000000) : ∀ (d i : Nat) (h : Int), i + d = s.size → L (fun k => spec_l1Sum.l0 k s h (i : Int)) = some (sumP s d i h)
  | 0, i, h, hi => by
    rw [L_shift]
    simp only [spec_l1Sum.l0, if_neg (show ¬ (i : Int) < (s.size : Int) by omega), L_const, sumP]
  | d + 1, i, h, hi => by
    rw [L_shift]
    simp only [spec_l1Sum.l0, if_pos (show (i : Int) < (s.size : Int) by omega), le_nat, if_true, wrapn (show i ≤ 9223372036854775806 by omega), wrap_bt]
    exact l1Sum_l s hs d (i + 1) _ (by omega)
theorem l1Sum_L (s : ByteArray) (hs : s.size ≤ 1000000000) : L (fun k => spec_l1Sum.f k s) = some (sumN s : Int) := by
  rw [← sumN_e]
  exact l1Sum_l s hs s.size 0 7 (by omega)
theorem Checksum_l (s : ByteArray) (hs : s.size ≤ 1000000000) : ∀ (d i : Nat) (h : Int), i + d = s.size → L (fun k => impl_Checksum.l0 k s h (i : Int)) = some (sumP s d i h, true)
  | 0, i, h, hi => by
    rw [L_shift]
    simp only [impl_Checksum.l0, if_neg (show ¬ (i : Int) < (s.size : Int) by omega), L_const, sumP]
  | d + 1, i, h, hi => by
    rw [L_shift]
    simp only [impl_Checksum.l0, if_pos (show (i : Int) < (s.size : Int) by omega), le_nat, if_true, wrapn (show i ≤ 9223372036854775806 by omega), wrap_bt]
    exact Checksum_l s hs d (i + 1) _ (by omega)
theorem Checksum_L (s : ByteArray) (hs : s.size ≤ 4000) : L (fun k => impl_Checksum.f k s) = some ((sumN s : Int), true) := by
  rw [← sumN_e]
  simp only [impl_Checksum.f, if_neg (show ¬ (s.size : Int) > 4000 by omega)]
  exact Checksum_l s (by omega) s.size 0 7 (by omega)
def sealP (s : ByteArray) : ByteArray := (s ++ (⟨#[35]⟩ : ByteArray)) ++ numP (sumN s)
theorem one_size (b : UInt8) : (⟨#[b]⟩ : ByteArray).size = 1 := rfl
theorem sealP_size (s : ByteArray) : (sealP s).size ≤ s.size + 7 := by
  have := numP_size 5 (sumN s) (sumN_lt s)
  rw [sealP, ByteArray.size_append, ByteArray.size_append, one_size]
  omega
theorem l1Seal_L (s : ByteArray) (hs : s.size ≤ 1000000000) : L (fun k => spec_l1Seal.f k s) = some (sealP s) := by
  have h1 := numP_size 5 (sumN s) (sumN_lt s)
  have h2 := sumN_lt s
  simp only [spec_l1Seal.f, L_ite, L_bind, L_const, l1Sum_L s hs, Option.bind_some, l1Num_L (sumN s) (by omega), if_pos (show s.size + 1 ≤ 9223372036854775807 by omega), if_pos (show s.size + 1 + (numP (sumN s)).size ≤ 9223372036854775807 by omega), sealP]
theorem AppendChecksum_L (s : ByteArray) (hs : s.size ≤ 3000) (hn : endP s 35 = s.size) : L (fun k => impl_AppendChecksum.f k s) = some (sealP s, true) := by
  have h1 := numP_size 5 (sumN s) (sumN_lt s)
  have h2 := sumN_lt s
  have h3 := (splitP_two s 35).2 hn
  simp only [impl_AppendChecksum.f, L_ite, L_bind, L_const, Checksum_L s (by omega), Option.bind_some, text_L (sumN s) (by omega), split_L s 35 (by omega), if_pos (show s.size + 1 ≤ 9223372036854775807 by omega), if_pos (show s.size + 1 + (numP (sumN s)).size ≤ 9223372036854775807 by omega), if_true, if_neg (show ¬ ((splitP s 35).length : Int) > 1 by omega), if_neg (show ¬ ((s.size : Int) + 1 + ((numP (sumN s)).size : Int)) > 4000 by omega), sealP]
def bodyP (n : Nat) (c r : ByteArray) : ByteArray := (((numP n ++ (⟨#[32]⟩ : ByteArray)) ++ c) ++ (⟨#[64]⟩ : ByteArray)) ++ r
def lineP (n : Nat) (c r : ByteArray) : ByteArray := sealP (bodyP n c r) ++ (⟨#[10]⟩ : ByteArray)
theorem bodyP_size (n : Nat) (c r : ByteArray) : (bodyP n c r).size = (numP n).size + 1 + c.size + 1 + r.size := by
  simp only [bodyP, ByteArray.size_append, one_size]
def noB (s : ByteArray) (b : Int) : Prop := ∀ i : Nat, i < s.size → bt s (i : Int) ≠ b
theorem noB_app {s t : ByteArray} {b : Int} (hs : noB s b) (ht : noB t b) : noB (s ++ t) b := by
  intro i hi
  rw [ByteArray.size_append] at hi
  by_cases h : i < s.size
  · rw [bt_left _ _ i h]
    exact hs i h
  · rw [bt_right _ _ i (by omega) hi]
    exact ht _ (by omega)
theorem noB_end {s : ByteArray} {b : Int} (h : noB s b) : endP s b = s.size := by
  rw [endP, nxtP_none s b s.size 0 (fun j _ h2 => h j (by omega))]
  omega
theorem noB_one (x : UInt8) (b : Int) (h : (x.toNat : Int) ≠ b) : noB (⟨#[x]⟩ : ByteArray) b := by
  intro i hi
  rw [one_size] at hi
  obtain rfl : i = 0 := by omega
  exact h
theorem recB_iff {c r : ByteArray} : recB c r = true ↔ (1 ≤ c.size ∧ c.size ≤ 160 ∧ r.size ≤ 200) ∧ prB c c.size 0 = true ∧ prB r r.size 0 = true ∧ endP c 64 = c.size := by
  simp only [recB, Bool.and_eq_true, decide_eq_true_eq]
theorem bodyP_no {n : Nat} {c r : ByteArray} (h : recB c r = true) (b : Int) (hb : b = 35 ∨ b = 10) : noB (bodyP n c r) b := by
  obtain ⟨_, h1, h2, _⟩ := recB_iff.1 h
  unfold bodyP
  refine noB_app (noB_app (noB_app (noB_app ?_ ?_) ?_) ?_) ?_
  · intro i hi
    have := numP_at n i hi
    omega
  · exact noB_one _ _ (by show (32 : Int) ≠ b; omega)
  · intro i hi
    have := prB_at c c.size 0 h1 i (by omega) (by omega)
    omega
  · exact noB_one _ _ (by show (64 : Int) ≠ b; omega)
  · intro i hi
    have := prB_at r r.size 0 h2 i (by omega) (by omega)
    omega
theorem lineP_size {n : Nat} {c r : ByteArray} (hn : n < 60) (h : recB c r = true) : (lineP n c r).size ≤ 372 := by
  obtain ⟨h1, _⟩ := recB_iff.1 h
  have h2 := sealP_size (bodyP n c r)
  have h3 := bodyP_size n c r
  have h4 := numP_size 1 n (by omega)
  rw [lineP, ByteArray.size_append, one_size]
  omega
theorem l12Line_L (n : Nat) (c r : ByteArray) (hn : n ≤ 1000) (hc : c.size ≤ 10000000) (hr : r.size ≤ 10000000) : L (fun k => spec_l12Line.f k (n : Int) c r) = some (lineP n c r) := by
  have h1 := numP_size 3 n (by omega)
  have h2 := bodyP_size n c r
  have h3 := sealP_size (bodyP n c r)
  have h4 := l1Seal_L (bodyP n c r) (by omega)
  unfold bodyP at h4
  simp only [spec_l12Line.f, L_ite, L_bind, L_const, l1Num_L n (by omega), Option.bind_some, h4, if_pos (show (numP n).size + 1 ≤ 9223372036854775807 by omega), if_pos (show (numP n).size + 1 + c.size ≤ 9223372036854775807 by omega), if_pos (show (numP n).size + 1 + c.size + 1 ≤ 9223372036854775807 by omega), if_pos (show (numP n).size + 1 + c.size + 1 + r.size ≤ 9223372036854775807 by omega)]
  rw [if_pos (by have : (sealP (bodyP n c r)).size + 1 ≤ 9223372036854775807 := by omega
                 exact this)]
  rfl
theorem EncodeRecord_L (n : Nat) (c r : ByteArray) (hn : n < 60) (hc : c.size ≤ 10000000) (hr : r.size ≤ 10000000) :
    L (fun k => impl_EncodeRecord.f k (n : Int) c r) = some (if recB c r = true then (lineP n c r, true) else ((⟨#[]⟩ : ByteArray), false)) := by
  have hw : inB (n : Int) 0 59 = true := inB_iff.2 (by omega)
  simp only [impl_EncodeRecord.f, L_ite, L_bind, L_const, within_e, hw, Option.bind_some, if_true, IsValidRecord_L c r (by omega) (by omega)]
  cases hb : recB c r with
  | false =>
    rw [L_shift]
    simp only [impl_EncodeRecord.j0, Bool.not_false, if_true, L_const]
    rfl
  | true =>
    obtain ⟨h0, _⟩ := recB_iff.1 hb
    have h1 := numP_size 1 n (by omega)
    have h2 := bodyP_size n c r
    have h3 := sealP_size (bodyP n c r)
    have h4 := AppendChecksum_L (bodyP n c r) (by omega) (noB_end (bodyP_no hb 35 (.inl rfl)))
    unfold bodyP at h4
    rw [L_shift]
    simp only [impl_EncodeRecord.j0, Bool.not_true, Bool.false_eq_true, if_false, L_ite, L_bind, L_const, text_L n (by omega), Option.bind_some, h4, if_pos (show (numP n).size + 1 ≤ 9223372036854775807 by omega), if_pos (show (numP n).size + 1 + c.size ≤ 9223372036854775807 by omega), if_pos (show (numP n).size + 1 + c.size + 1 ≤ 9223372036854775807 by omega), if_pos (show (numP n).size + 1 + c.size + 1 + r.size ≤ 9223372036854775807 by omega)]
    rw [if_pos (by have : (sealP (bodyP n c r)).size + 1 ≤ 9223372036854775807 := by omega
                   exact this)]
    rfl
def nl1 : ByteArray := ⟨#[10]⟩
theorem decode_j (n : Nat) (line h t : ByteArray) (hn : n < 60) (ht : h.size ≤ t.size) (hs : t.size ≤ 10000000) (hl : line.size ≤ 10000000) :
    ∃ (a b : ByteArray) (ok : Bool), L (fun k => spec_l12Decode.j0 k line (n : Int) h t false) = some (a, b, ok) ∧ L (fun k => impl_decode.j0 k (n : Int) line h t false) = some (a, b, ok) ∧ (ok = true → recB a b = true ∧ lineP n a b = line ++ nl1) := by
  obtain ⟨R, hR⟩ : ∃ R, R = t.extract h.size t.size := ⟨_, rfl⟩
  have hRs : R.size = t.size - h.size := by rw [hR, ByteArray.size_extract, Nat.min_self]
  have he := endP_le R 64
  have hsz := size_head R 64
  by_cases hend : endP R 64 = R.size
  · refine ⟨⟨#[]⟩, ⟨#[]⟩, false, ?_, ?_, fun h => by cases h⟩
    · rw [L_shift]
      simp only [spec_l12Decode.j0, ← hR, Bool.false_eq_true, if_false, L_ite, L_bind, L_const, le_nat, if_true, if_pos (show (h.size : Int) ≤ (t.size : Int) by omega), l1Split_L R 64 (by omega), Option.bind_some, splitP_pos, splitP_rd, size_head, if_pos (show (endP R 64 : Int) = ((t.size - h.size : Nat) : Int) by omega)]
    · rw [L_shift]
      simp only [impl_decode.j0, ← hR, Bool.false_eq_true, if_false, L_ite, L_bind, L_const, le_nat, if_true, if_pos (show (h.size : Int) ≤ (t.size : Int) by omega), split_L R 64 (by omega), Option.bind_some, splitP_pos, splitP_rd, size_head, if_pos (show (endP R 64 : Int) = ((t.size - h.size : Nat) : Int) by omega)]
  · have hw : wrap64 ((endP R 64 : Int) + 1) = ((endP R 64 + 1 : Nat) : Int) := wrapn (by omega)
    obtain ⟨A, hA⟩ : ∃ A, A = R.extract 0 (endP R 64) := ⟨_, rfl⟩
    obtain ⟨B, hB⟩ : ∃ B, B = R.extract (endP R 64 + 1) (t.size - h.size) := ⟨_, rfl⟩
    have hAs : A.size ≤ 10000000 := by
      rw [hA, hsz]
      omega
    have hBs : B.size ≤ 10000000 := by
      rw [hB, ByteArray.size_extract]
      omega
    have hAe : A.size = endP R 64 := by rw [hA, hsz]
    have hrec := l12Record_L A B (by omega) (by omega)
    have hline := l12Line_L n A B (by omega) (by omega) (by omega)
    have henc := EncodeRecord_L n A B hn (by omega) (by omega)
    have e1 : L (fun k => spec_l12Decode.j0 k line (n : Int) h t false) = some (A, B, recB A B && decide (lineP n A B = line ++ nl1)) := by
      rw [L_shift]
      simp only [spec_l12Decode.j0, ← hR, Bool.false_eq_true, if_false, L_ite, L_bind, L_const, le_nat, if_true, if_pos (show (h.size : Int) ≤ (t.size : Int) by omega), l1Split_L R 64 (by omega), Option.bind_some, splitP_pos, splitP_rd, ← hA, hAe, if_neg (show ¬ (endP R 64 : Int) = ((t.size - h.size : Nat) : Int) by omega), hw, if_pos (show ((endP R 64 + 1 : Nat) : Int) ≤ ((t.size - h.size : Nat) : Int) by omega), Int.toNat_natCast, ← hB, hrec, hline, if_pos (show line.size + 1 ≤ 9223372036854775807 by omega), toList_beq]
      cases recB A B <;> rfl
    have e2 : L (fun k => impl_decode.j0 k (n : Int) line h t false) = some (A, B, recB A B && decide (lineP n A B = line ++ nl1)) := by
      rw [L_shift]
      simp only [impl_decode.j0, ← hR, Bool.false_eq_true, if_false, L_ite, L_bind, L_const, le_nat, if_true, if_pos (show (h.size : Int) ≤ (t.size : Int) by omega), split_L R 64 (by omega), Option.bind_some, splitP_pos, splitP_rd, ← hA, hAe, if_neg (show ¬ (endP R 64 : Int) = ((t.size - h.size : Nat) : Int) by omega), hw, if_pos (show ((endP R 64 + 1 : Nat) : Int) ≤ ((t.size - h.size : Nat) : Int) by omega), Int.toNat_natCast, ← hB, henc, if_pos (show line.size + 1 ≤ 9223372036854775807 by omega), toList_beq]
      cases recB A B <;> rfl
    refine ⟨A, B, _, e1, e2, fun h => ?_⟩
    simp only [Bool.and_eq_true, decide_eq_true_eq] at h
    exact h
theorem decode_both (n : Nat) (line : ByteArray) (hn : n < 60) (hl : line.size ≤ 10000000) :
    ∃ (a b : ByteArray) (ok : Bool), L (fun k => spec_l12Decode.f k line (n : Int)) = some (a, b, ok) ∧ L (fun k => impl_decode.f k (n : Int) line) = some (a, b, ok) ∧ (ok = true → recB a b = true ∧ lineP n a b = line ++ nl1) := by
  have h1 := numP_size 1 n (by omega)
  have he := endP_le line 35
  have hsz := size_head line 35
  have hh : (numP n ++ (⟨#[32]⟩ : ByteArray)).size = (numP n).size + 1 := by rw [ByteArray.size_append, one_size]
  obtain ⟨T, hT⟩ : ∃ T, T = line.extract 0 (endP line 35) := ⟨_, rfl⟩
  rw [← hT] at hsz
  have es : L (fun k => spec_l12Decode.f k line (n : Int)) = L (fun k => spec_l12Decode.j0 k line (n : Int) (numP n ++ (⟨#[32]⟩ : ByteArray)) T (decide ((T.size : Int) < ((numP n).size : Int) + 1) || !decide (T.extract 0 ((numP n).size + 1) = numP n ++ (⟨#[32]⟩ : ByteArray)))) := by
    simp only [spec_l12Decode.f, L_ite, L_bind, L_const, l1Num_L n (by omega), Option.bind_some, if_pos (show (numP n).size + 1 ≤ 9223372036854775807 by omega), l1Split_L line 35 (by omega), splitP_pos, if_true, splitP_rd, ← hT, toList_bne]
    by_cases hc : (T.size : Int) < ((numP n).size : Int) + 1
    · rw [if_pos hc]
      simp only [hc, decide_true, Bool.true_or]
    · rw [if_neg hc, if_pos (by omega), if_pos (by omega)]
      simp only [hc, decide_false, Bool.false_or]
      rw [show (((numP n).size : Int) + 1).toNat = (numP n).size + 1 by omega]
  have ei : L (fun k => impl_decode.f k (n : Int) line) = L (fun k => impl_decode.j0 k (n : Int) line (numP n ++ (⟨#[32]⟩ : ByteArray)) T (decide ((T.size : Int) < ((numP n).size : Int) + 1) || !decide (T.extract 0 ((numP n).size + 1) = numP n ++ (⟨#[32]⟩ : ByteArray)))) := by
    simp only [impl_decode.f, L_ite, L_bind, L_const, text_L n (by omega), Option.bind_some, if_pos (show (numP n).size + 1 ≤ 9223372036854775807 by omega), split_L line 35 (by omega), splitP_pos, if_true, splitP_rd, ← hT, toList_bne]
    by_cases hc : (T.size : Int) < ((numP n).size : Int) + 1
    · rw [if_pos hc]
      simp only [hc, decide_true, Bool.true_or]
    · rw [if_neg hc, if_pos (by omega), if_pos (by omega)]
      simp only [hc, decide_false, Bool.false_or]
      rw [show (((numP n).size : Int) + 1).toNat = (numP n).size + 1 by omega]
  rw [es, ei]
  by_cases hc : (T.size : Int) < ((numP n).size : Int) + 1
  · simp only [hc, decide_true, Bool.true_or]
    refine ⟨⟨#[]⟩, ⟨#[]⟩, false, ?_, ?_, fun h => by cases h⟩
    · rw [L_shift]
      simp only [spec_l12Decode.j0, if_true, L_const]
    · rw [L_shift]
      simp only [impl_decode.j0, if_true, L_const]
  · simp only [hc, decide_false, Bool.false_or]
    cases hd : decide (T.extract 0 ((numP n).size + 1) = numP n ++ (⟨#[32]⟩ : ByteArray)) with
    | false =>
      refine ⟨⟨#[]⟩, ⟨#[]⟩, false, ?_, ?_, fun h => by cases h⟩
      · rw [L_shift]
        simp only [spec_l12Decode.j0, Bool.not_false, if_true, L_const]
      · rw [L_shift]
        simp only [impl_decode.j0, Bool.not_false, if_true, L_const]
    | true =>
      simp only [Bool.not_true]
      exact decode_j n line _ T hn (by omega) (by omega) hl
theorem recovered_scan (s : ByteArray) (recs : List S39) (at' : Int) (hs : s.size ≤ 10000000) : ∀ d i : Nat, i + d = s.size →
    L (fun k => impl_recovered.l1 k s recs at' (i : Int)) = L (fun k => impl_recovered.j2 k s recs at' ((nxtP s 10 d i : Nat) : Int))
  | 0, i, h => by
    rw [L_shift]
    simp only [impl_recovered.l1, if_neg (show ¬ (i : Int) < (s.size : Int) by omega), nxtP]
  | d + 1, i, h => by
    rw [L_shift]
    simp only [impl_recovered.l1, if_pos (show (i : Int) < (s.size : Int) by omega), le_nat, if_true, wrapn (show i ≤ 9223372036854775806 by omega), L_ite, nxtP, recovered_scan s recs at' hs d (i + 1) (by omega)]
    by_cases hb : bt s (i : Int) = 10
    · rw [if_pos hb, if_pos hb]
    · rw [if_neg hb, if_neg hb]
theorem sub_same {E s a : Nat} (h : E - a = s - a) (h1 : a ≤ E) (h2 : a ≤ s) : E = s := by omega
theorem at_add1 (a E : Nat) (h : a ≤ E) (hE : E ≤ 3000000) : wrap64 (wrap64 ((a : Int) + ((E - a : Nat) : Int)) + 1) = ((E + 1 : Nat) : Int) := by
  rw [wrap_id (n := (a : Int) + ((E - a : Nat) : Int)) (by omega) (by omega), wrap_id (by omega) (by omega)]
  omega
theorem at_add2 (a E : Nat) (h : a ≤ E) (hE : E ≤ 3000000) : wrap64 ((a : Int) + wrap64 (((E - a : Nat) : Int) + 1)) = ((E + 1 : Nat) : Int) := by
  rw [wrap_id (n := ((E - a : Nat) : Int) + 1) (by omega) (by omega), wrap_id (by omega) (by omega)]
  omega
theorem open_l (s : ByteArray) (hs : s.size ≤ 3000000) : ∀ (m at' : Nat) (recs : List S39), s.size - at' ≤ m → at' ≤ s.size → recs.length ≤ 60 →
    ∃ (R : List S39) (e : Nat), L (fun k => spec_l12Open.l0 k s recs (at' : Int)) = some (R, (e : Int)) ∧ L (fun k => impl_recovered.l0 k s recs (at' : Int)) = some (R, (e : Int)) ∧ at' ≤ e ∧ e ≤ s.size ∧ recs.length ≤ R.length ∧ R.length ≤ 60 ∧ e ≤ at' + 372 * (R.length - recs.length) := by
  intro m
  induction m with
  | zero =>
    intro at' recs hm hat h60
    obtain rfl : at' = s.size := by omega
    refine ⟨recs, s.size, ?_, ?_, by omega, by omega, by omega, h60, by omega⟩
    · rw [L_shift]
      simp only [spec_l12Open.l0, if_neg (show ¬ (s.size : Int) < (s.size : Int) by omega)]
      rw [L_shift]
      simp only [spec_l12Open.j1, Bool.false_eq_true, if_false, L_const]
    · rw [L_shift]
      simp only [impl_recovered.l0, L_ite, L_const, recovered_scan s recs _ (by omega) 0 s.size (by omega), nxtP]
      rw [L_shift]
      simp only [impl_recovered.j2, if_true, L_const]
      by_cases h : (recs.length : Int) < 60
      · rw [if_pos h]
      · rw [if_neg h]
  | succ m ih =>
    intro at' recs hm hat h60
    by_cases hfull : recs.length < 60
    · by_cases hend : at' = s.size
      · exact ih at' recs (by omega) hat h60
      · have hX : (s.extract at' s.size).size = s.size - at' := by rw [ByteArray.size_extract, Nat.min_self]
        have hX9 : (s.extract at' s.size).size ≤ 1000000000 := by
          rw [hX]
          omega
        obtain ⟨E, hE⟩ : ∃ E, E = nxtP s 10 (s.size - at') at' := ⟨_, rfl⟩
        have hEl := nxtP_le s 10 (s.size - at') at'
        rw [← hE] at hEl
        have hE9 : E ≤ 3000000 := by omega
        have hEi : (at' : Int) ≤ (E : Int) := by omega
        have hEs : (E : Int) ≤ (s.size : Int) := by omega
        have hE2 : endP (s.extract at' s.size) 10 = E - at' := by
          have := nxtP_ext s 10 at' (s.size - at') 0 (by omega)
          rw [endP, hX]
          simp only [Nat.add_zero] at this
          omega
        have hhead : (s.extract at' s.size).extract 0 (endP (s.extract at' s.size) 10) = s.extract at' E := by
          rw [hE2, ByteArray.extract_extract, show min (at' + (E - at')) s.size = E by omega, Nat.add_zero]
        have hls : (s.extract at' E).size = E - at' := by
          rw [ByteArray.size_extract]
          omega
        obtain ⟨a, b, ok, hds, hdi, hok⟩ := decode_both recs.length (s.extract at' E) hfull (by omega)
        have hsp : L (fun k => spec_l12Open.l0 k s recs (at' : Int)) = if E = s.size then some (recs, (at' : Int)) else if ok = true then L (fun k => spec_l12Open.l0 k s (recs ++ [⟨a, b⟩]) ((E + 1 : Nat) : Int)) else some (recs, (at' : Int)) := by
          rw [L_shift]
          simp only [spec_l12Open.l0, if_pos (show (at' : Int) < (s.size : Int) by omega), show decide ((recs.length : Int) < 60) = true from decide_eq_true (by omega)]
          rw [L_shift]
          have e3 := at_add1 at' E hEl.1 hE9
          simp only [spec_l12Open.j1, if_true, le_nat, if_pos (show (at' : Int) ≤ (s.size : Int) by omega), Int.toNat_natCast, L_ite, L_bind, L_const, l1Split_L (s.extract at' s.size) 10 hX9, Option.bind_some, splitP_pos, splitP_rd, hhead, hds, hls, e3, if_pos (show recs.length < 4398046511104 by omega)]
          by_cases h2 : E = s.size
          · have h2' : endP (s.extract at' s.size) 10 = (s.extract at' s.size).size := by
              rw [hE2, hX, h2]
            rw [if_pos ((splitP_two (s.extract at' s.size) 10).2 h2'), if_pos h2]
          · have h2' : ¬ endP (s.extract at' s.size) 10 = (s.extract at' s.size).size := by
              rw [hE2, hX]
              exact fun h => h2 (sub_same h hEl.1 hat)
            rw [if_neg (fun h => h2' ((splitP_two (s.extract at' s.size) 10).1 h)), if_neg h2]
        have him : L (fun k => impl_recovered.l0 k s recs (at' : Int)) = if E = s.size then some (recs, (at' : Int)) else if ok = true then L (fun k => impl_recovered.l0 k s (recs ++ [⟨a, b⟩]) ((E + 1 : Nat) : Int)) else some (recs, (at' : Int)) := by
          rw [L_shift]
          simp only [impl_recovered.l0, if_pos (show (recs.length : Int) < 60 by omega), recovered_scan s recs _ (by omega) (s.size - at') at' (by omega), ← hE]
          rw [L_shift]
          have e3 := at_add2 at' E hEl.1 hE9
          simp only [impl_recovered.j2, le_nat, if_true, if_pos hEi, if_pos hEs, Int.toNat_natCast, L_ite, L_bind, L_const, hdi, Option.bind_some, hls, e3, if_pos (show recs.length < 4398046511104 by omega)]
          by_cases h2 : E = s.size
          · rw [if_pos (congrArg Nat.cast h2), if_pos h2]
          · have h2' : ¬ (E : Int) = (s.size : Int) := fun h => h2 (Int.ofNat_inj.1 h)
            rw [if_neg h2', if_neg h2]
        rw [hsp, him]
        by_cases h2 : E = s.size
        · rw [if_pos h2, if_pos h2]
          exact ⟨recs, at', rfl, rfl, by omega, by omega, by omega, h60, by omega⟩
        · rw [if_neg h2, if_neg h2]
          cases ok with
          | false =>
            simp only [Bool.false_eq_true, if_false]
            exact ⟨recs, at', rfl, rfl, by omega, by omega, by omega, h60, by omega⟩
          | true =>
            obtain ⟨hr, hl⟩ := hok rfl
            have hz := lineP_size hfull hr
            rw [hl, ByteArray.size_append, hls, show nl1.size = 1 from rfl] at hz
            simp only [if_true]
            obtain ⟨R, e, h3, h4, h5, h6, h7, h8, h9⟩ := ih (E + 1) (recs ++ [⟨a, b⟩]) (by omega) (by omega) (by simp; omega)
            simp only [List.length_append, List.length_cons, List.length_nil] at h7 h9
            exact ⟨R, e, h3, h4, by omega, h6, by omega, h8, by omega⟩
    · refine ⟨recs, at', ?_, ?_, by omega, by omega, by omega, h60, by omega⟩
      · rw [L_shift]
        simp only [spec_l12Open.l0, show decide ((recs.length : Int) < 60) = false from decide_eq_false (by omega), ite_self]
        rw [L_shift]
        simp only [spec_l12Open.j1, Bool.false_eq_true, if_false, L_const]
      · rw [L_shift]
        simp only [impl_recovered.l0, if_neg (show ¬ (recs.length : Int) < 60 by omega), L_const]
theorem open_both (s : ByteArray) (hs : s.size ≤ 3000000) :
    ∃ (R : List S39) (e : Nat), L (fun k => spec_l12Open.f k s) = some (R, (e : Int)) ∧ L (fun k => impl_recovered.f k s) = some (R, (e : Int)) ∧ e ≤ s.size ∧ R.length ≤ 60 ∧ e ≤ 22320 := by
  obtain ⟨R, e, h1, h2, h3, h4, h5, h6, h7⟩ := open_l s hs s.size 0 [] (by omega) (by omega) (by simp)
  simp only [List.length_nil] at h7
  exact ⟨R, e, h1, h2, h4, h6, by omega⟩
theorem Valid_both (D P : ByteArray) (c : Int) (h : D.size + P.size ≤ 1048576) :
    ∃ b : Bool, L (fun k => spec_l12Valid.f k D P c) = some b ∧ L (fun k => impl_IsValidLog.f k D P c) = some b ∧ (b = true → 0 ≤ c ∧ c ≤ 60) := by
  have hs : (D ++ P).size = D.size + P.size := ByteArray.size_append
  obtain ⟨R, e, h1, h2, h3, h4, h5⟩ := open_both (D ++ P) (by omega)
  obtain ⟨R', e', h1', h2', h3', h4', h5'⟩ := open_both D (by omega)
  have ew : wrap64 ((D.size : Int) + (P.size : Int)) = ((D.size + P.size : Nat) : Int) := by
    rw [wrap_id (by omega) (by omega)]
    omega
  have e1 : ((R.length : Int) == c) = (c == (R.length : Int)) := by
    rw [Bool.eq_iff_iff, beq_iff_eq, beq_iff_eq]
    exact eq_comm
  have hi : L (fun k => impl_IsValidLog.f k D P c) = if (e : Int) = ((D.size + P.size : Nat) : Int) then (if (e' : Int) = (D.size : Int) then some (c == (R.length : Int)) else some false) else some false := by
    simp only [impl_IsValidLog.f, if_pos (show D.size + P.size ≤ 9223372036854775807 by omega), L_ite, L_bind, L_const, h2, h2', Option.bind_some, ew]
  by_cases hbig : D.size + P.size > 30000
  · refine ⟨false, ?_, ?_, fun h => by cases h⟩
    · simp only [spec_l12Valid.f, ew, if_pos (show ((D.size + P.size : Nat) : Int) > 30000 by omega), L_const]
    · rw [hi, if_neg (by omega)]
  · have hsp : L (fun k => spec_l12Valid.f k D P c) = if (e : Int) = ((D.size + P.size : Nat) : Int) then (if (e' : Int) = (D.size : Int) then some (c == (R.length : Int)) else some false) else some false := by
      simp only [spec_l12Valid.f, ew, if_neg (show ¬ ((D.size + P.size : Nat) : Int) > 30000 by omega), if_pos (show D.size + P.size ≤ 9223372036854775807 by omega), L_ite, L_bind, L_const, h1, h1', Option.bind_some, e1]
    rw [hi, hsp]
    by_cases c1 : (e : Int) = ((D.size + P.size : Nat) : Int)
    · rw [if_pos c1]
      by_cases c2 : (e' : Int) = (D.size : Int)
      · rw [if_pos c2]
        refine ⟨_, rfl, rfl, fun h => ?_⟩
        have := beq_iff_eq.1 h
        omega
      · rw [if_neg c2]
        exact ⟨false, rfl, rfl, fun h => by cases h⟩
    · rw [if_neg c1]
      exact ⟨false, rfl, rfl, fun h => by cases h⟩
theorem szLog_e (D P : ByteArray) (c : Int) (hD : D.size ≤ 9223372036854775807) (hP : P.size ≤ 9223372036854775807) :
    laws_szLog.f D P c 1048576 = if D.size + P.size ≤ 1048576 then some (1048576 - (D.size : Int) - (P.size : Int)) else some (-1) := by
  unfold laws_szLog.f
  have e1 : wrap64 (1048576 - (D.size : Int)) = 1048576 - (D.size : Int) := wrap_id (by omega) (by omega)
  rw [e1]
  by_cases h1 : D.size ≤ 1048576
  · have e2 : wrap64 (1048576 - (D.size : Int) - (P.size : Int)) = 1048576 - (D.size : Int) - (P.size : Int) := wrap_id (by omega) (by omega)
    rw [if_neg (by omega), e2]
    by_cases h2 : D.size + P.size ≤ 1048576
    · rw [if_neg (by omega), if_pos h2]
    · rw [if_pos (by omega), if_neg h2]
  · rw [if_pos (by omega), if_neg (by omega)]

theorem strOfNums_nums (s : ByteArray) : strOfNums (impl_CrashLog.nums s) = s := by
  unfold strOfNums impl_CrashLog.nums
  rw [List.map_map]
  have e : ((fun n : Int => UInt8.ofNat n.toNat) ∘ fun b : UInt8 => (b.toNat : Int)) = id := by
    funext b
    simp
  rw [e, List.map_id]
theorem strOfNums_app (a b : List Int) : strOfNums (a ++ b) = strOfNums a ++ strOfNums b := by
  refine ByteArray.ext ?_
  simp [strOfNums, ByteArray.data_append]
theorem nums_app (a b : ByteArray) : impl_CrashLog.nums (a ++ b) = impl_CrashLog.nums a ++ impl_CrashLog.nums b := by
  simp [impl_CrashLog.nums, ByteArray.data_append]
theorem nums_size (s : ByteArray) : (impl_CrashLog.nums s).length = s.size := by
  unfold impl_CrashLog.nums
  rw [List.length_map]
  rfl
theorem nums_same (a : ByteArray) : spec_CrashLog.nums a = impl_CrashLog.nums a := rfl
theorem torn_same (a : List Int) (t : Bool) : spec_CrashLog.torn a t = impl_CrashLog.torn a t := rfl
theorem torn_app (a b : List Int) (t : Bool) (h : t = true → 0 < b.length) : impl_CrashLog.torn (a ++ b) t = a ++ impl_CrashLog.torn b t := by
  unfold impl_CrashLog.torn
  cases t with
  | false => rfl
  | true =>
    have hb := h rfl
    simp only [if_true]
    have e1 : (a ++ b).length - 1 = a.length + (b.length - 1) := by rw [List.length_append]; omega
    have e2 : (a ++ b).getD (a.length + (b.length - 1)) 0 = b.getD (b.length - 1) 0 := by
      simp only [List.getD_eq_getElem?_getD]
      rw [List.getElem?_append_right (by omega), Nat.add_sub_cancel_left]
    rw [e1, e2, List.set_append, if_neg (by omega), Nat.add_sub_cancel_left]
theorem crash_same (D P : ByteArray) (k : Int) (t : Bool) (h0 : 0 ≤ k) (h1 : k ≤ (P.size : Int)) : D ++ strOfNums (spec_CrashLog.torn (spec_CrashLog.nums (P.extract 0 k.toNat)) (t && decide (0 < k))) = strOfNums (impl_CrashLog.torn (impl_CrashLog.nums (D ++ P.extract 0 k.toNat)) (t && decide (0 < k))) := by
  rw [nums_same, torn_same, nums_app, torn_app, strOfNums_app, strOfNums_nums]
  intro ht
  rw [Bool.and_eq_true, decide_eq_true_eq] at ht
  rw [nums_size, ByteArray.size_extract]
  omega
theorem FnExactCrashLog : laws_FnExactCrashLog.Pure := by
  intro D P c keep torn h1 h2 _ _
  have e1 : maxLen = 9223372036854775807 := rfl
  refine rounds_of_L ?_
  simp only [laws_FnExactCrashLog.f, szLog_e D P c (by omega) (by omega)]
  by_cases hl : D.size + P.size ≤ 1048576
  · obtain ⟨b, hs, hi, _⟩ := Valid_both D P c hl
    simp only [if_pos hl, bindS, if_neg (show ¬ (1048576 - (D.size : Int) - (P.size : Int)) < 0 by omega), laws_toLog.f, L_bind, spec_CrashLog.f, impl_CrashLog.f, hs, hi]
    cases b with
    | false => simp only [Bool.false_eq_true, if_false, bindS, if_true, bne_self_eq_false, L_const]
    | true =>
      by_cases hk : 0 ≤ keep ∧ keep ≤ (P.size : Int)
      · simp only [if_true, if_pos hk, if_pos (show D.size + P.size ≤ 1000000000 by omega), bindS, L_const, crash_same D P keep torn hk.1 hk.2, bne_self_eq_false, Bool.false_eq_true, if_false]
      · simp only [if_true, if_neg hk, bindS, L_const, bne_self_eq_false, Bool.false_eq_true, if_false]
  · simp only [if_neg hl, bindS, if_pos (show (-1 : Int) < 0 by decide), L_const]

end Go.Proofs.Ytkihaemgkagajaa.Pure
