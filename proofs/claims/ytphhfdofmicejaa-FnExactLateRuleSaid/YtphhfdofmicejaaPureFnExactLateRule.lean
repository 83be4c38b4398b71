/- The program's LateRule answers what the reference's answers, for all lists of jobs. -/
import Derived.Test.YtphhfdofmicejaaXSFnExactLateRule
import Derived.Test.YtphhfdofmicejaaXLim
namespace Go.Proofs.Ytphhfdofmicejaa.Pure
open Go.RowKit Go.Proofs.YtphhfdofmicejaaW.PrintWords Go.Proofs.YtphhfdofmicejaaW.PrintLast Go.Proofs.YtphhfdofmicejaaW.PrintMore Go.Proofs.Ytphhfdofmicejaa.X Go.Proofs.Ytphhfdofmicejaa.XRow Go.Proofs.Ytphhfdofmicejaa.XLim
set_option linter.unusedVariables false
set_option linter.unusedSimpArgs false
instance : ∀ a0, Mono (fun k => impl_IsJobs.f k a0) := fun a0 => ⟨⟨impl_IsJobs.mono a0⟩⟩
instance : ∀ a0, Mono (fun k => impl_IsPlain.f k a0) := fun a0 => ⟨⟨impl_IsPlain.mono a0⟩⟩
instance : ∀ a0, Mono (fun k => impl_LateRule.f k a0) := fun a0 => ⟨⟨impl_LateRule.mono a0⟩⟩
instance : ∀ a0 a1, Mono (fun k => impl_has.f k a0 a1) := fun a0 a1 => ⟨⟨impl_has.mono a0 a1⟩⟩
instance : ∀ a0, Mono (fun k => impl_isPlain.f k a0) := fun a0 => ⟨⟨impl_isPlain.mono a0⟩⟩
instance : ∀ a0 a1, Mono (fun k => impl_lateRule.f k a0 a1) := fun a0 a1 => ⟨⟨impl_lateRule.mono a0 a1⟩⟩
instance : ∀ a0, Mono (fun k => impl_numbersTo.f k a0) := fun a0 => ⟨⟨impl_numbersTo.mono a0⟩⟩
instance : ∀ a0 a1, Mono (fun k => impl_others.f k a0 a1) := fun a0 a1 => ⟨⟨impl_others.mono a0 a1⟩⟩
instance : ∀ l0 a1, Mono (fun k => impl_ruledOrder.f k l0 a1) := fun l0 a1 => ⟨⟨impl_ruledOrder.mono l0 a1⟩⟩
instance : ∀ a0, Mono (fun k => laws_FnExactLateRule.f k a0) := fun a0 => ⟨⟨laws_FnExactLateRule.mono a0⟩⟩
instance : ∀ a0 a1, Mono (fun k => laws_eqIntS.f k a0 a1) := fun a0 a1 => ⟨⟨laws_eqIntS.mono a0 a1⟩⟩
instance : ∀ a0 a1, Mono (fun k => laws_eqJobS.f k a0 a1) := fun a0 a1 => ⟨⟨laws_eqJobS.mono a0 a1⟩⟩
instance : ∀ a0 a1, Mono (fun k => laws_heldIntS.f k a0 a1) := fun a0 a1 => ⟨⟨laws_heldIntS.mono a0 a1⟩⟩
instance : ∀ a0 a1, Mono (fun k => laws_markIntS.f k a0 a1) := fun a0 a1 => ⟨⟨laws_markIntS.mono a0 a1⟩⟩
instance : ∀ a0 a1, Mono (fun k => laws_markJobS.f k a0 a1) := fun a0 a1 => ⟨⟨laws_markJobS.mono a0 a1⟩⟩
instance : ∀ a0, Mono (fun k => laws_toJobS.f k a0) := fun a0 => ⟨⟨laws_toJobS.mono a0⟩⟩
instance : ∀ a0, Mono (fun k => spec_IsPlain.f k a0) := fun a0 => ⟨⟨spec_IsPlain.mono a0⟩⟩
instance : ∀ a0, Mono (fun k => spec_LateRule.f k a0) := fun a0 => ⟨⟨spec_LateRule.mono a0⟩⟩
instance : ∀ a0 a1, Mono (fun k => spec_l1Has.f k a0 a1) := fun a0 a1 => ⟨⟨spec_l1Has.mono a0 a1⟩⟩
instance : ∀ a0, Mono (fun k => spec_l2Good.f k a0) := fun a0 => ⟨⟨spec_l2Good.mono a0⟩⟩
instance : ∀ a0 a1, Mono (fun k => spec_l3Longest.f k a0 a1) := fun a0 a1 => ⟨⟨spec_l3Longest.mono a0 a1⟩⟩
instance : ∀ a0, Mono (fun k => spec_l3Plain.f k a0) := fun a0 => ⟨⟨spec_l3Plain.mono a0⟩⟩
instance : ∀ a0, Mono (fun k => spec_l3Rule.f k a0) := fun a0 => ⟨⟨spec_l3Rule.mono a0⟩⟩
instance : ∀ a0 a1, Mono (fun k => spec_l3Total.f k a0 a1) := fun a0 a1 => ⟨⟨spec_l3Total.mono a0 a1⟩⟩
theorem lt_mid {α : Type} (pre : List α) (x : α) (r : List α) : ((pre.length : Int) < ((pre ++ x :: r).length : Int)) = True := by
  simp only [List.length_append, List.length_cons]
  exact eq_true (by omega)
theorem not_lt_end {α : Type} (pre : List α) : ((pre.length : Int) < ((pre ++ []).length : Int)) = False := by
  simp
theorem le_nat (n : Nat) : (0 ≤ (n : Int)) = True := eq_true (by omega)
theorem getD_mid {α : Type} (pre : List α) (x : α) (r : List α) (d : α) : (pre ++ x :: r).getD (pre.length : Int).toNat d = x := by
  simp [List.getD_eq_getElem?_getD]
theorem rd_mid (pre : List Int) (x : Int) (r : List Int) : rd (pre ++ x :: r) (pre.length : Int) = x := getD_mid pre x r 0
theorem wrap_mid {α : Type} (pre : List α) (x : α) (h : pre.length < 4611686018427387904) : wrap64 ((pre.length : Int) + 1) = ((pre ++ [x]).length : Int) := by
  rw [wrap_id (by omega) (by omega)]
  simp
theorem set_mid {α β : Type} (a : List α) (y v : α) (b : List α) (pre : List β) (h : pre.length = a.length) : (a ++ y :: b).set (pre.length : Int).toNat v = a ++ v :: b := by
  rw [Int.toNat_natCast, h, List.set_append_right _ _ (Nat.le_refl _)]
  simp
theorem rep_succ {α : Type} (x : α) (r : List α) {β : Type} (z : β) : List.replicate (x :: r).length z = z :: List.replicate r.length z := rfl
theorem app_cons {α : Type} (pre : List α) (x : α) (r : List α) : pre ++ x :: r = (pre ++ [x]) ++ r := by simp
theorem lt0 {a : Int} (h : 0 ≤ a) : (a < 0) = False := eq_false (by omega)
theorem eqIntS_l (r : List Int) : ∀ pre : List Int, (pre ++ r).length < 4611686018427387904 → L (fun k => laws_eqIntS.l0 k (pre ++ r) (pre ++ r) (pre.length : Int)) = some true := by
  induction r with
  | nil =>
    intro pre hb
    rw [L_shift]
    simp only [laws_eqIntS.l0, not_lt_end, if_false, L_const]
  | cons x r ih =>
    intro pre hb
    rw [L_shift]
    have hl : pre.length < 4611686018427387904 := by simp at hb; omega
    simp only [laws_eqIntS.l0, lt_mid, le_nat, if_true, rd_mid, wrap_mid pre x hl]
    rw [app_cons pre x r]
    exact ih (pre ++ [x]) (by simpa using hb)
theorem eqIntS_L (l : List Int) (h : l.length ≤ 1048576) : L (fun k => laws_eqIntS.f k l l) = some true := by
  simp only [laws_eqIntS.f, if_true]
  exact eqIntS_l l [] (by simp; omega)
def toJobP (x : S44) : S42 := ⟨x.f0, x.f1, x.f2, x.f3⟩
theorem toJobS_l (r : List S44) : ∀ pre : List S44, (pre ++ r).length < 4611686018427387904 → L (fun k => laws_toJobS.l0 k (pre ++ r) (pre.map toJobP ++ List.replicate r.length z42) (pre.length : Int)) = some ((pre ++ r).map toJobP) := by
  induction r with
  | nil =>
    intro pre hb
    rw [L_shift]
    simp only [laws_toJobS.l0, not_lt_end, if_false, L_const, List.length_nil, List.replicate_zero]
    simp
  | cons x r ih =>
    intro pre hb
    rw [L_shift]
    have hl : pre.length < 4611686018427387904 := by simp at hb; omega
    have e : rd_T44 (pre ++ x :: r) (pre.length : Int) = x := getD_mid pre x r _
    have e2 : ((pre.length : Int) < ((pre.map toJobP ++ z42 :: List.replicate r.length z42).length : Int)) = True := by
      simp only [List.length_append, List.length_cons, List.length_map]
      exact eq_true (by omega)
    simp only [laws_toJobS.l0, laws_toJob.f, lt_mid, le_nat, if_true, rep_succ, e, e2, wrap_mid pre x hl, Option.bind_some, set_mid (pre.map toJobP) _ _ _ pre (by simp)]
    have := ih (pre ++ [x]) (by simpa using hb)
    simpa [toJobP] using this
theorem toJobS_L (l : List S44) (h : l.length ≤ 1048576) : L (fun k => laws_toJobS.f k l) = some (l.map toJobP) := by
  simp only [laws_toJobS.f, le_nat, if_true, Int.toNat_natCast, if_pos (show l.length ≤ 8796093022208 by omega)]
  exact toJobS_l l [] (by simp; omega)
theorem eqJobS_l (r : List S42) : ∀ pre : List S42, (pre ++ r).length < 4611686018427387904 → L (fun k => laws_eqJobS.l0 k (pre ++ r) (pre ++ r) (pre.length : Int)) = some true := by
  induction r with
  | nil =>
    intro pre hb
    rw [L_shift]
    simp only [laws_eqJobS.l0, not_lt_end, if_false, L_const]
  | cons x r ih =>
    intro pre hb
    rw [L_shift]
    have hl : pre.length < 4611686018427387904 := by simp at hb; omega
    simp only [laws_eqJobS.l0, laws_eqJob.f, lt_mid, le_nat, if_true, wrap_mid pre x hl, Option.bind_some]
    rw [app_cons pre x r]
    exact ih (pre ++ [x]) (by simpa using hb)
theorem eqJobS_L (l : List S42) (h : l.length ≤ 1048576) : L (fun k => laws_eqJobS.f k l l) = some true := by
  simp only [laws_eqJobS.f, if_true]
  exact eqJobS_l l [] (by simp; omega)
theorem szJobS_e (l : List S44) (h : l.length ≤ 9223372036854775807) : laws_szJobS.f l 1048576 = if l.length ≤ 1048576 then some (1048576 - (l.length : Int)) else some (-1) := by
  unfold laws_szJobS.f
  have e : wrap64 (1048576 - (l.length : Int)) = 1048576 - (l.length : Int) := wrap_id (by omega) (by omega)
  rw [e]
  by_cases h2 : l.length ≤ 1048576
  · rw [if_neg (by omega), if_pos h2]
  · rw [if_pos (by omega), if_neg h2]
/-- The numbers from v on, as many as a list has. -/
def countI {α : Type} : Int → List α → List Int
  | _, [] => []
  | v, _ :: r => v :: countI (v + 1) r
theorem markIntS_l (r : List Int) : ∀ (pre : List Int) (v : Int), (pre ++ r).length < 4611686018427387904 → 0 ≤ v → v + r.length < 9223372036854775807 → L (fun k => laws_markIntS.l0 k (pre ++ r) v (pre.length : Int)) = some (v + r.length, pre ++ countI v r) := by
  induction r with
  | nil =>
    intro pre v hb h0 h1
    rw [L_shift]
    simp only [laws_markIntS.l0, not_lt_end, if_false, L_const]
    simp [countI]
  | cons x r ih =>
    intro pre v hb h0 h1
    rw [L_shift]
    have hl : pre.length < 4611686018427387904 := by simp at hb; omega
    simp only [List.length_cons] at h1
    simp only [laws_markIntS.l0, lt_mid, le_nat, if_true, wrap_mid pre v hl, set_mid pre x v r pre rfl, wrap_id (show -9223372036854775808 ≤ v + 1 by omega) (show v + 1 ≤ 9223372036854775807 by omega)]
    rw [app_cons pre v r, ih (pre ++ [v]) (v + 1) (by simpa using hb) (by omega) (by omega)]
    simp only [countI, List.length_cons, Option.some.injEq, Prod.mk.injEq]
    exact ⟨by omega, by simp⟩
theorem markIntS_L (l : List Int) (v : Int) (h : l.length ≤ 1048576) (h0 : 0 ≤ v) (h1 : v ≤ 9000000000000000000) : L (fun k => laws_markIntS.f k l v) = some (v + l.length, countI v l) := by
  have := markIntS_l l [] v (by simp; omega) h0 (by omega)
  simpa [laws_markIntS.f] using this
theorem heldIntS_l {α : Type} (r : List α) : ∀ (pre : List Int) (v : Int), (pre.length + r.length) < 4611686018427387904 → 0 ≤ v → v + r.length < 9223372036854775807 → L (fun k => laws_heldIntS.l0 k (pre ++ countI v r) v (pre.length : Int)) = some (v + r.length) := by
  induction r with
  | nil =>
    intro pre v hb h0 h1
    rw [L_shift]
    simp only [laws_heldIntS.l0, countI, not_lt_end, if_false, L_const]
    simp
  | cons x r ih =>
    intro pre v hb h0 h1
    rw [L_shift]
    simp only [List.length_cons] at h1 hb
    have hl : pre.length < 4611686018427387904 := by omega
    simp only [laws_heldIntS.l0, countI, lt_mid, le_nat, if_true, rd_mid, wrap_mid pre v hl, wrap_id (show -9223372036854775808 ≤ v + 1 by omega) (show v + 1 ≤ 9223372036854775807 by omega)]
    rw [app_cons pre v (countI _ r), ih (pre ++ [v]) (v + 1) (by simp; omega) (by omega) (by omega)]
    simp only [List.length_cons, Option.some.injEq]
    omega
theorem heldIntS_L {α : Type} (l : List α) (v : Int) (h : l.length ≤ 1048576) (h0 : 0 ≤ v) (h1 : v ≤ 9000000000000000000) : L (fun k => laws_heldIntS.f k (countI v l) v) = some (v + l.length) := by
  have := heldIntS_l l [] v (by simp; omega) h0 (by omega)
  simpa [laws_heldIntS.f] using this
def countJ : Int → List S42 → List S42
  | _, [] => []
  | v, _ :: r => ⟨v, v + 1, v + 1 + 1, v + 1 + 1 + 1⟩ :: countJ (v + 1 + 1 + 1 + 1) r
theorem markJobS_l (r : List S42) : ∀ (pre : List S42) (v : Int), (pre ++ r).length < 4611686018427387904 → 0 ≤ v → v + 4 * r.length < 9223372036854775807 → L (fun k => laws_markJobS.l0 k (pre ++ r) v (pre.length : Int)) = some (v + 4 * r.length, pre ++ countJ v r) := by
  induction r with
  | nil =>
    intro pre v hb h0 h1
    rw [L_shift]
    simp only [laws_markJobS.l0, not_lt_end, if_false, L_const]
    simp [countJ]
  | cons x r ih =>
    intro pre v hb h0 h1
    rw [L_shift]
    have hl : pre.length < 4611686018427387904 := by simp at hb; omega
    simp only [List.length_cons] at h1
    have e : ∀ y, rd_T42 (pre ++ y :: r) (pre.length : Int) = y := fun y => getD_mid pre y r _
    have es : ∀ y z, (pre ++ y :: r).set (pre.length : Int).toNat z = pre ++ z :: r := fun y z => set_mid pre y z r pre rfl
    simp only [laws_markJobS.l0, lt_mid, le_nat, if_true, Option.bind_some, e, es, wrap_mid pre x hl, wrap_id (show -9223372036854775808 ≤ v + 1 by omega) (show v + 1 ≤ 9223372036854775807 by omega), wrap_id (show -9223372036854775808 ≤ v + 1 + 1 by omega) (show v + 1 + 1 ≤ 9223372036854775807 by omega), wrap_id (show -9223372036854775808 ≤ v + 1 + 1 + 1 by omega) (show v + 1 + 1 + 1 ≤ 9223372036854775807 by omega), wrap_id (show -9223372036854775808 ≤ v + 1 + 1 + 1 + 1 by omega) (show v + 1 + 1 + 1 + 1 ≤ 9223372036854775807 by omega)]
    have := ih (pre ++ [⟨v, v + 1, v + 1 + 1, v + 1 + 1 + 1⟩]) (v + 1 + 1 + 1 + 1) (by simpa using hb) (by omega) (by omega)
    simp only [List.append_assoc, List.cons_append, List.nil_append, List.length_append, List.length_cons, List.length_nil] at this ⊢
    rw [this]
    simp only [countJ, Option.some.injEq, Prod.mk.injEq]
    exact ⟨by omega, by first | rfl | trivial⟩
theorem markJobS_L (l : List S42) (v : Int) (h : l.length ≤ 1048576) (h0 : 0 ≤ v) (h1 : v ≤ 9000000000000000000) : L (fun k => laws_markJobS.f k l v) = some (v + 4 * l.length, countJ v l) := by
  have := markJobS_l l [] v (by simp; omega) h0 (by omega)
  simpa [laws_markJobS.f] using this
theorem ite_and (b c : Bool) : (if b = true then some c else some false) = some (b && c) := by cases b <;> rfl
theorem bind_self {α : Type} (o : Option α) : (o.bind fun t => some t) = o := by cases o <;> rfl
def inB (a lo hi : Int) : Bool := decide (lo ≤ a) && decide (a ≤ hi)
theorem inB_iff {a lo hi : Int} : inB a lo hi = true ↔ lo ≤ a ∧ a ≤ hi := by simp [inB]
theorem within_e (a lo hi : Int) : impl_within.f a lo hi = some (inB a lo hi) := by
  unfold impl_within.f inB
  by_cases h : lo ≤ a <;> simp [h]
theorem l1In_e (a lo hi : Int) : spec_l1In.f a lo hi = some (inB a lo hi) := by
  unfold spec_l1In.f inB
  by_cases h : lo ≤ a <;> simp [h]
theorem l1Has_l (x : Int) (r : List Int) : ∀ pre : List Int, (pre ++ r).length < 4611686018427387904 → L (fun k => spec_l1Has.l0 k (pre ++ r) x (pre.length : Int)) = some (decide (x ∈ r)) := by
  induction r with
  | nil =>
    intro pre hb
    rw [L_shift]
    simp only [spec_l1Has.l0, not_lt_end, if_false, L_const]
    simp
  | cons y r ih =>
    intro pre hb
    rw [L_shift]
    have hl : pre.length < 4611686018427387904 := by simp at hb; omega
    simp only [spec_l1Has.l0, lt_mid, le_nat, if_true, rd_mid, wrap_mid pre y hl, L_ite, L_const]
    rw [app_cons pre y r, ih (pre ++ [y]) (by simpa using hb)]
    by_cases h : y = x
    · subst h
      simp
    · rw [if_neg h]
      have : ¬ x = y := fun e => h e.symm
      simp [this]
theorem l1Has_L (l : List Int) (x : Int) (h : l.length < 4611686018427387904) : L (fun k => spec_l1Has.f k l x) = some (decide (x ∈ l)) := l1Has_l x l [] (by simpa using h)
theorem has_l (x : Int) (r : List Int) : ∀ pre : List Int, (pre ++ r).length < 4611686018427387904 → L (fun k => impl_has.l0 k x (pre ++ r) ((pre ++ r).length : Int) (pre.length : Int)) = some (decide (x ∈ r)) := by
  induction r with
  | nil =>
    intro pre hb
    rw [L_shift]
    simp only [impl_has.l0, not_lt_end, if_false, L_const]
    simp
  | cons y r ih =>
    intro pre hb
    rw [L_shift]
    have hl : pre.length < 4611686018427387904 := by simp at hb; omega
    simp only [impl_has.l0, lt_mid, le_nat, if_true, rd_mid, wrap_mid pre y hl, L_ite, L_const]
    rw [app_cons pre y r, ih (pre ++ [y]) (by simpa using hb)]
    by_cases h : y = x
    · subst h
      simp
    · rw [if_neg h]
      have : ¬ x = y := fun e => h e.symm
      simp [this]
theorem has_L (l : List Int) (x : Int) (h : l.length < 4611686018427387904) : L (fun k => impl_has.f k l x) = some (decide (x ∈ l)) := has_l x l [] (by simpa using h)
theorem perm_of : ∀ (a b : List Int), a.Nodup → (∀ x ∈ a, x ∈ b) → b.length ≤ a.length → a.Perm b
  | [], b, _, _, hl => by
    have : b = [] := List.length_eq_zero_iff.1 (by simpa using hl)
    rw [this]
  | x :: a, b, hn, hs, hl => by
    have hx : x ∈ b := hs x List.mem_cons_self
    have hn' := List.nodup_cons.1 hn
    have hp := List.perm_cons_erase hx
    have h1 : (b.erase x).length ≤ a.length := by
      have := List.length_erase_of_mem hx
      simp at hl
      omega
    have h2 : ∀ y ∈ a, y ∈ b.erase x := fun y hy => (List.mem_erase_of_ne (by rintro rfl; exact hn'.1 hy)).2 (hs y (List.mem_cons_of_mem _ hy))
    exact ((perm_of a (b.erase x) hn'.2 h2 h1).cons x).trans hp.symm
def numsTo (n : Nat) : List Int := (List.range n).map (fun i : Nat => (i : Int))
theorem numsTo_length (n : Nat) : (numsTo n).length = n := by simp [numsTo]
theorem mem_numsTo {n : Nat} {x : Int} : x ∈ numsTo n ↔ 0 ≤ x ∧ x < n := by
  simp only [numsTo, List.mem_map, List.mem_range]
  constructor
  · rintro ⟨i, hi, rfl⟩
    omega
  · intro h
    exact ⟨x.toNat, by omega, by omega⟩
theorem numsTo_nodup (n : Nat) : (numsTo n).Nodup := by
  unfold numsTo
  exact List.Pairwise.map _ (fun a b h => by omega) List.nodup_range
theorem numsTo_succ (n : Nat) : numsTo (n + 1) = numsTo n ++ [(n : Int)] := by
  unfold numsTo
  rw [List.range_succ, List.map_append]
  rfl
/-- Different numbers of n things, none of them in pre. -/
def diffB (n : Int) : List Int → List Int → Bool
  | _, [] => true
  | pre, x :: r => inB x 0 (n - 1) && (!decide (x ∈ pre) && diffB n (pre ++ [x]) r)
/-- An order of n jobs. -/
def orderB (n : Nat) (l : List Int) : Bool := decide ((l.length : Int) = n) && diffB n [] l
def IsOrd (n : Nat) (l : List Int) : Prop := l.length = n ∧ (∀ x ∈ l, 0 ≤ x ∧ x < n) ∧ l.Nodup
theorem IsOrd.perm {n : Nat} {l : List Int} (h : IsOrd n l) : l.Perm (numsTo n) := perm_of l _ h.2.2 (fun x hx => mem_numsTo.2 (h.2.1 x hx)) (by rw [numsTo_length, h.1]; exact Nat.le_refl _)
theorem IsOrd.of_perm {n : Nat} {l : List Int} (h : l.Perm (numsTo n)) : IsOrd n l := ⟨by rw [h.length_eq, numsTo_length], fun x hx => mem_numsTo.1 (h.mem_iff.1 hx), h.nodup_iff.2 (numsTo_nodup n)⟩
theorem IsOrd.mem {n : Nat} {l : List Int} (h : IsOrd n l) {x : Int} : x ∈ l ↔ 0 ≤ x ∧ x < n := by rw [h.perm.mem_iff, mem_numsTo]
def jobB (j : S42) : Bool := inB j.f0 1 50 && (inB j.f1 0 50 && (inB j.f2 0 500 && inB j.f3 0 500))
def goodB (l : List S42) : Bool := l.all jobB && decide ((l.length : Int) ≤ 8)
structure JobOk (j : S42) : Prop where
  t0 : 1 ≤ j.f0
  t1 : j.f0 ≤ 50
  w0 : 0 ≤ j.f1
  w1 : j.f1 ≤ 50
  r0 : 0 ≤ j.f2
  r1 : j.f2 ≤ 500
  d0 : 0 ≤ j.f3
  d1 : j.f3 ≤ 500
def Good (l : List S42) : Prop := l.length ≤ 8 ∧ ∀ j ∈ l, JobOk j
theorem goodB_iff {l : List S42} : goodB l = true ↔ Good l := by
  simp only [goodB, Good, Bool.and_eq_true, List.all_eq_true, decide_eq_true_eq, jobB, inB_iff]
  constructor
  · rintro ⟨h, hl⟩
    exact ⟨by omega, fun j hj => by
      obtain ⟨⟨a, b⟩, ⟨c, d⟩, ⟨e, f⟩, g, i⟩ := h j hj
      exact ⟨a, b, c, d, e, f, g, i⟩⟩
  · rintro ⟨hl, h⟩
    exact ⟨fun j hj => ⟨⟨(h j hj).t0, (h j hj).t1⟩, ⟨(h j hj).w0, (h j hj).w1⟩, ⟨(h j hj).r0, (h j hj).r1⟩, (h j hj).d0, (h j hj).d1⟩, by omega⟩
theorem l2Job_e (j : S42) : spec_l2Job.f j.f0 j.f1 j.f2 j.f3 = some (jobB j) := by
  simp only [spec_l2Job.f, l1In_e, Option.bind_some, ite_and, jobB]
theorem l2Good_l (r : List S42) : ∀ pre : List S42, (pre ++ r).length < 4611686018427387904 → L (fun k => spec_l2Good.l0 k (pre ++ r) (pre.length : Int)) = some (r.all jobB && decide (((pre ++ r).length : Int) ≤ 8)) := by
  induction r with
  | nil =>
    intro pre hb
    rw [L_shift]
    simp only [spec_l2Good.l0, not_lt_end, if_false, L_const]
    simp
  | cons x r ih =>
    intro pre hb
    rw [L_shift]
    have hl : pre.length < 4611686018427387904 := by simp at hb; omega
    have e : rd_T42 (pre ++ x :: r) (pre.length : Int) = x := getD_mid pre x r _
    simp only [spec_l2Good.l0, lt_mid, le_nat, if_true, e, wrap_mid pre x hl, l2Job_e, Option.bind_some, L_ite, L_const]
    rw [app_cons pre x r, ih (pre ++ [x]) (by simpa using hb), ite_and]
    rw [List.all_cons, Bool.and_assoc]
theorem l2Good_L (l : List S42) (h : l.length < 4611686018427387904) : L (fun k => spec_l2Good.f k l) = some (goodB l) := by
  have := l2Good_l l [] (by simpa using h)
  simpa [goodB, spec_l2Good.f] using this
theorem isDate_e (n : Int) : impl_isDate.f n = some (inB n 0 500) := by
  simp only [impl_isDate.f, within_e, Option.bind_some]
theorem IsJobs_l (r : List S42) : ∀ pre : List S42, (pre ++ r).length < 4611686018427387904 → L (fun k => impl_IsJobs.l0 k (pre ++ r) ((pre ++ r).length : Int) (pre.length : Int)) = some (r.all jobB) := by
  induction r with
  | nil =>
    intro pre hb
    rw [L_shift]
    simp only [impl_IsJobs.l0, not_lt_end, if_false, L_const]
    simp
  | cons x r ih =>
    intro pre hb
    rw [L_shift]
    have hl : pre.length < 4611686018427387904 := by simp at hb; omega
    have e : rd_T42 (pre ++ x :: r) (pre.length : Int) = x := getD_mid pre x r _
    simp only [impl_IsJobs.l0, lt_mid, le_nat, if_true, e, wrap_mid pre x hl, within_e, isDate_e, Option.bind_some, L_ite, L_const]
    rw [app_cons pre x r, ih (pre ++ [x]) (by simpa using hb)]
    simp only [ite_and, List.all_cons, jobB, Bool.and_assoc]
theorem IsJobs_L (l : List S42) (h : l.length < 4611686018427387904) : L (fun k => impl_IsJobs.f k l) = some (goodB l) := by
  have := IsJobs_l l [] (by simpa using h)
  simp only [List.nil_append, List.length_nil, Int.natCast_zero] at this
  simp only [impl_IsJobs.f, L_ite, L_const, this, goodB]
  by_cases h8 : (l.length : Int) ≤ 8
  · rw [if_neg (by omega)]
    simp [h8]
  · rw [if_pos (by omega)]
    simp [h8]
def jobAt (l : List S42) (x : Int) : S42 := l.getD x.toNat z42
theorem jobAt_mem {l : List S42} {x : Int} (h0 : 0 ≤ x) (h1 : x < l.length) : jobAt l x ∈ l := by
  unfold jobAt
  rw [List.getD_eq_getElem?_getD, List.getElem?_eq_getElem (by omega)]
  exact List.getElem_mem _
/-- The ends, put into out by the jobs' numbers. -/
def endsF (l : List S42) : List Int → List Int → Int → List Int
  | [], out, _ => out
  | x :: r, out, now => endsF l r (out.set x.toNat (max now (jobAt l x).f2 + (jobAt l x).f0)) (max now (jobAt l x).f2 + (jobAt l x).f0)
def startsF (l : List S42) : List Int → List Int → Int → List Int
  | [], out, _ => out
  | x :: r, out, now => startsF l r (out.set x.toNat (max now (jobAt l x).f2)) (max now (jobAt l x).f2 + (jobAt l x).f0)
def endsP (l : List S42) (o : List Int) : List Int := endsF l o (List.replicate l.length 0) 0
def startsP (l : List S42) (o : List Int) : List Int := startsF l o (List.replicate l.length 0) 0
theorem mul_bd {w e : Int} (w0 : 0 ≤ w) (w1 : w ≤ 50) (e0 : 0 ≤ e) (e1 : e ≤ 2000) : 0 ≤ w * e ∧ w * e ≤ 100000 := by
  have h1 : w * e ≤ 50 * e := Int.mul_le_mul_of_nonneg_right w1 e0
  have h2 : 0 ≤ w * e := Int.mul_nonneg w0 e0
  omega
def plainB (l : List S42) : Bool := l.all (fun j => decide (j.f2 = 0))
theorem isPlain_l (r : List S42) : ∀ pre : List S42, (pre ++ r).length < 4611686018427387904 → L (fun k => impl_isPlain.l0 k (pre ++ r) ((pre ++ r).length : Int) (pre.length : Int)) = some (plainB r) := by
  induction r with
  | nil =>
    intro pre hb
    rw [L_shift]
    simp only [impl_isPlain.l0, not_lt_end, if_false, L_const]
    rfl
  | cons x r ih =>
    intro pre hb
    rw [L_shift]
    have hl : pre.length < 4611686018427387904 := by simp at hb; omega
    have e : rd_T42 (pre ++ x :: r) (pre.length : Int) = x := getD_mid pre x r _
    simp only [impl_isPlain.l0, lt_mid, le_nat, if_true, e, wrap_mid pre x hl, L_ite, L_const]
    rw [app_cons pre x r, ih (pre ++ [x]) (by simpa using hb)]
    by_cases h : x.f2 = 0 <;> simp [h, plainB]
theorem isPlain_L (l : List S42) (h : l.length < 4611686018427387904) : L (fun k => impl_isPlain.f k l) = some (plainB l) := by
  have := isPlain_l l [] (by simpa using h)
  simpa [impl_isPlain.f] using this
theorem IsPlain_L (l : List S42) (h : l.length < 4611686018427387904) : L (fun k => impl_IsPlain.f k l) = some (goodB l && plainB l) := by
  simp only [impl_IsPlain.f, bind_self, L_bind, IsJobs_L l h, Option.bind_some, L_ite, isPlain_L l h, L_const, ite_and]
theorem l3Plain_l (r : List S42) : ∀ pre : List S42, (pre ++ r).length < 4611686018427387904 → L (fun k => spec_l3Plain.l0 k (pre ++ r) (pre.length : Int)) = some (plainB r) := by
  induction r with
  | nil =>
    intro pre hb
    rw [L_shift]
    simp only [spec_l3Plain.l0, not_lt_end, if_false, L_const]
    rfl
  | cons x r ih =>
    intro pre hb
    rw [L_shift]
    have hl : pre.length < 4611686018427387904 := by simp at hb; omega
    have e : rd_T42 (pre ++ x :: r) (pre.length : Int) = x := getD_mid pre x r _
    simp only [spec_l3Plain.l0, lt_mid, le_nat, if_true, e, wrap_mid pre x hl, L_ite, L_const]
    rw [app_cons pre x r, ih (pre ++ [x]) (by simpa using hb)]
    by_cases h : x.f2 = 0 <;> simp [h, plainB]
theorem l3Plain_L (l : List S42) (h : l.length < 4611686018427387904) : L (fun k => spec_l3Plain.f k l) = some (plainB l) := by
  have := l3Plain_l l [] (by simpa using h)
  simpa [spec_l3Plain.f] using this
theorem specIsPlain_L (l : List S42) (h : l.length < 4611686018427387904) : L (fun k => spec_IsPlain.f k l) = some (goodB l && plainB l) := by
  simp only [spec_IsPlain.f, bind_self, L_bind, l2Good_L l h, Option.bind_some, L_ite, l3Plain_L l h, L_const, ite_and]
/-- The rule difference of two jobs. -/
def gapJ (obj : Int) (a b : S42) : Int := if obj = 1 then a.f2 - b.f2 else if obj = 2 then a.f0 - b.f0 else if obj = 3 then a.f0 * b.f1 - b.f0 * a.f1 else a.f3 - b.f3
theorem gap_mul {a b : S42} (ha : JobOk a) (hb : JobOk b) : 0 ≤ a.f0 * b.f1 ∧ a.f0 * b.f1 ≤ 100000 := by
  have h := mul_bd hb.w0 hb.w1 (e := a.f0) (by have := ha.t0; omega) (by have := ha.t1; omega)
  rw [Int.mul_comm] at h
  exact h
/-- The rule difference by the jobs' numbers. -/
def gapI (l : List S42) (obj x y : Int) : Int := gapJ obj (jobAt l x) (jobAt l y)
theorem difference_e (a b : S42) (obj : Int) (ha : JobOk a) (hb : JobOk b) : impl_difference.f a.f0 a.f1 a.f2 a.f3 b.f0 b.f1 b.f2 b.f3 obj = some (gapJ obj a b) := by
  have m1 := gap_mul ha hb
  have m2 := gap_mul hb ha
  have a1 := ha.t0
  have a2 := ha.t1
  have a3 := ha.r0
  have a4 := ha.r1
  have a5 := ha.d0
  have a6 := ha.d1
  have b1 := hb.t0
  have b2 := hb.t1
  have b3 := hb.r0
  have b4 := hb.r1
  have b5 := hb.d0
  have b6 := hb.d1
  unfold impl_difference.f gapJ
  rw [wrap_id (show -9223372036854775808 ≤ a.f2 - b.f2 by omega) (by omega), wrap_id (show -9223372036854775808 ≤ a.f0 - b.f0 by omega) (by omega), wrap_id (show -9223372036854775808 ≤ a.f0 * b.f1 by omega) (by omega), wrap_id (show -9223372036854775808 ≤ b.f0 * a.f1 by omega) (by omega), wrap_id (show -9223372036854775808 ≤ a.f0 * b.f1 - b.f0 * a.f1 by omega) (by omega), wrap_id (show -9223372036854775808 ≤ a.f3 - b.f3 by omega) (by omega)]
  repeat' split
  all_goals rfl
theorem l3Gap_e (l : List S42) (obj x y : Int) (hg : Good l) (hx : 0 ≤ x ∧ x < (l.length : Int)) (hy : 0 ≤ y ∧ y < (l.length : Int)) : spec_l3Gap.f l obj x y = some (gapI l obj x y) := by
  have ha := hg.2 _ (jobAt_mem hx.1 hx.2)
  have hb := hg.2 _ (jobAt_mem hy.1 hy.2)
  have e1 : rd_T42 l x = jobAt l x := rfl
  have e2 : rd_T42 l y = jobAt l y := rfl
  unfold spec_l3Gap.f gapI gapJ
  rw [if_pos hx.1, if_pos hx.2, if_pos hy.1, if_pos hy.2, e1, e2]
  generalize jobAt l x = a at ha
  generalize jobAt l y = b at hb
  have m1 := gap_mul ha hb
  have m2 := gap_mul hb ha
  have a1 := ha.t0
  have a2 := ha.t1
  have a3 := ha.r0
  have a4 := ha.r1
  have a5 := ha.d0
  have a6 := ha.d1
  have b1 := hb.t0
  have b2 := hb.t1
  have b3 := hb.r0
  have b4 := hb.r1
  have b5 := hb.d0
  have b6 := hb.d1
  rw [wrap_id (show -9223372036854775808 ≤ a.f2 - b.f2 by omega) (by omega), wrap_id (show -9223372036854775808 ≤ a.f0 - b.f0 by omega) (by omega), wrap_id (show -9223372036854775808 ≤ a.f0 * b.f1 by omega) (by omega), wrap_id (show -9223372036854775808 ≤ b.f0 * a.f1 by omega) (by omega), wrap_id (show -9223372036854775808 ≤ a.f0 * b.f1 - b.f0 * a.f1 by omega) (by omega), wrap_id (show -9223372036854775808 ≤ a.f3 - b.f3 by omega) (by omega)]
  repeat' split
  all_goals rfl
theorem l1Own_e (l : List Int) (h : l.length ≤ 1048576) : spec_l1Own.f l = some l := by
  simp only [spec_l1Own.f, Option.bind_some, List.length_nil, List.nil_append]
  rw [if_pos (by omega)]
/-- The numbers v, v + 1, .., d of them. -/
def upI : Nat → Int → List Int
  | 0, _ => []
  | d + 1, v => v :: upI d (v + 1)
theorem mem_upI : ∀ (d : Nat) (v x : Int), x ∈ upI d v ↔ v ≤ x ∧ x < v + d
  | 0, v, x => by
    simp only [upI, List.not_mem_nil, false_iff]
    omega
  | d + 1, v, x => by
    rw [upI, List.mem_cons, mem_upI d (v + 1) x]
    omega
theorem upI_length : ∀ (d : Nat) (v : Int), (upI d v).length = d
  | 0, v => rfl
  | d + 1, v => by rw [upI, List.length_cons, upI_length d]
/-- The numbers below n that are not in a list. -/
def leftL (n : Nat) (out : List Int) : List Int := (upI n 0).filter (fun x => !decide (x ∈ out))
theorem leftL_len (n : Nat) (out : List Int) : (leftL n out).length ≤ n := by
  have := List.length_filter_le (fun x => !decide (x ∈ out)) (upI n 0)
  rw [upI_length] at this
  exact this
theorem others_l (n : Nat) (out : List Int) (hn : n ≤ 1048576) (ho : out.length < 4611686018427387904) : ∀ (d : Nat) (i : Int) (acc : List Int), 0 ≤ i → i + d = n → acc.length + d ≤ 2000000 →
    L (fun k => impl_others.l0 k (n : Int) out acc i) = some (acc ++ (upI d i).filter (fun x => !decide (x ∈ out)))
  | 0, i, acc, h0, hi, ha => by
    rw [L_shift]
    simp only [impl_others.l0, if_neg (show ¬ (i < (n : Int)) by omega), L_const, upI, List.filter_nil, List.append_nil]
  | d + 1, i, acc, h0, hi, ha => by
    rw [L_shift]
    simp only [impl_others.l0, if_pos (show (i < (n : Int)) by omega), L_bind, has_L out i ho, Option.bind_some, L_ite, L_const, wrap_id (show -9223372036854775808 ≤ i + 1 by omega) (show i + 1 ≤ 9223372036854775807 by omega), if_pos (show acc.length < 17592186044416 by omega), upI]
    by_cases h : i ∈ out
    · rw [if_pos (decide_eq_true h), others_l n out hn ho d (i + 1) acc (by omega) (by omega) (by omega), List.filter_cons, if_neg (by simp [h])]
    · rw [if_neg (by simp [h]), others_l n out hn ho d (i + 1) (acc ++ [i]) (by omega) (by omega) (by simp; omega), List.filter_cons, if_pos (by simp [h]), List.append_assoc]
      rfl
theorem others_L (n : Nat) (out : List Int) (hn : n ≤ 1048576) (ho : out.length < 4611686018427387904) : L (fun k => impl_others.f k (n : Int) out) = some (leftL n out) := by
  have := others_l n out hn ho n 0 [] (by omega) (by omega) (by simp; omega)
  simpa [impl_others.f, leftL] using this
theorem perm_sorted_eq (R : Int → Int → Prop) (h : ∀ a b, R a b → R b a → a = b) : ∀ s t : List Int, s.Perm t → s.Pairwise R → t.Pairwise R → s = t
  | [], t, hp, _, _ => (List.Perm.nil_eq hp)
  | a :: s, t, hp, hs, ht => by
    cases t with
    | nil => exact absurd hp.length_eq (by simp)
    | cons b t =>
      have hs' := List.pairwise_cons.1 hs
      have ht' := List.pairwise_cons.1 ht
      have e : a = b := by
        have ha : a ∈ b :: t := hp.subset List.mem_cons_self
        have hb : b ∈ a :: s := hp.symm.subset List.mem_cons_self
        rcases List.mem_cons.1 ha with e | ha
        · exact e
        · rcases List.mem_cons.1 hb with e | hb
          · exact e.symm
          · exact h a b (hs'.1 b hb) (ht'.1 a ha)
      subst e
      rw [perm_sorted_eq R h s t (List.Perm.cons_inv hp) hs'.2 ht'.2]
theorem insK_spec (p : Int → Int → Option Bool) (q : Int → Int → Bool) (x : Int) (out : List Int) (hp : ∀ y ∈ out, p x y = some (q x y)) : ∀ n, n ≤ out.length → ∃ k, k ≤ n ∧ impl_sortedBy.insK p x out n = some k ∧ (∀ j, k ≤ j → j < n → q x (out.getD j 0) = true) ∧ (0 < k → q x (out.getD (k - 1) 0) = false)
  | 0, _ => ⟨0, Nat.le_refl _, rfl, fun j h1 h2 => absurd h2 (by omega), fun h => absurd h (by omega)⟩
  | n + 1, hn => by
    have e : rd out (n : Int) = out.getD n 0 := by simp [rd]
    have hm : out.getD n 0 ∈ out := by
      rw [List.getD_eq_getElem?_getD, List.getElem?_eq_getElem (by omega)]
      exact List.getElem_mem _
    simp only [impl_sortedBy.insK, e, hp _ hm, Option.bind_some]
    by_cases hq : q x (out.getD n 0) = true
    · rw [if_pos hq]
      obtain ⟨k, h1, h2, h3, h4⟩ := insK_spec p q x out hp n (by omega)
      refine ⟨k, by omega, h2, fun j h5 h6 => ?_, h4⟩
      by_cases hj : j = n
      · subst hj; exact hq
      · exact h3 j h5 (by omega)
    · rw [if_neg hq]
      refine ⟨n + 1, Nat.le_refl _, rfl, fun j h1 h2 => absurd h2 (by omega), fun _ => ?_⟩
      simpa using hq
theorem insL_perm (out : List Int) (k : Nat) (x : Int) : (impl_sortedBy.insL out k x).Perm (x :: out) := by
  unfold impl_sortedBy.insL
  have h : (out.take k ++ x :: out.drop k).Perm (x :: (out.take k ++ out.drop k)) := List.perm_middle
  rwa [List.take_append_drop] at h
/-- Stable insertion keeps a row in order (no later one is ahead of an earlier one). -/
theorem insL_sorted (q : Int → Int → Bool) (tr : ∀ a b c, q b a = false → q c b = false → q c a = false) (asy : ∀ a b, q a b = true → q b a = false) (x : Int) (out : List Int) (k : Nat) (hk : k ≤ out.length) (hs : out.Pairwise (fun a b => q b a = false))
    (h1 : ∀ j, k ≤ j → j < out.length → q x (out.getD j 0) = true) (h2 : 0 < k → q x (out.getD (k - 1) 0) = false) : (impl_sortedBy.insL out k x).Pairwise (fun a b => q b a = false) := by
  unfold impl_sortedBy.insL
  have hs2 := hs
  rw [← List.take_append_drop k out] at hs2
  obtain ⟨ha, hb, hab⟩ := List.pairwise_append.1 hs2
  have hL : ∀ a ∈ out.take k, q x a = false := by
    intro a hm
    obtain ⟨i, hi, rfl⟩ := List.getElem_of_mem hm
    have hi' : i < k := by rw [List.length_take] at hi; omega
    have hz := h2 (by omega)
    rw [List.getElem_take]
    by_cases he : i = k - 1
    · subst he
      rw [List.getD_eq_getElem?_getD, List.getElem?_eq_getElem (by omega)] at hz
      simpa using hz
    · have hr := (List.pairwise_iff_getElem.1 hs) i (k - 1) (by omega) (by omega) (by omega)
      rw [List.getD_eq_getElem?_getD, List.getElem?_eq_getElem (show k - 1 < out.length by omega)] at hz
      exact tr _ _ _ hr (by simpa using hz)
  have hR : ∀ b ∈ out.drop k, q b x = false := by
    intro b hm
    obtain ⟨i, hi, rfl⟩ := List.getElem_of_mem hm
    have hi' : k + i < out.length := by rw [List.length_drop] at hi; omega
    rw [List.getElem_drop]
    have hz := h1 (k + i) (by omega) hi'
    rw [List.getD_eq_getElem?_getD, List.getElem?_eq_getElem hi'] at hz
    exact asy _ _ (by simpa using hz)
  refine List.pairwise_append.2 ⟨ha, List.pairwise_cons.2 ⟨hR, hb⟩, ?_⟩
  intro a hm b hmb
  rcases List.mem_cons.1 hmb with rfl | hmb
  · exact hL a hm
  · exact hab a hm b hmb
/-- The same over a rising row: the order asked of a later and an earlier number alone. -/
theorem sortO_asc (p : Int → Int → Option Bool) (q : Int → Int → Bool) (P : Int → Prop) (hp : ∀ a b, P a → P b → b < a → p a b = some (q a b)) (tr : ∀ a b c, q b a = false → q c b = false → q c a = false) (asy : ∀ a b, q a b = true → q b a = false) : ∀ (l out : List Int), l.Pairwise (· < ·) → (∀ x ∈ l, ∀ y ∈ out, y < x) → (∀ x ∈ l, P x) → (∀ x ∈ out, P x) → out.Pairwise (fun a b => q b a = false) →
    ∃ s, impl_sortedBy.sortO p l out = some s ∧ s.Perm (out ++ l) ∧ s.Pairwise (fun a b => q b a = false)
  | [], out, _, _, _, _, hs => ⟨out, rfl, by rw [List.append_nil], hs⟩
  | x :: l, out, ha, hlt, hl, ho, hs => by
    have ha' := List.pairwise_cons.1 ha
    obtain ⟨k, h1, h2, h3, h4⟩ := insK_spec p q x out (fun y hy => hp x y (hl x List.mem_cons_self) (ho y hy) (hlt x List.mem_cons_self y hy)) out.length (Nat.le_refl _)
    have hpm := insL_perm out k x
    obtain ⟨s, e1, e2, e3⟩ := sortO_asc p q P hp tr asy l (impl_sortedBy.insL out k x) ha'.2 (fun z hz y hy => by
      rcases List.mem_cons.1 (hpm.subset hy) with rfl | hy
      · exact ha'.1 z hz
      · exact hlt z (List.mem_cons_of_mem _ hz) y hy) (fun y hy => hl y (List.mem_cons_of_mem _ hy)) (fun y hy => by
      rcases List.mem_cons.1 (hpm.subset hy) with rfl | hy
      · exact hl _ List.mem_cons_self
      · exact ho y hy) (insL_sorted q tr asy x out k h1 hs h3 h4)
    refine ⟨s, ?_, ?_, e3⟩
    · simp only [impl_sortedBy.sortO, h2, Option.bind_some]
      exact e1
    · refine e2.trans ((hpm.append_right l).trans ?_)
      exact (List.perm_middle (l₁ := out) (a := x) (l₂ := l)).symm
/-- Sooner: by date, then by number. -/
def dueQ (l : List S42) (a b : Int) : Bool := decide ((jobAt l a).f3 < (jobAt l b).f3) || (decide ((jobAt l a).f3 = (jobAt l b).f3) && decide (a < b))
theorem dueQ_iff (l : List S42) (a b : Int) : dueQ l a b = true ↔ (jobAt l a).f3 < (jobAt l b).f3 ∨ ((jobAt l a).f3 = (jobAt l b).f3 ∧ a < b) := by
  simp [dueQ]
theorem dueQ_false (l : List S42) (a b : Int) : dueQ l a b = false ↔ ¬ ((jobAt l a).f3 < (jobAt l b).f3 ∨ ((jobAt l a).f3 = (jobAt l b).f3 ∧ a < b)) := by
  rw [← dueQ_iff]
  simp
theorem dueQ_tr (l : List S42) (a b c : Int) (h1 : dueQ l b a = false) (h2 : dueQ l c b = false) : dueQ l c a = false := by
  rw [dueQ_false] at *
  omega
theorem dueQ_asy (l : List S42) (a b : Int) (h : dueQ l a b = true) : dueQ l b a = false := by
  rw [dueQ_false]
  rw [dueQ_iff] at h
  omega
theorem dueQ_anti (l : List S42) (a b : Int) (h1 : dueQ l b a = false) (h2 : dueQ l a b = false) : a = b := by
  rw [dueQ_false] at *
  omega
theorem posR_spec (l : List S42) (hg : Good l) (x : Int) (hx : 0 ≤ x ∧ x < (l.length : Int)) : ∀ (out : List Int), (∀ y ∈ out, 0 ≤ y ∧ y < (l.length : Int)) → ∃ k, spec_l3Order.posR l 4 x out = some k ∧ k ≤ out.length ∧ (∀ j, j < k → (jobAt l (out.getD j 0)).f3 ≤ (jobAt l x).f3) ∧ (k < out.length → (jobAt l x).f3 < (jobAt l (out.getD k 0)).f3)
  | [], _ => ⟨0, rfl, Nat.le_refl _, fun j hj => absurd hj (by omega), fun h => absurd h (by simp)⟩
  | y :: r, ho => by
    have hy := ho y List.mem_cons_self
    obtain ⟨k, h1, h2, h3, h4⟩ := posR_spec l hg x hx r (fun z hz => ho z (List.mem_cons_of_mem _ hz))
    have e : gapI l 4 y x = (jobAt l y).f3 - (jobAt l x).f3 := by
      unfold gapI gapJ
      simp
    simp only [spec_l3Order.posR, l3Gap_e l 4 y x hg hy hx, Option.bind_some, e]
    by_cases hc : (jobAt l y).f3 - (jobAt l x).f3 ≤ 0
    · rw [if_pos hc, h1]
      refine ⟨k + 1, rfl, by simp; omega, fun j hj => ?_, fun h => ?_⟩
      · cases j with
        | zero => simp; omega
        | succ j => simpa using h3 j (by omega)
      · simpa using h4 (by simpa using h)
    · rw [if_neg hc]
      refine ⟨0, rfl, Nat.zero_le _, fun j hj => absurd hj (by omega), fun _ => ?_⟩
      simp; omega
theorem l3go_spec (l : List S42) (hg : Good l) : ∀ (d i : Nat) (out : List Int), i + d = l.length → out.Perm (numsTo i) → out.Pairwise (fun a b => dueQ l b a = false) → ∃ s, spec_l3Order.go l 4 d i out = some s ∧ s.Perm (numsTo l.length) ∧ s.Pairwise (fun a b => dueQ l b a = false)
  | 0, i, out, hd, hp, hs => ⟨out, rfl, by rw [← hd, Nat.add_zero]; exact hp, hs⟩
  | d + 1, i, out, hd, hp, hs => by
    have hin : ∀ y ∈ out, 0 ≤ y ∧ y < (i : Int) := fun y hy => mem_numsTo.1 (hp.subset hy)
    obtain ⟨k, h1, h2, h3, h4⟩ := posR_spec l hg (i : Int) (by omega) out (fun y hy => by have := hin y hy; omega)
    have hget : ∀ j, j < out.length → out.getD j 0 ∈ out := fun j hj => by
      rw [List.getD_eq_getElem?_getD, List.getElem?_eq_getElem hj]
      exact List.getElem_mem _
    have hsr := insL_sorted (dueQ l) (dueQ_tr l) (dueQ_asy l) (i : Int) out k h2 hs (fun j hk hj => by
      rw [dueQ_iff]
      have hkl : k < out.length := by omega
      have h5 := h4 hkl
      by_cases e : j = k
      · subst e; omega
      · have h6 := (List.pairwise_iff_getElem.1 hs) k j hkl hj (by omega)
        rw [dueQ_false] at h6
        have g1 : out.getD k 0 = out[k] := by rw [List.getD_eq_getElem?_getD, List.getElem?_eq_getElem hkl]; rfl
        have g2 : out.getD j 0 = out[j] := by rw [List.getD_eq_getElem?_getD, List.getElem?_eq_getElem hj]; rfl
        rw [g1] at h5
        rw [g2]
        omega) (fun hk => by
      rw [dueQ_false]
      have h5 := h3 (k - 1) (by omega)
      have h6 := hin _ (hget (k - 1) (by omega))
      omega)
    have hpm := insL_perm out k (i : Int)
    obtain ⟨s, e1, e2, e3⟩ := l3go_spec l hg d (i + 1) (impl_sortedBy.insL out k (i : Int)) (by omega) (by
      rw [numsTo_succ]
      exact (hpm.trans (hp.cons _)).trans (List.perm_append_singleton _ _).symm) hsr
    refine ⟨s, ?_, e2, e3⟩
    simp only [spec_l3Order.go, h1, Option.bind_some]
    exact e1
theorem numsTo_asc (n : Nat) : (numsTo n).Pairwise (· < ·) := by
  rw [numsTo, List.pairwise_map]
  exact List.pairwise_lt_range.imp (fun h => by omega)
theorem ruled_l (n : Nat) (hn : n ≤ 1000) : ∀ (d : Nat) (i : Nat), i + d = n → L (fun k => impl_numbersTo.l0 k (n : Int) (numsTo i) (i : Int)) = some (numsTo n)
  | 0, i, hd => by
    rw [L_shift]
    have : i = n := by omega
    subst this
    simp only [impl_numbersTo.l0, Int.lt_irrefl, if_false, L_const]
  | d + 1, i, hd => by
    rw [L_shift]
    have ih := ruled_l n hn d (i + 1) (by omega)
    rw [numsTo_succ] at ih
    simp only [impl_numbersTo.l0, if_pos (show (i : Int) < (n : Int) by omega), if_pos (show (numsTo i).length < 17592186044416 by rw [numsTo_length]; omega), wrap_id (show -9223372036854775808 ≤ (i : Int) + 1 by omega) (show (i : Int) + 1 ≤ 9223372036854775807 by omega)]
    exact ih
theorem dueOrder_both (l : List S42) (hg : Good l) : ∃ o, IsOrd l.length o ∧ spec_l3Order.f l 4 = some o ∧ L (fun k => impl_ruledOrder.f k l 4) = some o := by
  have h8 := hg.1
  obtain ⟨s, s1, s2, s3⟩ := l3go_spec l hg l.length 0 [] (by omega) (by simp [numsTo]) List.Pairwise.nil
  obtain ⟨t, t1, t2, t3⟩ := sortO_asc (impl_ruledOrder_1.p l 4) (dueQ l) (fun x => 0 ≤ x ∧ x < (l.length : Int)) (fun a b ha hb hba => by
    have hja := hg.2 _ (jobAt_mem ha.1 ha.2)
    have hjb := hg.2 _ (jobAt_mem hb.1 hb.2)
    have e1 : rd_T42 l a = jobAt l a := rfl
    have e2 : rd_T42 l b = jobAt l b := rfl
    unfold impl_ruledOrder_1.p impl_ruledOrder_1.d
    rw [if_pos ⟨ha.1, ha.2, hb.1, hb.2⟩, e1, e2, difference_e _ _ 4 hja hjb]
    simp only [Option.map_some, Option.some.injEq]
    rw [Bool.eq_iff_iff, dueQ_iff]
    have e : gapJ 4 (jobAt l a) (jobAt l b) = (jobAt l a).f3 - (jobAt l b).f3 := by
      unfold gapJ
      simp
    rw [e]
    simp only [decide_eq_true_eq]
    omega) (dueQ_tr l) (dueQ_asy l) (numsTo l.length) [] (numsTo_asc _) (by simp) (fun x hx => mem_numsTo.1 hx) (by simp) List.Pairwise.nil
  have hst : s = t := perm_sorted_eq (fun a b => dueQ l b a = false) (fun a b h1 h2 => dueQ_anti l a b h1 h2) s t (s2.trans (by simpa using t2.symm)) s3 t3
  subst hst
  refine ⟨s, IsOrd.of_perm s2, ?_, ?_⟩
  · unfold spec_l3Order.f
    rw [if_pos (by omega)]
    exact s1
  · have hn := ruled_l l.length (by omega) l.length 0 (by omega)
    have hn2 : L (fun k => impl_numbersTo.f k (l.length : Int)) = some (numsTo l.length) := by
      simp only [impl_numbersTo.f]
      exact hn
    simp only [impl_ruledOrder.f, L_bind, hn2, Option.bind_some, numsTo_length, if_pos (show l.length ≤ 1000000 by omega), L_const, t1]

def timeT (l : List S42) : List Int → Int
  | [] => 0
  | x :: r => (jobAt l x).f0 + timeT l r
theorem timeT_app (l : List S42) : ∀ (a b : List Int), timeT l (a ++ b) = timeT l a + timeT l b
  | [], b => by simp [timeT]
  | x :: a, b => by
    have := timeT_app l a b
    simp only [List.cons_append, timeT, this]
    omega
theorem timeT_bd (l : List S42) (hg : Good l) : ∀ (a : List Int), (∀ x ∈ a, 0 ≤ x ∧ x < (l.length : Int)) → 0 ≤ timeT l a ∧ timeT l a ≤ 50 * (a.length : Int)
  | [], _ => by simp [timeT]
  | x :: a, h => by
    have h1 := timeT_bd l hg a (fun y hy => h y (List.mem_cons_of_mem _ hy))
    have h2 := h x List.mem_cons_self
    have hj := hg.2 _ (jobAt_mem h2.1 h2.2)
    have := hj.t0
    have := hj.t1
    simp only [timeT, List.length_cons]
    omega
theorem total_l (l : List S42) (hg : Good l) : ∀ (r pre : List Int) (v : Int), (∀ x ∈ r, 0 ≤ x ∧ x < (l.length : Int)) → (pre ++ r).length ≤ 1000 → 0 ≤ v → v + 50 * (r.length : Int) ≤ 1000000 → L (fun k => spec_l3Total.l0 k l (pre ++ r) v (pre.length : Int)) = some (v + timeT l r)
  | [], pre, v, hr, hl, h0, h1 => by
    rw [L_shift]
    simp only [spec_l3Total.l0, not_lt_end, if_false, L_const, timeT, Int.add_zero]
  | x :: r, pre, v, hr, hl, h0, h1 => by
    rw [L_shift]
    have hx := hr x List.mem_cons_self
    have hj := hg.2 _ (jobAt_mem hx.1 hx.2)
    have t0 := hj.t0
    have t1 := hj.t1
    have e : rd (pre ++ x :: r) (pre.length : Int) = x := getD_mid pre x r _
    have ej : (rd_T42 l x).f0 = (jobAt l x).f0 := rfl
    have hp : pre.length < 4611686018427387904 := by simp at hl; omega
    simp only [List.length_cons] at h1
    have ih := total_l l hg r (pre ++ [x]) (v + (jobAt l x).f0) (fun y hy => hr y (List.mem_cons_of_mem _ hy)) (by simpa using hl) (by omega) (by omega)
    simp only [spec_l3Total.l0, lt_mid, le_nat, if_true, e, if_pos hx.1, if_pos hx.2, ej, wrap_id (show -9223372036854775808 ≤ v + (jobAt l x).f0 by omega) (show v + (jobAt l x).f0 ≤ 9223372036854775807 by omega), wrap_mid pre x hp]
    rw [app_cons pre x r, ih]
    simp only [timeT, Option.some.injEq]
    omega
theorem total_L (l : List S42) (hg : Good l) (Y : List Int) (hY : ∀ x ∈ Y, 0 ≤ x ∧ x < (l.length : Int)) (hl : Y.length ≤ 1000) : L (fun k => spec_l3Total.f k l Y) = some (timeT l Y) := by
  have := total_l l hg Y [] 0 hY (by simpa using hl) (by omega) (by omega)
  simpa [spec_l3Total.f] using this
/-- The place of the longest from place i on, b being the longest so far. -/
def bestI (l : List S42) (Y : List Int) : Nat → Nat → Nat → Nat
  | 0, _, b => b
  | d + 1, i, b => if (jobAt l (Y.getD i 0)).f0 > (jobAt l (Y.getD b 0)).f0 then bestI l Y d (i + 1) i else bestI l Y d (i + 1) b
theorem bestI_lt (l : List S42) (Y : List Int) : ∀ (d i b : Nat), i + d = Y.length → b < Y.length → bestI l Y d i b < Y.length
  | 0, i, b, _, hb => hb
  | d + 1, i, b, hd, hb => by
    rw [bestI]
    split
    · exact bestI_lt l Y d (i + 1) i (by omega) (by omega)
    · exact bestI_lt l Y d (i + 1) b (by omega) hb
theorem getY {l : List S42} {Y : List Int} (hY : ∀ x ∈ Y, 0 ≤ x ∧ x < (l.length : Int)) {i : Nat} (hi : i < Y.length) : rd Y (i : Int) = Y.getD i 0 ∧ 0 ≤ Y.getD i 0 ∧ Y.getD i 0 < (l.length : Int) := by
  have h1 : rd Y (i : Int) = Y.getD i 0 := by simp [rd]
  have h2 : Y.getD i 0 ∈ Y := by
    rw [List.getD_eq_getElem?_getD, List.getElem?_eq_getElem hi]
    exact List.getElem_mem _
  exact ⟨h1, hY _ h2⟩
theorem longest_l (l : List S42) (Y : List Int) (hY : ∀ x ∈ Y, 0 ≤ x ∧ x < (l.length : Int)) (hl : Y.length ≤ 1000) : ∀ (d i b : Nat), i + d = Y.length → b < Y.length → L (fun k => spec_l3Longest.l0 k l Y (b : Int) (i : Int)) = some ((bestI l Y d i b : Nat) : Int)
  | 0, i, b, hd, hb => by
    rw [L_shift]
    simp only [spec_l3Longest.l0, if_neg (show ¬ ((i : Int) < (Y.length : Int)) by omega), L_const, bestI]
  | d + 1, i, b, hd, hb => by
    rw [L_shift]
    have hi : i < Y.length := by omega
    obtain ⟨y1, y2, y3⟩ := getY hY hi
    obtain ⟨z1, z2, z3⟩ := getY hY hb
    have e1 : ∀ x, (rd_T42 l x).f0 = (jobAt l x).f0 := fun _ => rfl
    have i1 := longest_l l Y hY hl d (i + 1) i (by omega) hi
    have i2 := longest_l l Y hY hl d (i + 1) b (by omega) hb
    simp only [spec_l3Longest.l0, if_pos (show (i : Int) < (Y.length : Int) by omega), le_nat, if_true, y1, z1, if_pos y2, if_pos y3, if_pos z2, if_pos z3, if_pos (show (b : Int) < (Y.length : Int) by omega), e1, wrap_id (show -9223372036854775808 ≤ (i : Int) + 1 by omega) (show (i : Int) + 1 ≤ 9223372036854775807 by omega), L_ite]
    have n1 : ((i : Int) + 1) = ((i + 1 : Nat) : Int) := by omega
    rw [n1, i1, i2, bestI]
    split <;> rfl
theorem late_l1 (l : List S42) (Y : List Int) (hY : ∀ x ∈ Y, 0 ≤ x ∧ x < (l.length : Int)) (hl : Y.length ≤ 1000) (St : List S52) (tot x : Int) (o : List Int) (on pos : Int) : ∀ (d i b : Nat), i + d = Y.length → b < Y.length →
    L (fun k => impl_lateRule.l1 k l Y St tot x (b : Int) o on pos Y (Y.length : Int) (i : Int)) = L (fun k => impl_lateRule.l1 k l Y St tot x ((bestI l Y d i b : Nat) : Int) o on pos Y (Y.length : Int) (Y.length : Int))
  | 0, i, b, hd, hb => by
    have : i = Y.length := by omega
    subst this
    rfl
  | d + 1, i, b, hd, hb => by
    rw [L_shift]
    have hi : i < Y.length := by omega
    obtain ⟨y1, y2, y3⟩ := getY hY hi
    obtain ⟨z1, z2, z3⟩ := getY hY hb
    have e1 : ∀ x, (rd_T42 l x).f0 = (jobAt l x).f0 := fun _ => rfl
    have i1 := late_l1 l Y hY hl St tot x o on pos d (i + 1) i (by omega) hi
    have i2 := late_l1 l Y hY hl St tot x o on pos d (i + 1) b (by omega) hb
    simp only [impl_lateRule.l1, if_pos (show (i : Int) < (Y.length : Int) by omega), le_nat, if_true, y1, z1, if_pos y2, if_pos y3, if_pos z2, if_pos z3, if_pos (show (b : Int) < (Y.length : Int) by omega), e1, wrap_id (show -9223372036854775808 ≤ (i : Int) + 1 by omega) (show (i : Int) + 1 ≤ 9223372036854775807 by omega), L_ite]
    have n1 : ((i : Int) + 1) = ((i + 1 : Nat) : Int) := by omega
    rw [n1, i1, i2, bestI]
    split <;> rfl
theorem timeT_perm (l : List S42) : ∀ {s t : List Int}, s.Perm t → timeT l s = timeT l t := by
  intro s t h
  induction h with
  | nil => rfl
  | cons x _ ih => simp only [timeT, ih]
  | swap x y r => simp only [timeT]; omega
  | trans _ _ h1 h2 => exact h1.trans h2
theorem without_e (Y : List Int) (b : Nat) (hb : b < Y.length) (hl : Y.length ≤ 1000) : spec_l3Without.f Y (b : Int) = some (Y.eraseIdx b) := by
  unfold spec_l3Without.f
  have h1 : (Y.take b).length = b := by rw [List.length_take]; omega
  have h2 : (Y.drop (b + 1)).length = Y.length - (b + 1) := List.length_drop
  rw [if_pos (show 0 ≤ (b : Int) by omega), if_pos (show (b : Int) ≤ (Y.length : Int) by omega), Int.toNat_natCast, l1Own_e _ (by omega), Option.bind_some, wrap_id (show -9223372036854775808 ≤ (b : Int) + 1 by omega) (show (b : Int) + 1 ≤ 9223372036854775807 by omega), if_pos (show 0 ≤ (b : Int) + 1 by omega), if_pos (show (b : Int) + 1 ≤ (Y.length : Int) by omega), show ((b : Int) + 1).toNat = b + 1 by omega, if_pos (by omega), List.eraseIdx_eq_take_drop_succ]
theorem erase_perm : ∀ (Y : List Int) (b : Nat), b < Y.length → (Y.getD b 0 :: Y.eraseIdx b).Perm Y
  | [], b, h => absurd h (by simp)
  | y :: Y, 0, _ => by simp
  | y :: Y, b + 1, h => by
    have := erase_perm Y b (by simpa using h)
    simp only [List.getD_cons_succ, List.eraseIdx_cons_succ]
    exact (List.Perm.swap _ _ _).trans (this.cons y)
theorem late_loop (l : List S42) (hg : Good l) (o : List Int) (ho : IsOrd l.length o) : ∀ (r pre T D : List Int) (S1 S2 : List S52), pre ++ r = o → (T ++ D).Perm pre → S1.length ≤ pre.length → S2.length ≤ pre.length →
    ∃ T' D' R1 R2, L (fun k => spec_l3Rule.l0 k l o (pre.length : Int) T D S1) = some (T', D', R1) ∧ L (fun k => impl_lateRule.l0 k l T S2 (timeT l T) o (o.length : Int) (pre.length : Int)) = some (T', R2) ∧ (T' ++ D').Perm o
  | [], pre, T, D, S1, S2, hp, hq, h1, h2 => by
    simp only [List.append_nil] at hp
    subst hp
    refine ⟨T, D, S1, S2, ?_, ?_, hq⟩
    · rw [L_shift]
      simp only [spec_l3Rule.l0, Int.lt_irrefl, if_false, L_const]
    · rw [L_shift]
      simp only [impl_lateRule.l0, Int.lt_irrefl, if_false, L_const]
  | x :: r, pre, T, D, S1, S2, hp, hq, h1, h2 => by
    have h8 := hg.1
    have hol := ho.1
    have hl : o.length = pre.length + (r.length + 1) := by rw [← hp]; simp
    have hx : 0 ≤ x ∧ x < (l.length : Int) := ho.2.1 x (by rw [← hp]; simp)
    have ex : rd o (pre.length : Int) = x := by rw [← hp]; exact getD_mid pre x r _
    have hTD : T.length + D.length = pre.length := by have := hq.length_eq; rwa [List.length_append] at this
    have hT : ∀ y ∈ T, 0 ≤ y ∧ y < (l.length : Int) := fun y hy => ho.2.1 y (by rw [← hp]; exact List.mem_append_left _ (hq.subset (List.mem_append_left _ hy)))
    have hY : ∀ y ∈ T ++ [x], 0 ≤ y ∧ y < (l.length : Int) := fun y hy => (List.mem_append.1 hy).elim (hT y) (fun h => by rw [List.mem_singleton.1 h]; exact hx)
    have hYl : (T ++ [x]).length = T.length + 1 := by simp
    have hYn : (T ++ [x]).length ≤ 1000 := by omega
    have htot := total_L l hg (T ++ [x]) hY hYn
    have hbd := timeT_bd l hg T hT
    have hjx := hg.2 _ (jobAt_mem hx.1 hx.2)
    have t0 := hjx.t0
    have t1 := hjx.t1
    have hsum : timeT l (T ++ [x]) = timeT l T + (jobAt l x).f0 := by rw [timeT_app]; simp [timeT]
    have e1 : ∀ z, rd_T42 l z = jobAt l z := fun _ => rfl
    have hp2 : (pre ++ [x]) ++ r = o := by rw [← hp]; simp
    have n1 : (pre.length : Int) < (o.length : Int) := by omega
    have n2 : T.length < 17592186044416 := by omega
    have n3 : D.length < 17592186044416 := by omega
    have n4 : S1.length < 8796093022208 := by omega
    have n5 : S2.length < 8796093022208 := by omega
    have hw := wrap_mid pre x (show pre.length < 4611686018427387904 by omega)
    have hwt := wrap_id (show -9223372036854775808 ≤ timeT l T + (jobAt l x).f0 by omega) (show timeT l T + (jobAt l x).f0 ≤ 9223372036854775807 by omega)
    by_cases hc : timeT l T + (jobAt l x).f0 > (jobAt l x).f3
    · have hb0 : 0 < (T ++ [x]).length := by omega
      have hbest : bestI l (T ++ [x]) (T ++ [x]).length 0 0 = bestI l (T ++ [x]) ((T ++ [x]).length - 1) 1 0 := by
        rw [hYl]
        show bestI l (T ++ [x]) (T.length + 1) 0 0 = _
        rw [bestI, if_neg (by omega)]
        rfl
      have hlong := longest_l l (T ++ [x]) hY hYn ((T ++ [x]).length - 1) 1 0 (by omega) hb0
      rw [← hbest] at hlong
      have hlt := bestI_lt l (T ++ [x]) (T ++ [x]).length 0 0 (by omega) hb0
      have hl1 := late_l1 l (T ++ [x]) hY hYn S2 (timeT l T + (jobAt l x).f0) x o (o.length : Int) (pre.length : Int) (T ++ [x]).length 0 0 (by omega) hb0
      obtain ⟨b, hbe⟩ : ∃ b, b = bestI l (T ++ [x]) (T ++ [x]).length 0 0 := ⟨_, rfl⟩
      rw [← hbe] at hlong hlt hl1
      obtain ⟨g1, g2, g3⟩ := getY hY hlt
      have hperm := erase_perm (T ++ [x]) b hlt
      have htime := timeT_perm l hperm
      rw [hsum] at htime
      simp only [timeT] at htime
      have hjg := hg.2 _ (jobAt_mem g2 g3)
      have s0 := hjg.t0
      have s1 := hjg.t1
      obtain ⟨T', D', R1, R2, i1, i2, i3⟩ := late_loop l hg o ho r (pre ++ [x]) ((T ++ [x]).eraseIdx b) (D ++ [(T ++ [x]).getD b 0]) (S1 ++ [(⟨x, (T ++ [x]).getD b 0⟩ : S52)]) (S2 ++ [(⟨x, (T ++ [x]).getD b 0⟩ : S52)]) hp2 (by
        have q1 : (((T ++ [x]).eraseIdx b) ++ (D ++ [(T ++ [x]).getD b 0])).Perm (D ++ ((T ++ [x]).getD b 0 :: (T ++ [x]).eraseIdx b)) := by
          refine List.perm_append_comm.trans ?_
          rw [List.append_assoc]
          rfl
        refine q1.trans ((hperm.append_left D).trans ?_)
        refine List.perm_append_comm.trans ?_
        rw [List.append_assoc]
        have q2 : ([x] ++ D).Perm (D ++ [x]) := List.perm_append_comm
        refine (q2.append_left T).trans ?_
        rw [← List.append_assoc]
        exact hq.append_right [x]) (by simp; omega) (by simp; omega)
      refine ⟨T', D', R1, R2, ?_, ?_, i3⟩
      · rw [L_shift]
        simp only [spec_l3Rule.l0, if_pos n1, le_nat, if_true, ex, if_pos n2, Option.bind_some, L_bind, L_ite, L_const, htot, hsum, if_pos hx.1, if_pos hx.2, e1, if_pos hc]
        have hlong2 : L (fun k => spec_l3Longest.f k l (T ++ [x])) = some (b : Int) := by simpa [spec_l3Longest.f] using hlong
        simp only [hlong2, Option.bind_some, le_nat, if_true, if_pos (show (b : Int) < ((T ++ [x]).length : Int) by omega), without_e _ b hlt hYn, if_pos n3, if_pos n4, g1, hw]
        exact i1
      · rw [L_shift]
        simp only [impl_lateRule.l0, if_pos n1, le_nat, if_true, ex, if_pos n2, Option.bind_some, if_pos hx.1, if_pos hx.2, e1, hwt, if_pos hc]
        simp only [Int.natCast_zero] at hl1
        rw [hl1, L_shift]
        simp only [impl_lateRule.l1, Int.lt_irrefl, if_false, le_nat, if_true, if_pos (show (b : Int) < ((T ++ [x]).length : Int) by omega), g1, if_pos g2, if_pos g3, if_pos (show (b : Int) ≤ ((T ++ [x]).length : Int) by omega), wrap_id (show -9223372036854775808 ≤ (b : Int) + 1 by omega) (show (b : Int) + 1 ≤ 9223372036854775807 by omega), if_pos (show 0 ≤ (b : Int) + 1 by omega), if_pos (show (b : Int) + 1 ≤ ((T ++ [x]).length : Int) by omega), if_pos n5, Int.toNat_natCast, e1, hw]
        have hwg : wrap64 (timeT l T + (jobAt l x).f0 - (jobAt l ((T ++ [x]).getD b 0)).f0) = timeT l ((T ++ [x]).eraseIdx b) := by
          rw [wrap_id (by omega) (by omega)]
          omega
        rw [hwg]
        exact i2
    · obtain ⟨T', D', R1, R2, i1, i2, i3⟩ := late_loop l hg o ho r (pre ++ [x]) (T ++ [x]) D (S1 ++ [(⟨x, -1⟩ : S52)]) (S2 ++ [(⟨x, -1⟩ : S52)]) hp2 (by
        rw [List.append_assoc]
        have q2 : ([x] ++ D).Perm (D ++ [x]) := List.perm_append_comm
        refine (q2.append_left T).trans ?_
        rw [← List.append_assoc]
        exact hq.append_right [x]) (by simp; omega) (by simp; omega)
      refine ⟨T', D', R1, R2, ?_, ?_, i3⟩
      · rw [L_shift]
        simp only [spec_l3Rule.l0, if_pos n1, le_nat, if_true, ex, if_pos n2, Option.bind_some, L_bind, L_ite, L_const, htot, hsum, if_pos hx.1, if_pos hx.2, e1, if_neg hc, if_pos n4, hw]
        exact i1
      · rw [L_shift]
        simp only [impl_lateRule.l0, if_pos n1, le_nat, if_true, ex, if_pos n2, Option.bind_some, if_pos hx.1, if_pos hx.2, e1, hwt, if_neg hc, if_pos n5, hw]
        rw [hsum] at i2
        exact i2
theorem late_fin (l : List S42) (hl : l.length ≤ 8) (T D : List Int) (S : List S52) (hD : D.length ≤ 1000) : ∀ (d : Nat) (i : Nat) (acc : List Int), i + d = l.length → acc.length + d ≤ 1000 →
    L (fun k => spec_LateRule.l0 k l acc (i : Int) T D S) = some (acc ++ (upI d (i : Int)).filter (fun x => decide (x ∈ D)), true)
  | 0, i, acc, hd, ha => by
    rw [L_shift]
    simp only [spec_LateRule.l0, if_neg (show ¬ ((i : Int) < (l.length : Int)) by omega), L_const, upI]
    simp
  | d + 1, i, acc, hd, ha => by
    rw [L_shift]
    have i1 := late_fin l hl T D S hD d (i + 1) (acc ++ [(i : Int)]) (by omega) (by simp; omega)
    have i2 := late_fin l hl T D S hD d (i + 1) acc (by omega) (by omega)
    have n1 : (((i + 1 : Nat)) : Int) = (i : Int) + 1 := by omega
    rw [n1] at i1 i2
    simp only [spec_LateRule.l0, if_pos (show (i : Int) < (l.length : Int) by omega), L_bind, L_ite, L_const, l1Has_L D (i : Int) (by omega), Option.bind_some, if_pos (show acc.length < 17592186044416 by omega), wrap_id (show -9223372036854775808 ≤ (i : Int) + 1 by omega) (show (i : Int) + 1 ≤ 9223372036854775807 by omega), i1, i2, upI]
    by_cases hc : (i : Int) ∈ D
    · rw [if_pos (by simpa using hc), List.filter_cons_of_pos (by simpa using hc), List.append_assoc]
      rfl
    · rw [if_neg (by simpa using hc), List.filter_cons_of_neg (by simpa using hc)]
theorem LateRule_both (l : List S42) (h : l.length ≤ 1048576) :
    ∃ (p : List Int) (ok : Bool), L (fun k => spec_LateRule.f k l) = some (p, ok) ∧ L (fun k => impl_LateRule.f k l) = some (p, ok) ∧ p.length ≤ 1048576 := by
  simp only [spec_LateRule.f, impl_LateRule.f, L_bind, L_ite, L_const, specIsPlain_L l (by omega), IsPlain_L l (by omega), Option.bind_some]
  cases hb : (goodB l && plainB l) with
  | false => exact ⟨[], false, by simp, by simp, by simp⟩
  | true =>
    simp only [Bool.and_eq_true] at hb
    have hg := goodB_iff.1 hb.1
    have h8 := hg.1
    obtain ⟨o, ho, hs, hi⟩ := dueOrder_both l hg
    obtain ⟨T, D, R1, R2, l1, l2, l3⟩ := late_loop l hg o ho o [] [] [] [] [] rfl (by simp) (by simp) (by simp)
    simp only [List.length_nil, Int.natCast_zero] at l1 l2
    have hol := ho.1
    have hTD : T.length + D.length = o.length := by have := l3.length_eq; rwa [List.length_append] at this
    have hfin := late_fin l h8 T D R1 (by omega) l.length 0 T (by omega) (by omega)
    simp only [Int.natCast_zero] at hfin
    have hrule : L (fun k => spec_l3Rule.f k l) = some (T, D, R1) := by
      simp only [spec_l3Rule.f, hs, Option.bind_some]
      exact l1
    have htake : o.take l.length = o := List.take_of_length_le (by omega)
    have hlate : L (fun k => impl_lateRule.f k l (l.length : Int)) = some (T, R2) := by
      simp only [impl_lateRule.f, L_bind, hi, Option.bind_some, le_nat, if_true, if_pos (show (l.length : Int) ≤ (o.length : Int) by omega), Int.toNat_natCast, htake]
      exact l2
    have hnd := l3.nodup_iff.2 ho.2.2
    have hfilt : (upI l.length 0).filter (fun x => decide (x ∈ D)) = leftL l.length T := by
      refine List.filter_congr (fun x hx => ?_)
      have hx' := (mem_upI _ _ _).1 hx
      have hxo : x ∈ T ++ D := l3.symm.subset (ho.mem.2 ⟨hx'.1, by omega⟩)
      have hdis := (List.nodup_append.1 hnd).2.2
      rcases List.mem_append.1 hxo with ht | hd
      · have hnD : x ∉ D := fun hd => hdis x ht x hd rfl
        simp [ht, hnD]
      · have hnT : x ∉ T := fun ht => hdis x ht x hd rfl
        simp [hd, hnT]
    have hlen := leftL_len l.length T
    refine ⟨T ++ leftL l.length T, true, ?_, ?_, by rw [List.length_append]; omega⟩
    · simp only [if_true, hrule, Option.bind_some, l1Own_e T (by omega)]
      rw [hfin, hfilt]
    · simp only [if_true, hlate, Option.bind_some, others_L l.length T (by omega) (by omega), if_pos (show T.length + (leftL l.length T).length < 17592186044416 by omega)]
theorem laws_FnExactLateRule_j0f (x0 : List (S44)) (x4 : List Int) (x5 : Bool) (x6 : List (S42)) (x7 : List Int) (x8 : Bool) : L (fun k => laws_FnExactLateRule.j0 k x0 x4 x5 x6 x7 x8 false) = L (fun k => (laws_toJobS.f k x0).bind fun t305 => ((laws_eqJobS.f k x6 t305).bind fun t308 => (if t308 = true then ((laws_markJobS.f k x6 1).bind fun bt309 => (if bt309.1 < 0 then (laws_FnExactLateRule.j1 k x0 x4 x5 x7 true) else ((laws_eqIntS.f k x7 x4).bind fun t311 => (if t311 = true then (laws_FnExactLateRule.j1 k x0 x4 x5 x7 (x8 != x5)) else (laws_FnExactLateRule.j1 k x0 x4 x5 x7 true))))) else (some false)))) := by
  rw [L_shift]
  simp only [laws_FnExactLateRule.j0, Bool.false_eq_true, if_false]
theorem laws_FnExactLateRule_j1f (x0 : List (S44)) (x4 : List Int) (x5 : Bool) (x7 : List Int) : L (fun k => laws_FnExactLateRule.j1 k x0 x4 x5 x7 false) = L (fun k => (laws_markIntS.f k x7 1).bind fun bt312 => ((laws_heldIntS.f k bt312.2 1).bind fun t314 => (if t314 < 0 then (some false) else (if t314 = bt312.1 then ((laws_toJobS.f k x0).bind fun t315 => ((impl_LateRule.f k t315).bind fun bt318 => ((laws_eqIntS.f k bt318.1 x4).bind fun t322 => (if t322 = true then (laws_FnExactLateRule.j2 k bt312.2 bt312.1 (bt318.2 != x5)) else (laws_FnExactLateRule.j2 k bt312.2 bt312.1 true))))) else (some false))))) := by
  rw [L_shift]
  simp only [laws_FnExactLateRule.j1, Bool.false_eq_true, if_false]
theorem laws_FnExactLateRule_j2f (x7 : List Int) (x10 : Int) : L (fun k => laws_FnExactLateRule.j2 k x7 x10 false) = L (fun k => (laws_heldIntS.f k x7 1).bind fun t323 => (if t323 < 0 then (some false) else (if t323 = x10 then (some true) else (some false)))) := by
  rw [L_shift]
  simp only [laws_FnExactLateRule.j2, Bool.false_eq_true, if_false]
theorem FnExactLateRule : laws_FnExactLateRule.Pure := by
  intro l h1 _
  have e1 : maxLen = 9223372036854775807 := rfl
  refine rounds_of_L ?_
  simp only [laws_FnExactLateRule.f, L_ite, L_const, szJobS_e l (by omega)]
  by_cases hl : l.length ≤ 1048576
  · have hl2 : (l.map toJobP).length ≤ 1048576 := by simpa using hl
    obtain ⟨R, ok, hs, hi, hR⟩ := LateRule_both (l.map toJobP) hl2
    rw [if_pos hl]
    simp (disch := omega) only [lt0, Option.bind_some, L_bind, L_ite, L_const, toJobS_L l hl, hs, hi, eqJobS_L _ hl2, markJobS_L, markIntS_L R, heldIntS_L R, eqIntS_L R hR, laws_FnExactLateRule_j0f, laws_FnExactLateRule_j1f, laws_FnExactLateRule_j2f, if_true, Bool.false_eq_true, if_false, bne_self_eq_false]
  · rw [if_neg hl]
    simp only [Option.bind_some, if_pos (show (-1 : Int) < 0 by decide), L_const]

end Go.Proofs.Ytphhfdofmicejaa.Pure
