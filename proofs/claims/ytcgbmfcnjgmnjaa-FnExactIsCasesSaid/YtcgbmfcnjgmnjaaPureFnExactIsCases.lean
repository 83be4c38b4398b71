/- The program's IsCases answers what the reference's answers, for all lists of jobs and of beginnings, objectives and values. -/
import Derived.Test.YtcgbmfcnjgmnjaaXSFnExactIsCases
import Derived.Test.YtcgbmfcnjgmnjaaXLim
namespace Go.Proofs.Ytcgbmfcnjgmnjaa.Pure
open Go.RowKit Go.Proofs.YtcgbmfcnjgmnjaaW.PrintWords Go.Proofs.YtcgbmfcnjgmnjaaW.PrintLast Go.Proofs.YtcgbmfcnjgmnjaaW.PrintMore Go.Proofs.Ytcgbmfcnjgmnjaa.X Go.Proofs.Ytcgbmfcnjgmnjaa.XRow Go.Proofs.Ytcgbmfcnjgmnjaa.XLim
set_option linter.unusedVariables false
set_option linter.unusedSimpArgs false
instance : ∀ a0 a1 a2 a3, Mono (fun k => impl_IsCases.f k a0 a1 a2 a3) := fun a0 a1 a2 a3 => ⟨⟨impl_IsCases.mono a0 a1 a2 a3⟩⟩
instance : ∀ a0, Mono (fun k => impl_IsJobs.f k a0) := fun a0 => ⟨⟨impl_IsJobs.mono a0⟩⟩
instance : ∀ a0 a1, Mono (fun k => impl_areDifferent.f k a0 a1) := fun a0 a1 => ⟨⟨impl_areDifferent.mono a0 a1⟩⟩
instance : ∀ a0 a1, Mono (fun k => impl_beginsWith.f k a0 a1) := fun a0 a1 => ⟨⟨impl_beginsWith.mono a0 a1⟩⟩
instance : ∀ a0 a1 a2, Mono (fun k => impl_choose.f k a0 a1 a2) := fun a0 a1 a2 => ⟨⟨impl_choose.mono a0 a1 a2⟩⟩
instance : ∀ a0 a1, Mono (fun k => impl_compareLists.f k a0 a1) := fun a0 a1 => ⟨⟨impl_compareLists.mono a0 a1⟩⟩
instance : ∀ a0, Mono (fun k => impl_factorial.f k a0) := fun a0 => ⟨⟨impl_factorial.mono a0⟩⟩
instance : ∀ a0 a1, Mono (fun k => impl_has.f k a0 a1) := fun a0 a1 => ⟨⟨impl_has.mono a0 a1⟩⟩
instance : ∀ a0 a1 a2, Mono (fun k => impl_prefixBound.f k a0 a1 a2) := fun a0 a1 a2 => ⟨⟨impl_prefixBound.mono a0 a1 a2⟩⟩
instance : ∀ a0 a1 a2, Mono (fun k => impl_valueOfEnds.f k a0 a1 a2) := fun a0 a1 a2 => ⟨⟨impl_valueOfEnds.mono a0 a1 a2⟩⟩
instance : ∀ a0 a1 a2 a3, Mono (fun k => laws_FnExactIsCases.f k a0 a1 a2 a3) := fun a0 a1 a2 a3 => ⟨⟨laws_FnExactIsCases.mono a0 a1 a2 a3⟩⟩
instance : ∀ a0 a1, Mono (fun k => laws_eqIntS.f k a0 a1) := fun a0 a1 => ⟨⟨laws_eqIntS.mono a0 a1⟩⟩
instance : ∀ a0 a1, Mono (fun k => laws_eqIntSS.f k a0 a1) := fun a0 a1 => ⟨⟨laws_eqIntSS.mono a0 a1⟩⟩
instance : ∀ a0 a1, Mono (fun k => laws_eqJobS.f k a0 a1) := fun a0 a1 => ⟨⟨laws_eqJobS.mono a0 a1⟩⟩
instance : ∀ a0 a1, Mono (fun k => laws_szIntSS.f k a0 a1) := fun a0 a1 => ⟨⟨laws_szIntSS.mono a0 a1⟩⟩
instance : ∀ a0, Mono (fun k => laws_toIntS.f k a0) := fun a0 => ⟨⟨laws_toIntS.mono a0⟩⟩
instance : ∀ a0, Mono (fun k => laws_toIntSS.f k a0) := fun a0 => ⟨⟨laws_toIntSS.mono a0⟩⟩
instance : ∀ a0, Mono (fun k => laws_toJobS.f k a0) := fun a0 => ⟨⟨laws_toJobS.mono a0⟩⟩
instance : ∀ a0 a1 a2 a3, Mono (fun k => spec_IsCases.f k a0 a1 a2 a3) := fun a0 a1 a2 a3 => ⟨⟨spec_IsCases.mono a0 a1 a2 a3⟩⟩
instance : ∀ a0 a1, Mono (fun k => spec_l1Has.f k a0 a1) := fun a0 a1 => ⟨⟨spec_l1Has.mono a0 a1⟩⟩
instance : ∀ a0 a1, Mono (fun k => spec_l1Same.f k a0 a1) := fun a0 a1 => ⟨⟨spec_l1Same.mono a0 a1⟩⟩
instance : ∀ a0, Mono (fun k => spec_l2Good.f k a0) := fun a0 => ⟨⟨spec_l2Good.mono a0⟩⟩
instance : ∀ a0 a1 a2, Mono (fun k => spec_l2Of.f k a0 a1 a2) := fun a0 a1 a2 => ⟨⟨spec_l2Of.mono a0 a1 a2⟩⟩
instance : ∀ a0 a1, Mono (fun k => spec_l5Begins.f k a0 a1) := fun a0 a1 => ⟨⟨spec_l5Begins.mono a0 a1⟩⟩
instance : ∀ a0 a1 a2, Mono (fun k => spec_l5Bound.f k a0 a1 a2) := fun a0 a1 a2 => ⟨⟨spec_l5Bound.mono a0 a1 a2⟩⟩
instance : ∀ a0 a1 a2 a3, Mono (fun k => spec_l5Cases.f k a0 a1 a2 a3) := fun a0 a1 a2 a3 => ⟨⟨spec_l5Cases.mono a0 a1 a2 a3⟩⟩
instance : ∀ a0 a1 a2 a3, Mono (fun k => spec_l5Choose.f k a0 a1 a2 a3) := fun a0 a1 a2 a3 => ⟨⟨spec_l5Choose.mono a0 a1 a2 a3⟩⟩
instance : ∀ a0 a1 a2, Mono (fun k => spec_l5Covers.f k a0 a1 a2) := fun a0 a1 a2 => ⟨⟨spec_l5Covers.mono a0 a1 a2⟩⟩
instance : ∀ a0 a1 a2 a3, Mono (fun k => spec_l5Pick.f k a0 a1 a2 a3) := fun a0 a1 a2 a3 => ⟨⟨spec_l5Pick.mono a0 a1 a2 a3⟩⟩
instance : ∀ a0 a1, Mono (fun k => spec_l5Prefix.f k a0 a1) := fun a0 a1 => ⟨⟨spec_l5Prefix.mono a0 a1⟩⟩
instance : ∀ a0, Mono (fun k => spec_l5Rests.f k a0) := fun a0 => ⟨⟨spec_l5Rests.mono a0⟩⟩
instance : ∀ a0 a1, Mono (fun k => spec_l5Two.f k a0 a1) := fun a0 a1 => ⟨⟨spec_l5Two.mono a0 a1⟩⟩
theorem lt_mid {α : Type} (pre : List α) (x : α) (r : List α) : ((pre.length : Int) < ((pre ++ x :: r).length : Int)) = True := by
  simp only [List.length_append, List.length_cons]
  exact eq_true (by omega)
theorem not_lt_end {α : Type} (pre : List α) : ((pre.length : Int) < ((pre ++ []).length : Int)) = False := by
  simp
theorem le_nat (n : Nat) : (0 ≤ (n : Int)) = True := eq_true (by omega)
theorem getD_mid {α : Type} (pre : List α) (x : α) (r : List α) (d : α) : (pre ++ x :: r).getD (pre.length : Int).toNat d = x := by
  simp [List.getD_eq_getElem?_getD]
theorem rd_mid (pre : List Int) (x : Int) (r : List Int) : rd (pre ++ x :: r) (pre.length : Int) = x := getD_mid pre x r 0
theorem wrap_mid {α : Type} (pre : List α) (x : α) (h : pre.length < 4611686018427387904) : wrap64 ((pre.length : Int) + 1) = ((pre ++ [x]).length : Int) := by
  rw [wrap_id (by omega) (by omega)]
  simp
theorem set_mid {α β : Type} (a : List α) (y v : α) (b : List α) (pre : List β) (h : pre.length = a.length) : (a ++ y :: b).set (pre.length : Int).toNat v = a ++ v :: b := by
  rw [Int.toNat_natCast, h, List.set_append_right _ _ (Nat.le_refl _)]
  simp
theorem rep_succ {α : Type} (x : α) (r : List α) {β : Type} (z : β) : List.replicate (x :: r).length z = z :: List.replicate r.length z := rfl
theorem app_cons {α : Type} (pre : List α) (x : α) (r : List α) : pre ++ x :: r = (pre ++ [x]) ++ r := by simp
theorem getD_set (out : List Int) (i j : Nat) (v : Int) : (out.set i v).getD j 0 = if i = j ∧ j < out.length then v else out.getD j 0 := by
  simp only [List.getD_eq_getElem?_getD, List.getElem?_set]
  by_cases h : i = j
  · subst h
    by_cases h2 : i < out.length
    · simp [h2]
    · simp [h2]
  · simp [h]
theorem ext_getD {a b : List Int} (hl : a.length = b.length) (h : ∀ j : Nat, j < a.length → a.getD j 0 = b.getD j 0) : a = b := by
  apply List.ext_getElem hl
  intro j h1 h2
  have := h j h1
  rwa [List.getD_eq_getElem?_getD, List.getD_eq_getElem?_getD, List.getElem?_eq_getElem h1, List.getElem?_eq_getElem h2] at this
theorem getD_mem {l : List Int} {j : Nat} (hj : j < l.length) : l.getD j 0 ∈ l := by
  rw [List.getD_eq_getElem?_getD, List.getElem?_eq_getElem hj]
  exact List.getElem_mem _
theorem toIntS_l (r : List Int) : ∀ pre : List Int, (pre ++ r).length < 4611686018427387904 → L (fun k => laws_toIntS.l0 k (pre ++ r) (pre ++ List.replicate r.length 0) (pre.length : Int)) = some (pre ++ r) := by
  induction r with
  | nil =>
    intro pre hb
    rw [L_shift]
    simp only [laws_toIntS.l0, not_lt_end, if_false, L_const, List.length_nil, List.replicate_zero]
  | cons x r ih =>
    intro pre hb
    rw [L_shift]
    have hl : pre.length < 4611686018427387904 := by simp at hb; omega
    simp only [laws_toIntS.l0, lt_mid, le_nat, if_true, rep_succ, rd_mid, wrap_mid pre x hl, set_mid pre _ x _ pre rfl]
    rw [app_cons pre x r, app_cons pre x (List.replicate _ _)]
    exact ih (pre ++ [x]) (by simpa using hb)
theorem toIntS_L (l : List Int) (h : l.length ≤ 1048576) : L (fun k => laws_toIntS.f k l) = some l := by
  simp only [laws_toIntS.f, le_nat, if_true, Int.toNat_natCast, if_pos (show l.length ≤ 35184372088832 by omega)]
  exact toIntS_l l [] (by simp; omega)
theorem eqIntS_l (r : List Int) : ∀ pre : List Int, (pre ++ r).length < 4611686018427387904 → L (fun k => laws_eqIntS.l0 k (pre ++ r) (pre ++ r) (pre.length : Int)) = some true := by
  induction r with
  | nil =>
    intro pre hb
    rw [L_shift]
    simp only [laws_eqIntS.l0, not_lt_end, if_false, L_const]
  | cons x r ih =>
    intro pre hb
    rw [L_shift]
    have hl : pre.length < 4611686018427387904 := by simp at hb; omega
    simp only [laws_eqIntS.l0, lt_mid, le_nat, if_true, rd_mid, wrap_mid pre x hl]
    rw [app_cons pre x r]
    exact ih (pre ++ [x]) (by simpa using hb)
theorem eqIntS_L (l : List Int) (h : l.length ≤ 1048576) : L (fun k => laws_eqIntS.f k l l) = some true := by
  simp only [laws_eqIntS.f, if_true]
  exact eqIntS_l l [] (by simp; omega)
def toJobP (x : S148) : S38 := ⟨x.f0, x.f1, x.f2, x.f3⟩
theorem toJobS_l (r : List S148) : ∀ pre : List S148, (pre ++ r).length < 4611686018427387904 → L (fun k => laws_toJobS.l0 k (pre ++ r) (pre.map toJobP ++ List.replicate r.length z38) (pre.length : Int)) = some ((pre ++ r).map toJobP) := by
  induction r with
  | nil =>
    intro pre hb
    rw [L_shift]
    simp only [laws_toJobS.l0, not_lt_end, if_false, L_const, List.length_nil, List.replicate_zero]
    simp
  | cons x r ih =>
    intro pre hb
    rw [L_shift]
    have hl : pre.length < 4611686018427387904 := by simp at hb; omega
    have e : rd_T148 (pre ++ x :: r) (pre.length : Int) = x := getD_mid pre x r _
    have e2 : ((pre.length : Int) < ((pre.map toJobP ++ z38 :: List.replicate r.length z38).length : Int)) = True := by
      simp only [List.length_append, List.length_cons, List.length_map]
      exact eq_true (by omega)
    simp only [laws_toJobS.l0, laws_toJob.f, lt_mid, le_nat, if_true, rep_succ, e, e2, wrap_mid pre x hl, Option.bind_some, set_mid (pre.map toJobP) _ _ _ pre (by simp)]
    have := ih (pre ++ [x]) (by simpa using hb)
    simpa [toJobP] using this
theorem toJobS_L (l : List S148) (h : l.length ≤ 1048576) : L (fun k => laws_toJobS.f k l) = some (l.map toJobP) := by
  simp only [laws_toJobS.f, le_nat, if_true, Int.toNat_natCast, if_pos (show l.length ≤ 8796093022208 by omega)]
  exact toJobS_l l [] (by simp; omega)
theorem eqJobS_l (r : List S38) : ∀ pre : List S38, (pre ++ r).length < 4611686018427387904 → L (fun k => laws_eqJobS.l0 k (pre ++ r) (pre ++ r) (pre.length : Int)) = some true := by
  induction r with
  | nil =>
    intro pre hb
    rw [L_shift]
    simp only [laws_eqJobS.l0, not_lt_end, if_false, L_const]
  | cons x r ih =>
    intro pre hb
    rw [L_shift]
    have hl : pre.length < 4611686018427387904 := by simp at hb; omega
    simp only [laws_eqJobS.l0, laws_eqJob.f, lt_mid, le_nat, if_true, wrap_mid pre x hl, Option.bind_some]
    rw [app_cons pre x r]
    exact ih (pre ++ [x]) (by simpa using hb)
theorem eqJobS_L (l : List S38) (h : l.length ≤ 1048576) : L (fun k => laws_eqJobS.f k l l) = some true := by
  simp only [laws_eqJobS.f, if_true]
  exact eqJobS_l l [] (by simp; omega)
theorem szJobS_e (l : List S148) (h : l.length ≤ 9223372036854775807) : laws_szJobS.f l 1048576 = if l.length ≤ 1048576 then some (1048576 - (l.length : Int)) else some (-1) := by
  unfold laws_szJobS.f
  have e : wrap64 (1048576 - (l.length : Int)) = 1048576 - (l.length : Int) := wrap_id (by omega) (by omega)
  rw [e]
  by_cases h2 : l.length ≤ 1048576
  · rw [if_neg (by omega), if_pos h2]
  · rw [if_pos (by omega), if_neg h2]
theorem ite_and (b c : Bool) : (if b = true then some c else some false) = some (b && c) := by cases b <;> rfl
theorem ite_not_and (b c : Bool) : (if b = true then some false else some c) = some (!b && c) := by cases b <;> rfl
theorem bind_self {α : Type} (o : Option α) : (o.bind fun t => some t) = o := by cases o <;> rfl
def inB (a lo hi : Int) : Bool := decide (lo ≤ a) && decide (a ≤ hi)
theorem inB_iff {a lo hi : Int} : inB a lo hi = true ↔ lo ≤ a ∧ a ≤ hi := by simp [inB]
theorem within_e (a lo hi : Int) : impl_within.f a lo hi = some (inB a lo hi) := by
  unfold impl_within.f inB
  by_cases h : lo ≤ a <;> simp [h]
theorem l1In_e (a lo hi : Int) : spec_l1In.f a lo hi = some (inB a lo hi) := by
  unfold spec_l1In.f inB
  by_cases h : lo ≤ a <;> simp [h]
theorem mx_e (a b : Int) : mx a b = max a b := by
  unfold mx
  omega
theorem l1Most_e (a b : Int) : spec_l1Most.f a b = some (max a b) := by
  unfold spec_l1Most.f
  by_cases h : a > b
  · rw [if_pos h]
    congr 1
    omega
  · rw [if_neg h]
    congr 1
    omega
theorem l1Has_l (x : Int) (r : List Int) : ∀ pre : List Int, (pre ++ r).length < 4611686018427387904 → L (fun k => spec_l1Has.l0 k (pre ++ r) x (pre.length : Int)) = some (decide (x ∈ r)) := by
  induction r with
  | nil =>
    intro pre hb
    rw [L_shift]
    simp only [spec_l1Has.l0, not_lt_end, if_false, L_const]
    simp
  | cons y r ih =>
    intro pre hb
    rw [L_shift]
    have hl : pre.length < 4611686018427387904 := by simp at hb; omega
    simp only [spec_l1Has.l0, lt_mid, le_nat, if_true, rd_mid, wrap_mid pre y hl, L_ite, L_const]
    rw [app_cons pre y r, ih (pre ++ [y]) (by simpa using hb)]
    by_cases h : y = x
    · subst h
      simp
    · rw [if_neg h]
      have : ¬ x = y := fun e => h e.symm
      simp [this]
theorem l1Has_L (l : List Int) (x : Int) (h : l.length < 4611686018427387904) : L (fun k => spec_l1Has.f k l x) = some (decide (x ∈ l)) := l1Has_l x l [] (by simpa using h)
theorem has_l (x : Int) (r : List Int) : ∀ pre : List Int, (pre ++ r).length < 4611686018427387904 → L (fun k => impl_has.l0 k x (pre ++ r) ((pre ++ r).length : Int) (pre.length : Int)) = some (decide (x ∈ r)) := by
  induction r with
  | nil =>
    intro pre hb
    rw [L_shift]
    simp only [impl_has.l0, not_lt_end, if_false, L_const]
    simp
  | cons y r ih =>
    intro pre hb
    rw [L_shift]
    have hl : pre.length < 4611686018427387904 := by simp at hb; omega
    simp only [impl_has.l0, lt_mid, le_nat, if_true, rd_mid, wrap_mid pre y hl, L_ite, L_const]
    rw [app_cons pre y r, ih (pre ++ [y]) (by simpa using hb)]
    by_cases h : y = x
    · subst h
      simp
    · rw [if_neg h]
      have : ¬ x = y := fun e => h e.symm
      simp [this]
theorem has_L (l : List Int) (x : Int) (h : l.length < 4611686018427387904) : L (fun k => impl_has.f k l x) = some (decide (x ∈ l)) := has_l x l [] (by simpa using h)
theorem perm_of : ∀ (a b : List Int), a.Nodup → (∀ x ∈ a, x ∈ b) → b.length ≤ a.length → a.Perm b
  | [], b, _, _, hl => by
    have : b = [] := List.length_eq_zero_iff.1 (by simpa using hl)
    rw [this]
  | x :: a, b, hn, hs, hl => by
    have hx : x ∈ b := hs x List.mem_cons_self
    have hn' := List.nodup_cons.1 hn
    have hp := List.perm_cons_erase hx
    have h1 : (b.erase x).length ≤ a.length := by
      have := List.length_erase_of_mem hx
      simp at hl
      omega
    have h2 : ∀ y ∈ a, y ∈ b.erase x := fun y hy => (List.mem_erase_of_ne (by rintro rfl; exact hn'.1 hy)).2 (hs y (List.mem_cons_of_mem _ hy))
    exact ((perm_of a (b.erase x) hn'.2 h2 h1).cons x).trans hp.symm
def numsTo (n : Nat) : List Int := (List.range n).map (fun i : Nat => (i : Int))
theorem numsTo_length (n : Nat) : (numsTo n).length = n := by simp [numsTo]
theorem mem_numsTo {n : Nat} {x : Int} : x ∈ numsTo n ↔ 0 ≤ x ∧ x < n := by
  simp only [numsTo, List.mem_map, List.mem_range]
  constructor
  · rintro ⟨i, hi, rfl⟩
    omega
  · intro h
    exact ⟨x.toNat, by omega, by omega⟩
/-- Different numbers of n things, none of them in pre. -/
def diffB (n : Int) : List Int → List Int → Bool
  | _, [] => true
  | pre, x :: r => inB x 0 (n - 1) && (!decide (x ∈ pre) && diffB n (pre ++ [x]) r)
theorem diffB_iff (n : Int) : ∀ (r pre : List Int), diffB n pre r = true ↔ (∀ x ∈ r, 0 ≤ x ∧ x < n) ∧ r.Nodup ∧ ∀ x ∈ r, x ∉ pre
  | [], pre => by simp [diffB]
  | x :: r, pre => by
    rw [diffB, Bool.and_eq_true, Bool.and_eq_true, inB_iff, diffB_iff n r (pre ++ [x])]
    simp only [Bool.not_eq_true', decide_eq_false_iff_not, List.mem_cons, List.nodup_cons, List.mem_append, List.not_mem_nil, or_false, not_or]
    constructor
    · rintro ⟨h1, h2, h3, h4, h5⟩
      refine ⟨?_, ⟨fun hx => (h5 x hx).2 rfl, h4⟩, ?_⟩
      · rintro y (rfl | hy)
        · omega
        · exact h3 y hy
      · rintro y (rfl | hy)
        · exact h2
        · exact (h5 y hy).1
    · rintro ⟨h1, ⟨h2, h3⟩, h4⟩
      exact ⟨⟨(h1 x (.inl rfl)).1, by have := (h1 x (.inl rfl)).2; omega⟩, h4 x (.inl rfl), fun y hy => h1 y (.inr hy), h3, fun y hy => ⟨h4 y (.inr hy), fun e => h2 (e ▸ hy)⟩⟩
/-- An order of n jobs. -/
def orderB (n : Nat) (l : List Int) : Bool := decide ((l.length : Int) = n) && diffB n [] l
def IsOrd (n : Nat) (l : List Int) : Prop := l.length = n ∧ (∀ x ∈ l, 0 ≤ x ∧ x < n) ∧ l.Nodup
theorem IsOrd.perm {n : Nat} {l : List Int} (h : IsOrd n l) : l.Perm (numsTo n) := perm_of l _ h.2.2 (fun x hx => mem_numsTo.2 (h.2.1 x hx)) (by rw [numsTo_length, h.1]; exact Nat.le_refl _)
theorem isNumber_e (a n : Int) (h0 : -9223372036854775807 ≤ n) (h1 : n ≤ 9223372036854775807) : impl_isNumber.f a n = some (inB a 0 (n - 1)) := by
  simp only [impl_isNumber.f, within_e, Option.bind_some]
  rw [wrap_id (by omega) (by omega)]
theorem take_mid {α : Type} (pre : List α) (r : List α) : (pre ++ r).take (pre.length : Int).toNat = pre := by simp
theorem areDifferent_l (n : Nat) (hn : n ≤ 1048576) (r : List Int) : ∀ pre : List Int, (pre ++ r).length < 4611686018427387904 → L (fun k => impl_areDifferent.l0 k (n : Int) (pre ++ r) (pre ++ r) ((pre ++ r).length : Int) (pre.length : Int)) = some (diffB n pre r) := by
  induction r with
  | nil =>
    intro pre hb
    rw [L_shift]
    simp only [impl_areDifferent.l0, not_lt_end, if_false, L_const]
    simp [diffB]
  | cons x r ih =>
    intro pre hb
    rw [L_shift]
    have hl : pre.length < 4611686018427387904 := by simp at hb; omega
    have e : ((pre.length : Int) ≤ ((pre ++ x :: r).length : Int)) = True := eq_true (by simp; omega)
    simp only [impl_areDifferent.l0, lt_mid, le_nat, if_true, rd_mid, wrap_mid pre x hl, isNumber_e x (n : Int) (by omega) (by omega), Option.bind_some, e, take_mid, L_ite, L_bind, has_L pre x hl, L_const]
    rw [app_cons pre x r, ih (pre ++ [x]) (by simpa using hb), ite_not_and, ite_and]
    rfl
theorem areDifferent_L (n : Nat) (l : List Int) (hn : n ≤ 1048576) (hl : l.length < 4611686018427387904) : L (fun k => impl_areDifferent.f k (n : Int) l) = some (diffB n [] l) := areDifferent_l n hn l [] (by simpa using hl)
def jobB (j : S38) : Bool := inB j.f0 1 50 && (inB j.f1 0 50 && (inB j.f2 0 500 && inB j.f3 0 500))
def goodB (l : List S38) : Bool := l.all jobB && decide ((l.length : Int) ≤ 8)
structure JobOk (j : S38) : Prop where
  t0 : 1 ≤ j.f0
  t1 : j.f0 ≤ 50
  w0 : 0 ≤ j.f1
  w1 : j.f1 ≤ 50
  r0 : 0 ≤ j.f2
  r1 : j.f2 ≤ 500
  d0 : 0 ≤ j.f3
  d1 : j.f3 ≤ 500
def Good (l : List S38) : Prop := l.length ≤ 8 ∧ ∀ j ∈ l, JobOk j
theorem goodB_iff {l : List S38} : goodB l = true ↔ Good l := by
  simp only [goodB, Good, Bool.and_eq_true, List.all_eq_true, decide_eq_true_eq, jobB, inB_iff]
  constructor
  · rintro ⟨h, hl⟩
    exact ⟨by omega, fun j hj => by
      obtain ⟨⟨a, b⟩, ⟨c, d⟩, ⟨e, f⟩, g, i⟩ := h j hj
      exact ⟨a, b, c, d, e, f, g, i⟩⟩
  · rintro ⟨hl, h⟩
    exact ⟨fun j hj => ⟨⟨(h j hj).t0, (h j hj).t1⟩, ⟨(h j hj).w0, (h j hj).w1⟩, ⟨(h j hj).r0, (h j hj).r1⟩, (h j hj).d0, (h j hj).d1⟩, by omega⟩
theorem l2Job_e (j : S38) : spec_l2Job.f j.f0 j.f1 j.f2 j.f3 = some (jobB j) := by
  simp only [spec_l2Job.f, l1In_e, Option.bind_some, ite_and, jobB]
theorem l2Good_l (r : List S38) : ∀ pre : List S38, (pre ++ r).length < 4611686018427387904 → L (fun k => spec_l2Good.l0 k (pre ++ r) (pre.length : Int)) = some (r.all jobB && decide (((pre ++ r).length : Int) ≤ 8)) := by
  induction r with
  | nil =>
    intro pre hb
    rw [L_shift]
    simp only [spec_l2Good.l0, not_lt_end, if_false, L_const]
    simp
  | cons x r ih =>
    intro pre hb
    rw [L_shift]
    have hl : pre.length < 4611686018427387904 := by simp at hb; omega
    have e : rd_T38 (pre ++ x :: r) (pre.length : Int) = x := getD_mid pre x r _
    simp only [spec_l2Good.l0, lt_mid, le_nat, if_true, e, wrap_mid pre x hl, l2Job_e, Option.bind_some, L_ite, L_const]
    rw [app_cons pre x r, ih (pre ++ [x]) (by simpa using hb), ite_and]
    rw [List.all_cons, Bool.and_assoc]
theorem l2Good_L (l : List S38) (h : l.length < 4611686018427387904) : L (fun k => spec_l2Good.f k l) = some (goodB l) := by
  have := l2Good_l l [] (by simpa using h)
  simpa [goodB, spec_l2Good.f] using this
theorem isDate_e (n : Int) : impl_isDate.f n = some (inB n 0 500) := by
  simp only [impl_isDate.f, within_e, Option.bind_some]
theorem IsJobs_l (r : List S38) : ∀ pre : List S38, (pre ++ r).length < 4611686018427387904 → L (fun k => impl_IsJobs.l0 k (pre ++ r) ((pre ++ r).length : Int) (pre.length : Int)) = some (r.all jobB) := by
  induction r with
  | nil =>
    intro pre hb
    rw [L_shift]
    simp only [impl_IsJobs.l0, not_lt_end, if_false, L_const]
    simp
  | cons x r ih =>
    intro pre hb
    rw [L_shift]
    have hl : pre.length < 4611686018427387904 := by simp at hb; omega
    have e : rd_T38 (pre ++ x :: r) (pre.length : Int) = x := getD_mid pre x r _
    simp only [impl_IsJobs.l0, lt_mid, le_nat, if_true, e, wrap_mid pre x hl, within_e, isDate_e, Option.bind_some, L_ite, L_const]
    rw [app_cons pre x r, ih (pre ++ [x]) (by simpa using hb)]
    simp only [ite_and, List.all_cons, jobB, Bool.and_assoc]
theorem IsJobs_L (l : List S38) (h : l.length < 4611686018427387904) : L (fun k => impl_IsJobs.f k l) = some (goodB l) := by
  have := IsJobs_l l [] (by simpa using h)
  simp only [List.nil_append, List.length_nil, Int.natCast_zero] at this
  simp only [impl_IsJobs.f, L_ite, L_const, this, goodB]
  by_cases h8 : (l.length : Int) ≤ 8
  · rw [if_neg (by omega)]
    simp [h8]
  · rw [if_pos (by omega)]
    simp [h8]
def timeSum (l : List S38) : Int := (l.map (·.f0)).sum
theorem timeSum_cons (x : S38) (l : List S38) : timeSum (x :: l) = x.f0 + timeSum l := by simp [timeSum]
theorem timeSum_bounds (l : List S38) (h : ∀ j ∈ l, JobOk j) : 0 ≤ timeSum l ∧ timeSum l ≤ 50 * l.length := by
  induction l with
  | nil => simp [timeSum]
  | cons x l ih =>
    rw [timeSum_cons]
    have := ih (fun j hj => h j (List.mem_cons_of_mem _ hj))
    have hx := h x List.mem_cons_self
    have := hx.t0
    have := hx.t1
    simp only [List.length_cons]
    omega
def jobAt (l : List S38) (x : Int) : S38 := l.getD x.toNat z38
theorem jobAt_mem {l : List S38} {x : Int} (h0 : 0 ≤ x) (h1 : x < l.length) : jobAt l x ∈ l := by
  unfold jobAt
  rw [List.getD_eq_getElem?_getD, List.getElem?_eq_getElem (by omega)]
  exact List.getElem_mem _
/-- The ends, put into out by the jobs' numbers. -/
def endsF (l : List S38) : List Int → List Int → Int → List Int
  | [], out, _ => out
  | x :: r, out, now => endsF l r (out.set x.toNat (max now (jobAt l x).f2 + (jobAt l x).f0)) (max now (jobAt l x).f2 + (jobAt l x).f0)
def startsF (l : List S38) : List Int → List Int → Int → List Int
  | [], out, _ => out
  | x :: r, out, now => startsF l r (out.set x.toNat (max now (jobAt l x).f2)) (max now (jobAt l x).f2 + (jobAt l x).f0)
def endsP (l : List S38) (o : List Int) : List Int := endsF l o (List.replicate l.length 0) 0
def startsP (l : List S38) (o : List Int) : List Int := startsF l o (List.replicate l.length 0) 0
theorem endsF_length (l : List S38) : ∀ (o out : List Int) (now : Int), (endsF l o out now).length = out.length
  | [], out, now => rfl
  | x :: r, out, now => by rw [endsF, endsF_length l r, List.length_set]
theorem ends_bounds (l : List S38) (hg : Good l) : ∀ (o E : List Int) (now : Int), 0 ≤ now → now ≤ 500 + 50 * (8 - o.length : Int) → o.length ≤ 8 → (∀ x ∈ o, 0 ≤ x ∧ x < (l.length : Int)) → (∀ v ∈ E, 0 ≤ v ∧ v ≤ 900) → ∀ v ∈ endsF l o E now, 0 ≤ v ∧ v ≤ 900
  | [], E, now, _, _, _, _, hE => hE
  | x :: r, E, now, h0, h1, hl, hx, hE => by
    rw [endsF]
    have hx0 := hx x List.mem_cons_self
    have hj := hg.2 _ (jobAt_mem hx0.1 hx0.2)
    have a0 := hj.t0
    have a1 := hj.t1
    have a2 := hj.r0
    have a3 := hj.r1
    simp only [List.length_cons] at h1 hl
    refine ends_bounds l hg r _ _ (by omega) (by omega) (by omega) (fun y hy => hx y (List.mem_cons_of_mem _ hy)) (fun v hv => ?_)
    rcases List.mem_or_eq_of_mem_set hv with h | h
    · exact hE v h
    · rw [h]
      omega
def maxTo (v : Int) (l : List Int) : Int := l.foldl max v
theorem mul_bd {w e : Int} (w0 : 0 ≤ w) (w1 : w ≤ 50) (e0 : 0 ≤ e) (e1 : e ≤ 1000) : 0 ≤ w * e ∧ w * e ≤ 50000 := by
  have h1 : w * e ≤ 50 * e := Int.mul_le_mul_of_nonneg_right w1 e0
  have h2 : 0 ≤ w * e := Int.mul_nonneg w0 e0
  omega
/-- What a job with an end adds to a value. -/
def addF (v : Int) (j : S38) (e obj : Int) (first : Bool) : Int :=
  if obj = 1 then max v e else if obj = 2 then v + e else if obj = 3 then v + j.f1 * e else if obj = 4 then (if first = true then e - j.f3 else max v (e - j.f3))
  else if obj = 5 then v + max 0 (e - j.f3) else if obj = 6 then v + j.f1 * max 0 (e - j.f3) else if e - j.f3 ≤ 0 then v else if obj = 7 then v + 1 else v + j.f1
theorem addF_bd (v : Int) (j : S38) (e obj : Int) (first : Bool) (hj : JobOk j) (he0 : 0 ≤ e) (he1 : e ≤ 1000) {B : Int} (hB : 0 ≤ B) (hv0 : -B ≤ v) (hv1 : v ≤ B) : -(B + 100000) ≤ addF v j e obj first ∧ addF v j e obj first ≤ B + 100000 := by
  have a2 := hj.d0
  have a3 := hj.d1
  have m1 := mul_bd hj.w0 hj.w1 he0 he1
  have m2 := mul_bd hj.w0 hj.w1 (show 0 ≤ max 0 (e - j.f3) by omega) (by omega)
  have w0 := hj.w0
  have w1 := hj.w1
  unfold addF
  repeat' split
  all_goals omega
theorem add_e (v : Int) (j : S38) (e obj : Int) (first : Bool) (hj : JobOk j) (he0 : 0 ≤ e) (he1 : e ≤ 1000) (hv0 : -1000000000 ≤ v) (hv1 : v ≤ 1000000000) : impl_add.f v j.f0 j.f1 j.f2 j.f3 e obj first = some (addF v j e obj first) := by
  have a2 := hj.d0
  have a3 := hj.d1
  have m1 := mul_bd hj.w0 hj.w1 he0 he1
  have m2 := mul_bd hj.w0 hj.w1 (show 0 ≤ max 0 (e - j.f3) by omega) (by omega)
  have w0 := hj.w0
  have w1 := hj.w1
  unfold impl_add.f addF
  simp only [mx_e]
  rw [wrap_id (show -9223372036854775808 ≤ e - j.f3 by omega) (by omega), wrap_id (show -9223372036854775808 ≤ v + e by omega) (by omega), wrap_id (show -9223372036854775808 ≤ j.f1 * e by omega) (by omega), wrap_id (show -9223372036854775808 ≤ v + j.f1 * e by omega) (by omega), wrap_id (show -9223372036854775808 ≤ v + max 0 (e - j.f3) by omega) (by omega), wrap_id (show -9223372036854775808 ≤ j.f1 * max 0 (e - j.f3) by omega) (by omega), wrap_id (show -9223372036854775808 ≤ v + j.f1 * max 0 (e - j.f3) by omega) (by omega), wrap_id (show -9223372036854775808 ≤ v + 1 by omega) (by omega), wrap_id (show -9223372036854775808 ≤ v + j.f1 by omega) (by omega)]
  repeat' split
  all_goals first | rfl | contradiction
/-- The value of an objective for ends. -/
def valF (obj : Int) : Int → Bool → List S38 → List Int → Int
  | v, _, [], _ => v
  | v, _, _, [] => v
  | v, first, j :: js, e :: es => valF obj (addF v j e obj first) false js es
def valP (obj : Int) (l : List S38) (es : List Int) : Int := valF obj 0 true l es
theorem valueOfEnds_l (obj : Int) (r : List S38) (hr : ∀ j ∈ r, JobOk j) : ∀ (pre : List S38) (pe es : List Int) (v : Int), (pre ++ r).length < 4611686018427387904 → pe.length = pre.length → es.length = r.length → (∀ e ∈ es, 0 ≤ e ∧ e ≤ 1000) → -(100000 * (1000 - r.length : Int)) ≤ v → v ≤ 100000 * (1000 - r.length : Int) → r.length ≤ 100 →
    L (fun k => impl_valueOfEnds.l0 k (pe ++ es) obj v (pre ++ r) ((pre ++ r).length : Int) (pre.length : Int)) = some (valF obj v (decide (pre.length = 0)) r es) := by
  induction r with
  | nil =>
    intro pre pe es v hb hpe hes _ _ _ _
    rw [L_shift]
    simp only [impl_valueOfEnds.l0, not_lt_end, if_false, L_const, valF]
  | cons x r ih =>
    intro pre pe es v hb hpe hes he h0 h1 h2
    match es, hes with
    | y :: es, hes =>
      rw [L_shift]
      have hl : pre.length < 4611686018427387904 := by simp at hb; omega
      have e : rd_T38 (pre ++ x :: r) (pre.length : Int) = x := getD_mid pre x r _
      have e1 : rd (pe ++ y :: es) (pre.length : Int) = y := by rw [← hpe]; exact rd_mid pe y es
      have e2 : ((pre.length : Int) < ((pe ++ y :: es).length : Int)) = True := by rw [← hpe]; exact lt_mid pe y es
      have e3 : ((pre.length : Int) == 0) = decide (pre.length = 0) := by
        by_cases h : pre.length = 0
        · rw [h]; rfl
        · rw [decide_eq_false h]
          simp
          exact fun e => h (by rw [e]; rfl)
      have hx := hr x List.mem_cons_self
      have hy := he y List.mem_cons_self
      simp only [List.length_cons] at h0 h1 h2 hes
      have hbd := addF_bd v x y obj (decide (pre.length = 0)) hx hy.1 hy.2 (B := 100000 * (1000 - (r.length + 1 : Nat) : Int)) (by omega) (by omega) (by omega)
      simp only [impl_valueOfEnds.l0, lt_mid, le_nat, if_true, e, e1, e2, e3, wrap_mid pre x hl, add_e v x y obj _ hx hy.1 hy.2 (by omega) (by omega), Option.bind_some]
      rw [app_cons pre x r, app_cons pe y es, ih (fun j hj => hr j (List.mem_cons_of_mem _ hj)) (pre ++ [x]) (pe ++ [y]) es _ (by simpa using hb) (by simp [hpe]) (by omega) (fun e he' => he e (List.mem_cons_of_mem _ he')) (by omega) (by omega) (by omega), valF]
      simp
theorem valueOfEnds_L (l : List S38) (hg : Good l) (es : List Int) (hes : es.length = l.length) (he : ∀ e ∈ es, 0 ≤ e ∧ e ≤ 1000) (obj : Int) : L (fun k => impl_valueOfEnds.f k l es obj) = some (valP obj l es) := by
  have h8 := hg.1
  have := valueOfEnds_l obj l hg.2 [] [] es 0 (by simp; omega) rfl hes he (by omega) (by omega) (by omega)
  simpa [impl_valueOfEnds.f, valP] using this
def objB (obj : Int) : Bool := inB obj 1 8
theorem objB_iff {n : Int} : objB n = true ↔ n = 1 ∨ n = 2 ∨ n = 3 ∨ n = 4 ∨ n = 5 ∨ n = 6 ∨ n = 7 ∨ n = 8 := by
  rw [objB, inB_iff]
  omega
theorem l2Cost_e (v : Int) (j : S38) (e obj : Int) (first : Bool) (hj : JobOk j) (he0 : 0 ≤ e) (he1 : e ≤ 1000) (ho : objB obj = true) (h1 : obj ≠ 1) (h4 : obj ≠ 4) : ∃ c, spec_l2Cost.f j.f0 j.f1 j.f2 j.f3 e obj = some c ∧ v + c = addF v j e obj first := by
  have a2 := hj.d0
  have a3 := hj.d1
  have m1 := mul_bd hj.w0 hj.w1 he0 he1
  have m2 := mul_bd hj.w0 hj.w1 (show 0 ≤ max (e - j.f3) 0 by omega) (by omega)
  have em : max (e - j.f3) 0 = max 0 (e - j.f3) := by omega
  simp only [spec_l2Cost.f, l1Most_e, Option.bind_some, wrap_id (show -9223372036854775808 ≤ e - j.f3 by omega) (show e - j.f3 ≤ 9223372036854775807 by omega), wrap_id (show -9223372036854775808 ≤ j.f1 * e by omega) (by omega), wrap_id (show -9223372036854775808 ≤ j.f1 * max (e - j.f3) 0 by omega) (by omega)]
  rcases objB_iff.1 ho with rfl | rfl | rfl | rfl | rfl | rfl | rfl | rfl
  · exact absurd rfl h1
  · exact ⟨_, rfl, rfl⟩
  · exact ⟨_, rfl, rfl⟩
  · exact absurd rfl h4
  · exact ⟨_, rfl, by rw [em]; rfl⟩
  · exact ⟨_, rfl, by rw [em]; rfl⟩
  · by_cases h : e - j.f3 ≤ 0
    · exact ⟨0, by simp; omega, by simp [addF, h]⟩
    · exact ⟨1, by simp; omega, by simp [addF, h]⟩
  · by_cases h : e - j.f3 ≤ 0
    · exact ⟨0, by simp; omega, by simp [addF, h]⟩
    · exact ⟨j.f1, by simp; omega, by simp [addF, h]⟩
theorem l2Of_l (obj : Int) (hobj : objB obj = true) (r : List S38) (hr : ∀ j ∈ r, JobOk j) : ∀ (pre : List S38) (pe es : List Int) (v : Int), (pre ++ r).length < 4611686018427387904 → pe.length = pre.length → es.length = r.length → (∀ e ∈ es, 0 ≤ e ∧ e ≤ 1000) → -(100000 * (1000 - r.length : Int)) ≤ v → v ≤ 100000 * (1000 - r.length : Int) → r.length ≤ 100 → (pre.length = 0 → v = 0) →
    L (fun k => spec_l2Of.l0 k (pre ++ r) (pe ++ es) obj v (pre.length : Int)) = some (valF obj v (decide (pre.length = 0)) r es) := by
  induction r with
  | nil =>
    intro pre pe es v hb hpe hes _ _ _ _ _
    rw [L_shift]
    simp only [spec_l2Of.l0, not_lt_end, if_false, L_const, valF]
  | cons x r ih =>
    intro pre pe es v hb hpe hes he h0 h1 h2 hv
    match es, hes with
    | y :: es, hes =>
      have hl : pre.length < 4611686018427387904 := by simp at hb; omega
      have e : rd_T38 (pre ++ x :: r) (pre.length : Int) = x := getD_mid pre x r _
      have e1 : rd (pe ++ y :: es) (pre.length : Int) = y := by rw [← hpe]; exact rd_mid pe y es
      have e2 : ((pre.length : Int) < ((pe ++ y :: es).length : Int)) = True := by rw [← hpe]; exact lt_mid pe y es
      have hx := hr x List.mem_cons_self
      have hy := he y List.mem_cons_self
      simp only [List.length_cons] at h0 h1 h2 hes
      have hbd := addF_bd v x y obj (decide (pre.length = 0)) hx hy.1 hy.2 (B := 100000 * (1000 - (r.length + 1 : Nat) : Int)) (by omega) (by omega) (by omega)
      have a2 := hx.d0
      have a3 := hx.d1
      have hstep : L (fun k => spec_l2Of.l0 k (pre ++ x :: r) (pe ++ y :: es) obj v (pre.length : Int)) = L (fun k => spec_l2Of.l0 k (pre ++ x :: r) (pe ++ y :: es) obj (addF v x y obj (decide (pre.length = 0))) ((pre ++ [x]).length : Int)) := by
        rw [L_shift]
        simp only [spec_l2Of.l0, lt_mid, le_nat, if_true, e, e1, e2, wrap_mid pre x hl]
        by_cases h4 : obj = 4
        · subst h4
          simp only [spec_l2Greatest.f, Option.bind_some, wrap_id (show -9223372036854775808 ≤ y - x.f3 by omega) (show y - x.f3 ≤ 9223372036854775807 by omega)]
          by_cases hp : pre.length = 0
          · simp [hp, addF]
          · have hp2 : ¬ pre = [] := fun h => hp (by rw [h]; rfl)
            by_cases hc : y - x.f3 > v
            · have : max v (y - x.f3) = y - x.f3 := by omega
              simp [hp2, addF, hc, this]
            · have : max v (y - x.f3) = v := by omega
              simp [hp2, addF, hc, this]
        · by_cases h1' : obj = 1
          · subst h1'
            simp only [spec_l2Greatest.f, Option.bind_some]
            by_cases hp : pre.length = 0
            · have : max v y = y := by have := hv hp; omega
              simp [hp, addF, this]
            · have hp2 : ¬ pre = [] := fun h => hp (by rw [h]; rfl)
              by_cases hc : y > v
              · have : max v y = y := by omega
                simp [hp2, addF, hc, this]
              · have : max v y = v := by omega
                simp [hp2, addF, hc, this]
          · obtain ⟨c, hc, hv2⟩ := l2Cost_e v x y obj (decide (pre.length = 0)) hx hy.1 hy.2 hobj h1' h4
            have hg : spec_l2Greatest.f obj = some false := by simp [spec_l2Greatest.f, h1', h4]
            simp only [hg, Option.bind_some, hc, hv2, wrap_id (show -9223372036854775808 ≤ addF v x y obj (decide (pre.length = 0)) by omega) (show addF v x y obj (decide (pre.length = 0)) ≤ 9223372036854775807 by omega)]
            simp
      rw [hstep, app_cons pre x r, app_cons pe y es, ih (fun j hj => hr j (List.mem_cons_of_mem _ hj)) (pre ++ [x]) (pe ++ [y]) es _ (by simpa using hb) (by simp [hpe]) (by omega) (fun e he' => he e (List.mem_cons_of_mem _ he')) (by omega) (by omega) (by omega) (by simp), valF]
      simp
theorem l2Of_L (l : List S38) (hg : Good l) (es : List Int) (hes : es.length = l.length) (he : ∀ e ∈ es, 0 ≤ e ∧ e ≤ 1000) (obj : Int) (hobj : objB obj = true) : L (fun k => spec_l2Of.f k l es obj) = some (valP obj l es) := by
  have h8 := hg.1
  have := l2Of_l obj hobj l hg.2 [] [] es 0 (by simp; omega) rfl hes he (by omega) (by omega) (by omega) (fun _ => rfl)
  simpa [spec_l2Of.f, valP] using this
theorem l1Own_e (l : List Int) (h : l.length ≤ 1048576) : spec_l1Own.f l = some l := by
  simp only [spec_l1Own.f, Option.bind_some, List.length_nil, List.nil_append]
  rw [if_pos (by omega)]
/-- Nothing is to be done of a job now. -/
def skipJ (rest : List Int) (now : Int) (i : Int) (j : S38) : Prop := rd rest i = 0 ∨ j.f2 > now
instance (rest : List Int) (now i : Int) (j : S38) : Decidable (skipJ rest now i j) := by unfold skipJ; infer_instance
def pickStep (l : List S38) (rest : List Int) (now obj b i : Int) (j : S38) : Int :=
  if skipJ rest now i j then b else if b < 0 then i else if obj = 2 then (if rd rest i < rd rest b then i else b) else (if j.f3 < (jobAt l b).f3 then i else b)
/-- The job that is picked: from place i on, b so far. -/
def pickL (l : List S38) (rest : List Int) (now obj : Int) : Int → Nat → List S38 → Int
  | b, _, [] => b
  | b, i, j :: r => pickL l rest now obj (pickStep l rest now obj b (i : Int) j) (i + 1) r
theorem pickStep_or (l : List S38) (rest : List Int) (now obj b i : Int) (j : S38) : pickStep l rest now obj b i j = b ∨ (pickStep l rest now obj b i j = i ∧ ¬ skipJ rest now i j) := by
  unfold pickStep
  by_cases h : skipJ rest now i j
  · exact .inl (if_pos h)
  · rw [if_neg h]
    repeat' split
    all_goals first | exact .inl rfl | exact .inr ⟨rfl, h⟩
theorem pickStep_neg {l : List S38} {rest : List Int} {now obj b i : Int} {j : S38} (hi : 0 ≤ i) (h : pickStep l rest now obj b i j < 0) : b < 0 ∧ skipJ rest now i j := by
  unfold pickStep at h
  by_cases hs : skipJ rest now i j
  · rw [if_pos hs] at h
    exact ⟨h, hs⟩
  · rw [if_neg hs] at h
    exfalso
    split at h
    · omega
    · split at h
      · split at h <;> omega
      · split at h <;> omega
theorem pickL_neg (l : List S38) (rest : List Int) (now obj : Int) : ∀ (r pre : List S38) (b : Int), pickL l rest now obj b pre.length r < 0 → b < 0 ∧ ∀ (i : Nat) (j : S38), r[i]? = some j → skipJ rest now ((pre.length + i : Nat) : Int) j
  | [], pre, b, h => ⟨h, fun i j hj => by simp at hj⟩
  | x :: r, pre, b, h => by
    rw [pickL] at h
    have e : pre.length + 1 = (pre ++ [x]).length := by simp
    rw [e] at h
    obtain ⟨h1, h2⟩ := pickL_neg l rest now obj r (pre ++ [x]) _ h
    obtain ⟨h3, h4⟩ := pickStep_neg (by omega) h1
    refine ⟨h3, fun i j hj => ?_⟩
    cases i with
    | zero =>
      simp only [List.getElem?_cons_zero, Option.some.injEq] at hj
      subst hj
      exact h4
    | succ i =>
      have := h2 i j (by simpa using hj)
      have e2 : (pre ++ [x]).length + i = pre.length + (i + 1) := by simp; omega
      rwa [e2] at this
theorem pickL_pos (l : List S38) (rest : List Int) (now obj : Int) : ∀ (r pre : List S38) (b : Int), pickL l rest now obj b pre.length r = b ∨ ∃ (i : Nat) (j : S38), r[i]? = some j ∧ pickL l rest now obj b pre.length r = ((pre.length + i : Nat) : Int) ∧ ¬ skipJ rest now ((pre.length + i : Nat) : Int) j
  | [], pre, b => .inl rfl
  | x :: r, pre, b => by
    rw [pickL]
    have e : pre.length + 1 = (pre ++ [x]).length := by simp
    rw [e]
    rcases pickL_pos l rest now obj r (pre ++ [x]) (pickStep l rest now obj b pre.length x) with h | ⟨i, j, h1, h2, h3⟩
    · rw [h]
      rcases pickStep_or l rest now obj b pre.length x with h | ⟨h1, h2⟩
      · exact .inl h
      · exact .inr ⟨0, x, rfl, h1, h2⟩
    · have e2 : (pre ++ [x]).length + i = pre.length + (i + 1) := by simp; omega
      rw [e2] at h2 h3
      exact .inr ⟨i + 1, j, by simpa using h1, h2, h3⟩
def pickP (l : List S38) (rest : List Int) (now obj : Int) : Int := pickL l rest now obj (-1) 0 l
theorem pickP_neg {l : List S38} {rest : List Int} {now obj : Int} (h : pickP l rest now obj < 0) : ∀ i : Nat, i < l.length → rest.getD i 0 = 0 ∨ (l.getD i z38).f2 > now := fun i hi => by
  have := (pickL_neg l rest now obj l [] (-1) h).2 i (l.getD i z38) (by rw [List.getD_eq_getElem?_getD, List.getElem?_eq_getElem hi]; rfl)
  simpa [skipJ, rd] using this
theorem pickP_pos {l : List S38} {rest : List Int} {now obj : Int} (h : 0 ≤ pickP l rest now obj) : pickP l rest now obj < (l.length : Int) ∧ rd rest (pickP l rest now obj) ≠ 0 := by
  rcases pickL_pos l rest now obj l [] (-1) with h1 | ⟨i, j, h1, h2, h3⟩
  · unfold pickP at h
    simp only [List.length_nil] at h1
    omega
  · simp only [List.length_nil, Nat.zero_add] at h2 h3
    have hi : i < l.length := (List.getElem?_eq_some_iff.1 h1).1
    unfold pickP
    rw [h2]
    exact ⟨by omega, fun e => h3 (.inl e)⟩
theorem spec_l5Pick_j1 (x0 : List (S38)) (x1 : List Int) (x2 : Int) (x3 : Int) (x9 : Int) (x10 : Int) (x30 : Bool) : L (fun k => spec_l5Pick.j1 k x0 x1 x2 x3 x9 x10 x30) = L (fun k => if x30 = true then (spec_l5Pick.l0 k x0 x1 x2 x3 x9 (wrap64 (x10 + 1))) else (if x9 < 0 then (spec_l5Pick.l0 k x0 x1 x2 x3 x10 (wrap64 (x10 + 1))) else (if x3 = 2 then (if 0 ≤ x10 then (if x10 < (x1.length : Int) then (if 0 ≤ x9 then (if x9 < (x1.length : Int) then (if (rd x1 x10) < (rd x1 x9) then (spec_l5Pick.l0 k x0 x1 x2 x3 x10 (wrap64 (x10 + 1))) else (if x3 = 4 then (if x10 < (x0.length : Int) then (if x9 < (x0.length : Int) then (if ((rd_T38 x0 x10).f3) < ((rd_T38 x0 x9).f3) then (spec_l5Pick.l0 k x0 x1 x2 x3 x10 (wrap64 (x10 + 1))) else (spec_l5Pick.l0 k x0 x1 x2 x3 x9 (wrap64 (x10 + 1)))) else (none)) else (none)) else (spec_l5Pick.l0 k x0 x1 x2 x3 x9 (wrap64 (x10 + 1))))) else (none)) else (none)) else (none)) else (none)) else (if x3 = 4 then (if 0 ≤ x10 then (if x10 < (x0.length : Int) then (if 0 ≤ x9 then (if x9 < (x0.length : Int) then (if ((rd_T38 x0 x10).f3) < ((rd_T38 x0 x9).f3) then (spec_l5Pick.l0 k x0 x1 x2 x3 x10 (wrap64 (x10 + 1))) else (spec_l5Pick.l0 k x0 x1 x2 x3 x9 (wrap64 (x10 + 1)))) else (none)) else (none)) else (none)) else (none)) else (spec_l5Pick.l0 k x0 x1 x2 x3 x9 (wrap64 (x10 + 1))))))) := by
  rw [L_shift]
  simp only [spec_l5Pick.j1]
theorem l5Pick_l (l : List S38) (rest : List Int) (now obj : Int) (hobj : obj = 2 ∨ obj = 4) (hrest : rest.length = l.length) (h8 : l.length ≤ 1000) (r : List S38) : ∀ (pre : List S38) (b : Int), l = pre ++ r → (b < 0 ∨ (0 ≤ b ∧ b < (l.length : Int))) →
    L (fun k => spec_l5Pick.l0 k l rest now obj b (pre.length : Int)) = some (pickL l rest now obj b pre.length r) := by
  induction r with
  | nil =>
    intro pre b hl hb
    rw [L_shift]
    subst hl
    simp only [spec_l5Pick.l0, not_lt_end, if_false, L_const, pickL]
  | cons x r ih =>
    intro pre b hl hb
    have hlen : l.length = pre.length + (r.length + 1) := by rw [hl]; simp
    have e : rd_T38 l (pre.length : Int) = x := by rw [hl]; exact getD_mid pre x r _
    have ew : wrap64 ((pre.length : Int) + 1) = ((pre ++ [x]).length : Int) := wrap_mid pre x (by omega)
    have ihs := ih (pre ++ [x]) (pickStep l rest now obj b pre.length x) (by rw [hl]; simp) (by
      rcases pickStep_or l rest now obj b pre.length x with h | ⟨h, _⟩
      · rw [h]; exact hb
      · rw [h]; right; omega)
    have el : (pre ++ [x]).length = pre.length + 1 := by simp
    have key : L (fun k => spec_l5Pick.l0 k l rest now obj b (pre.length : Int)) = L (fun k => spec_l5Pick.l0 k l rest now obj (pickStep l rest now obj b pre.length x) ((pre ++ [x]).length : Int)) := by
      rw [L_shift]
      simp only [spec_l5Pick.l0, if_pos (show (pre.length : Int) < (l.length : Int) by omega), le_nat, if_true, if_pos (show (pre.length : Int) < (rest.length : Int) by omega), e, L_ite, spec_l5Pick_j1, ew]
      by_cases hr0 : rd rest (pre.length : Int) = 0
      · have hp : pickStep l rest now obj b pre.length x = b := if_pos (.inl hr0)
        simp only [if_pos hr0, hp, if_true]
      · rw [if_neg hr0]
        by_cases hrel : x.f2 > now
        · have hp : pickStep l rest now obj b pre.length x = b := if_pos (.inr hrel)
          rw [hp, decide_eq_true hrel]
          simp
        · have hsk : ¬ skipJ rest now pre.length x := fun h => h.elim hr0 hrel
          rw [decide_eq_false hrel]
          simp only [Bool.false_eq_true, if_false]
          unfold pickStep
          rw [if_neg hsk]
          by_cases hb0 : b < 0
          · rw [if_pos hb0, if_pos hb0]
          · rw [if_neg hb0, if_neg hb0]
            have hb1 : 0 ≤ b ∧ b < (l.length : Int) := by omega
            have e3 : rd_T38 l b = jobAt l b := rfl
            rcases hobj with rfl | rfl
            · simp only [if_pos (show (pre.length : Int) < (rest.length : Int) by omega), if_pos hb1.1, if_pos (show b < (rest.length : Int) by omega), if_true]
              by_cases hc : rd rest (pre.length : Int) < rd rest b
              · simp only [if_pos hc]
              · simp only [if_neg hc, if_neg (show ¬ ((2 : Int) = 4) by decide)]
            · simp only [if_neg (show ¬ ((4 : Int) = 2) by decide), if_true, if_pos (show (pre.length : Int) < (l.length : Int) by omega), if_pos hb1.1, if_pos hb1.2, e3]
              by_cases hc : x.f3 < (jobAt l b).f3
              · simp only [if_pos hc]
              · simp only [if_neg hc]
    rw [key, ihs, pickL, el]
theorem l5Pick_L (l : List S38) (rest : List Int) (now obj : Int) (hobj : obj = 2 ∨ obj = 4) (hrest : rest.length = l.length) (h8 : l.length ≤ 1000) : L (fun k => spec_l5Pick.f k l rest now obj) = some (pickP l rest now obj) := by
  have := l5Pick_l l rest now obj hobj hrest h8 l [] (-1) rfl (by omega)
  simpa [spec_l5Pick.f, pickP] using this
theorem impl_choose_j4 (x0 : List (S38)) (x2 : Int) (x8 : List Int) (x9 : List Int) (x10 : Int) (x11 : Int) (x16 : List (S237)) (x17 : Int) (x18 : Int) (x76 : List (S38)) (x77 : Int) (x78 : Int) (x93 : Bool) (x1378000 : Int) (x1378001 : Int) (x1378002 : Int) (x1378003 : Int) : L (fun k => impl_choose.j4 k x0 x2 x8 x9 x10 x11 x16 x17 x18 x76 x77 x78 x93 x1378000 x1378001 x1378002 x1378003) = L (fun k => if x93 = true then (impl_choose.l3 k x0 x2 x8 x9 x10 x11 x16 x17 x76 x77 (wrap64 (x78 + 1))) else (if x17 < 0 then (impl_choose.l3 k x0 x2 x8 x9 x10 x11 x16 x18 x76 x77 (wrap64 (x78 + 1))) else (if x2 = 2 then (if 0 ≤ x18 then (if x18 < (x8.length : Int) then (if 0 ≤ x17 then (if x17 < (x8.length : Int) then (if (rd x8 x18) < (rd x8 x17) then (impl_choose.l3 k x0 x2 x8 x9 x10 x11 x16 x18 x76 x77 (wrap64 (x78 + 1))) else (impl_choose.l3 k x0 x2 x8 x9 x10 x11 x16 x17 x76 x77 (wrap64 (x78 + 1)))) else (none)) else (none)) else (none)) else (none)) else (if 0 ≤ x17 then (if x17 < (x0.length : Int) then (if x1378003 < ((rd_T38 x0 x17).f3) then (impl_choose.l3 k x0 x2 x8 x9 x10 x11 x16 x18 x76 x77 (wrap64 (x78 + 1))) else (impl_choose.l3 k x0 x2 x8 x9 x10 x11 x16 x17 x76 x77 (wrap64 (x78 + 1)))) else (none)) else (none))))) := by
  rw [L_shift]
  simp only [impl_choose.j4]
theorem choose_scan (l : List S38) (rest ends : List Int) (left now obj : Int) (spans : List S237) (hobj : obj = 2 ∨ obj = 4) (hrest : rest.length = l.length) (h8 : l.length ≤ 1000) (r : List S38) : ∀ (pre : List S38) (b : Int), l = pre ++ r → (b < 0 ∨ (0 ≤ b ∧ b < (l.length : Int))) →
    L (fun k => impl_choose.l3 k l obj rest ends left now spans b l (l.length : Int) (pre.length : Int)) = L (fun k => impl_choose.l3 k l obj rest ends left now spans (pickL l rest now obj b pre.length r) l (l.length : Int) (l.length : Int)) := by
  induction r with
  | nil =>
    intro pre b hl hb
    subst hl
    simp only [List.append_nil, pickL]
  | cons x r ih =>
    intro pre b hl hb
    have hlen : l.length = pre.length + (r.length + 1) := by rw [hl]; simp
    have e : rd_T38 l (pre.length : Int) = x := by rw [hl]; exact getD_mid pre x r _
    have ew : wrap64 ((pre.length : Int) + 1) = ((pre ++ [x]).length : Int) := wrap_mid pre x (by omega)
    have ihs := ih (pre ++ [x]) (pickStep l rest now obj b pre.length x) (by rw [hl]; simp) (by
      rcases pickStep_or l rest now obj b pre.length x with h | ⟨h, _⟩
      · rw [h]; exact hb
      · rw [h]; right; omega)
    have el : (pre ++ [x]).length = pre.length + 1 := by simp
    have key : L (fun k => impl_choose.l3 k l obj rest ends left now spans b l (l.length : Int) (pre.length : Int)) = L (fun k => impl_choose.l3 k l obj rest ends left now spans (pickStep l rest now obj b pre.length x) l (l.length : Int) ((pre ++ [x]).length : Int)) := by
      rw [L_shift]
      simp only [impl_choose.l3, if_pos (show (pre.length : Int) < (l.length : Int) by omega), le_nat, if_true, if_pos (show (pre.length : Int) < (rest.length : Int) by omega), e, L_ite, impl_choose_j4, ew]
      by_cases hr0 : rd rest (pre.length : Int) = 0
      · have hp : pickStep l rest now obj b pre.length x = b := if_pos (.inl hr0)
        simp only [if_pos hr0, hp, if_true]
      · rw [if_neg hr0]
        by_cases hrel : x.f2 > now
        · have hp : pickStep l rest now obj b pre.length x = b := if_pos (.inr hrel)
          rw [hp, decide_eq_true hrel]
          simp
        · have hsk : ¬ skipJ rest now pre.length x := fun h => h.elim hr0 hrel
          rw [decide_eq_false hrel]
          simp only [Bool.false_eq_true, if_false]
          unfold pickStep
          rw [if_neg hsk]
          by_cases hb0 : b < 0
          · rw [if_pos hb0, if_pos hb0]
          · rw [if_neg hb0, if_neg hb0]
            have hb1 : 0 ≤ b ∧ b < (l.length : Int) := by omega
            have e3 : rd_T38 l b = jobAt l b := rfl
            rcases hobj with rfl | rfl
            · simp only [if_pos (show (pre.length : Int) < (rest.length : Int) by omega), if_pos hb1.1, if_pos (show b < (rest.length : Int) by omega), if_true]
              by_cases hc : rd rest (pre.length : Int) < rd rest b
              · simp only [if_pos hc]
              · simp only [if_neg hc]
            · simp only [if_neg (show ¬ ((4 : Int) = 2) by decide), if_pos hb1.1, if_pos hb1.2, e3]
              by_cases hc : x.f3 < (jobAt l b).f3
              · simp only [if_pos hc]
              · simp only [if_neg hc]
    rw [key, ihs, pickL, el]
theorem sum_nonneg : ∀ l : List Int, (∀ v ∈ l, 0 ≤ v) → 0 ≤ l.sum
  | [], _ => by simp
  | x :: l, h => by
    have h1 := h x List.mem_cons_self
    have h2 := sum_nonneg l (fun v hv => h v (List.mem_cons_of_mem _ hv))
    rw [List.sum_cons]
    omega
theorem sum_set : ∀ (l : List Int) (i : Nat) (v : Int), i < l.length → (l.set i v).sum = l.sum - l.getD i 0 + v
  | [], i, v, h => by simp at h
  | x :: l, 0, v, h => by
    simp only [List.set_cons_zero, List.sum_cons, List.getD_cons_zero]
    omega
  | x :: l, i + 1, v, h => by
    have := sum_set l i v (by simpa using h)
    simp only [List.set_cons_succ, List.sum_cons, List.getD_cons_succ, this]
    omega
theorem sum_zero : ∀ l : List Int, (∀ i : Nat, i < l.length → l.getD i 0 = 0) → l.sum = 0
  | [], _ => rfl
  | x :: l, h => by
    have h1 := h 0 (by simp)
    have h2 := sum_zero l (fun i hi => by
      have := h (i + 1) (by simpa using hi)
      rwa [List.getD_cons_succ] at this)
    rw [List.getD_cons_zero] at h1
    rw [List.sum_cons, h1, h2]
    rfl
/-- One more step of a job at a time. -/
def spansUp (spans : List S237) (p now : Int) : List S237 :=
  if 0 < spans.length ∧ (spans.getD (spans.length - 1) z237).f0 = p ∧ (spans.getD (spans.length - 1) z237).f2 = now then spans.set (spans.length - 1) ⟨(spans.getD (spans.length - 1) z237).f0, (spans.getD (spans.length - 1) z237).f1, now + 1⟩ else spans ++ [⟨p, now, now + 1⟩]
theorem spansUp_length (spans : List S237) (p now : Int) : (spansUp spans p now).length ≤ spans.length + 1 := by
  unfold spansUp
  split <;> simp
/-- The state of a choice: what is left, and when. -/
structure ChSt (l : List S38) (rest : List Int) (left now : Int) : Prop where
  len : rest.length = l.length
  nn : ∀ v ∈ rest, 0 ≤ v
  sum : left = rest.sum
  now0 : 0 ≤ now
theorem ChSt.pick_neg {l : List S38} {rest : List Int} {left now obj : Int} (hg : Good l) (h : ChSt l rest left now) (hl : 0 < left) (hp : pickP l rest now obj < 0) : now ≤ 499 := by
  refine Classical.byContradiction fun hc => ?_
  have hz : rest.sum = 0 := sum_zero rest (fun i hi => by
    rw [h.len] at hi
    rcases pickP_neg hp i hi with h0 | h0
    · exact h0
    · have hm : l.getD i z38 ∈ l := by
        rw [List.getD_eq_getElem?_getD, List.getElem?_eq_getElem hi]
        exact List.getElem_mem _
      have := (hg.2 _ hm).r1
      omega)
  have := h.sum
  omega
theorem ChSt.step {l : List S38} {rest : List Int} {left now : Int} {p : Int} (h : ChSt l rest left now) (hp0 : 0 ≤ p) (hp1 : p < (l.length : Int)) (hr : rd rest p ≠ 0) : ChSt l (rest.set p.toNat (rd rest p - 1)) (left - 1) (now + 1) ∧ 1 ≤ rd rest p := by
  have hlen := h.len
  have hm : rd rest p ∈ rest := getD_mem (l := rest) (j := p.toNat) (by omega)
  have hn := h.nn _ hm
  have hr1 : 1 ≤ rd rest p := by omega
  refine ⟨⟨by rw [List.length_set, h.len], fun v hv => ?_, ?_, by have := h.now0; omega⟩, hr1⟩
  · rcases List.mem_or_eq_of_mem_set hv with h1 | h1
    · exact h.nn v h1
    · omega
  · rw [sum_set rest p.toNat _ (by omega), h.sum]
    show rest.sum - 1 = rest.sum - rd rest p + (rd rest p - 1)
    omega
theorem choose_spec_step (l : List S38) (rest : List Int) (left now obj : Int) (spans : List S237) (hobj : obj = 2 ∨ obj = 4) (h : ChSt l rest left now) (h8 : l.length ≤ 1000) (hl : 0 < left) (hl2 : left ≤ 100000) (hn : now ≤ 100000) (hs : spans.length ≤ 100000) :
    L (fun k => spec_l5Choose.l1 k l obj spans rest left now) = if pickP l rest now obj < 0 then L (fun k => spec_l5Choose.l1 k l obj spans rest left (now + 1)) else L (fun k => spec_l5Choose.l1 k l obj (spansUp spans (pickP l rest now obj) now) (rest.set (pickP l rest now obj).toNat (rd rest (pickP l rest now obj) - 1)) (left - 1) (now + 1)) := by
  have hlen := h.len
  have hnow := h.now0
  rw [L_shift]
  have ew : wrap64 ((spans.length : Int) - 1) = (spans.length : Int) - 1 := wrap_id (by omega) (by omega)
  have en : wrap64 (now + 1) = now + 1 := wrap_id (by omega) (by omega)
  have elf : wrap64 (left - 1) = left - 1 := wrap_id (by omega) (by omega)
  simp only [spec_l5Choose.l1, if_pos (show left > 0 by omega), L_bind, l5Pick_L l rest now obj hobj h.len h8, Option.bind_some, L_ite, L_const, ew, en, elf]
  by_cases hp : pickP l rest now obj < 0
  · rw [if_pos hp, if_pos hp]
  · rw [if_neg hp, if_neg hp]
    have hp0 : 0 ≤ pickP l rest now obj := by omega
    obtain ⟨hp1, hr⟩ := pickP_pos hp0
    obtain ⟨_, hr1⟩ := h.step hp0 hp1 hr
    have er : wrap64 (rd rest (pickP l rest now obj) - 1) = rd rest (pickP l rest now obj) - 1 := by
      have hle : rd rest (pickP l rest now obj) ≤ rest.sum := by
        have hm := (sum_set rest (pickP l rest now obj).toNat 0 (by omega))
        have h2 := sum_nonneg (rest.set (pickP l rest now obj).toNat 0) (fun v hv => by
          rcases List.mem_or_eq_of_mem_set hv with h1 | h1
          · exact h.nn v h1
          · omega)
        show rest.getD (pickP l rest now obj).toNat 0 ≤ _
        omega
      have := h.sum
      exact wrap_id (by omega) (by omega)
    have e0 : ∀ i : Int, rd_T237 spans i = spans.getD i.toNat z237 := fun _ => rfl
    have e1 : ((spans.length : Int) - 1).toNat = spans.length - 1 := by omega
    simp only [er, e0, e1, if_pos hp0, if_pos (show pickP l rest now obj < (rest.length : Int) by omega), if_pos (show spans.length < 5864062014805 by omega)]
    unfold spansUp
    by_cases hz : 0 < spans.length
    · rw [if_pos (show (spans.length : Int) - 1 ≥ 0 by omega), if_pos (show (0 : Int) ≤ (spans.length : Int) - 1 by omega), if_pos (show (spans.length : Int) - 1 < (spans.length : Int) by omega)]
      by_cases h0 : (spans.getD (spans.length - 1) z237).f0 = pickP l rest now obj
      · rw [if_pos h0]
        by_cases h2 : (spans.getD (spans.length - 1) z237).f2 = now
        · rw [if_pos h2, if_pos (show 0 < spans.length ∧ _ ∧ _ from ⟨hz, h0, h2⟩)]
        · rw [if_neg h2, if_neg (fun hh => h2 hh.2.2)]
      · rw [if_neg h0, if_neg (fun hh => h0 hh.2.1)]
    · rw [if_neg (show ¬ ((spans.length : Int) - 1 ≥ 0) by omega), if_neg (fun hh => hz hh.1)]
theorem choose_impl_step (l : List S38) (rest ends : List Int) (left now obj : Int) (spans : List S237) (hobj : obj = 2 ∨ obj = 4) (h : ChSt l rest left now) (he : ends.length = l.length) (h8 : l.length ≤ 1000) (hl : 0 < left) (hl2 : left ≤ 100000) (hn : now ≤ 100000) (hs : spans.length ≤ 100000) :
    L (fun k => impl_choose.l2 k l obj rest ends left now spans) = if pickP l rest now obj < 0 then L (fun k => impl_choose.l2 k l obj rest ends left (now + 1) spans) else L (fun k => impl_choose.l2 k l obj (rest.set (pickP l rest now obj).toNat (rd rest (pickP l rest now obj) - 1)) (ends.set (pickP l rest now obj).toNat (now + 1)) (left - 1) (now + 1) (spansUp spans (pickP l rest now obj) now)) := by
  have hlen := h.len
  have hnow := h.now0
  have hsc := choose_scan l rest ends left now obj spans hobj h.len h8 l [] (-1) rfl (by omega)
  simp only [List.length_nil, Int.natCast_zero] at hsc
  rw [L_shift]
  simp only [impl_choose.l2, if_pos (show left > 0 by omega), hsc]
  rw [L_shift]
  have ew : wrap64 ((spans.length : Int) - 1) = (spans.length : Int) - 1 := wrap_id (by omega) (by omega)
  have en : wrap64 (now + 1) = now + 1 := wrap_id (by omega) (by omega)
  have elf : wrap64 (left - 1) = left - 1 := wrap_id (by omega) (by omega)
  have epp : pickL l rest now obj (-1) 0 l = pickP l rest now obj := rfl
  simp only [impl_choose.l3, if_neg (show ¬ ((l.length : Int) < (l.length : Int)) by omega), epp, L_ite, L_const, ew, en, elf]
  by_cases hp : pickP l rest now obj < 0
  · rw [if_pos hp, if_pos hp]
  · rw [if_neg hp, if_neg hp]
    have hp0 : 0 ≤ pickP l rest now obj := by omega
    obtain ⟨hp1, hr⟩ := pickP_pos hp0
    obtain ⟨_, hr1⟩ := h.step hp0 hp1 hr
    have er : wrap64 (rd rest (pickP l rest now obj) - 1) = rd rest (pickP l rest now obj) - 1 := by
      have hle : rd rest (pickP l rest now obj) ≤ rest.sum := by
        have hm := (sum_set rest (pickP l rest now obj).toNat 0 (by omega))
        have h2 := sum_nonneg (rest.set (pickP l rest now obj).toNat 0) (fun v hv => by
          rcases List.mem_or_eq_of_mem_set hv with h1 | h1
          · exact h.nn v h1
          · omega)
        show rest.getD (pickP l rest now obj).toNat 0 ≤ _
        omega
      have := h.sum
      exact wrap_id (by omega) (by omega)
    have e0 : ∀ i : Int, rd_T237 spans i = spans.getD i.toNat z237 := fun _ => rfl
    have e1 : ((spans.length : Int) - 1).toNat = spans.length - 1 := by omega
    simp only [er, e0, e1, if_pos hp0, if_pos (show pickP l rest now obj < (rest.length : Int) by omega), if_pos (show pickP l rest now obj < (ends.length : Int) by omega), if_pos (show spans.length < 5864062014805 by omega)]
    unfold spansUp
    by_cases hz : 0 < spans.length
    · rw [if_pos (show (spans.length : Int) - 1 ≥ 0 by omega), if_pos (show (0 : Int) ≤ (spans.length : Int) - 1 by omega), if_pos (show (spans.length : Int) - 1 < (spans.length : Int) by omega)]
      by_cases h0 : (spans.getD (spans.length - 1) z237).f0 = pickP l rest now obj
      · rw [if_pos h0]
        by_cases h2 : (spans.getD (spans.length - 1) z237).f2 = now
        · rw [if_pos h2, if_pos (show 0 < spans.length ∧ _ ∧ _ from ⟨hz, h0, h2⟩), h2, en]
        · rw [if_neg h2, if_neg (fun hh => h2 hh.2.2)]
      · rw [if_neg h0, if_neg (fun hh => h0 hh.2.1)]
    · rw [if_neg (show ¬ ((spans.length : Int) - 1 ≥ 0) by omega), if_neg (fun hh => hz hh.1)]
def timesP (l : List S38) : List Int := l.map (·.f0)
theorem timesP_length (l : List S38) : (timesP l).length = l.length := by simp [timesP]
theorem timesP_sum (l : List S38) : (timesP l).sum = timeSum l := rfl
theorem l5Rests_l (r : List S38) : ∀ (pre : List S38) (out : List Int), (pre ++ r).length < 1000000 → out.length + r.length < 1000000 → L (fun k => spec_l5Rests.l0 k (pre ++ r) out (pre.length : Int)) = some (out ++ timesP r) := by
  induction r with
  | nil =>
    intro pre out hb hc
    rw [L_shift]
    simp only [spec_l5Rests.l0, not_lt_end, if_false, L_const]
    simp [timesP]
  | cons x r ih =>
    intro pre out hb hc
    rw [L_shift]
    have hl : pre.length < 4611686018427387904 := by simp at hb; omega
    simp only [List.length_cons] at hc
    have e : rd_T38 (pre ++ x :: r) (pre.length : Int) = x := getD_mid pre x r _
    simp only [spec_l5Rests.l0, lt_mid, le_nat, if_true, e, wrap_mid pre x hl, if_pos (show out.length < 17592186044416 by omega)]
    rw [app_cons pre x r, ih (pre ++ [x]) _ (by simpa using hb) (by simp; omega)]
    simp [timesP]
theorem l5Rests_L (l : List S38) (h : l.length < 100000) : L (fun k => spec_l5Rests.f k l) = some (timesP l) := by
  have := l5Rests_l l [] [] (by simp; omega) (by simp; omega)
  simpa [spec_l5Rests.f] using this
theorem l5Choose_l (l : List S38) (obj from_ : Int) (r : List Int) (hr : ∀ v ∈ r, 0 ≤ v ∧ v ≤ 1000) : ∀ (pre : List Int) (left : Int), (pre ++ r).length < 100000 → 0 ≤ left → left + 1000 * r.length ≤ 1000000000 →
    L (fun k => spec_l5Choose.l0 k l from_ obj [] (pre ++ r) left (pre.length : Int)) = L (fun k => spec_l5Choose.l1 k l obj [] (pre ++ r) (left + r.sum) from_) := by
  induction r with
  | nil =>
    intro pre left hb h0 h1
    rw [L_shift]
    simp only [spec_l5Choose.l0, not_lt_end, if_false]
    simp
  | cons x r ih =>
    intro pre left hb h0 h1
    rw [L_shift]
    have hl : pre.length < 4611686018427387904 := by simp at hb; omega
    have hx := hr x List.mem_cons_self
    simp only [List.length_cons] at h1
    simp only [spec_l5Choose.l0, lt_mid, le_nat, if_true, rd_mid, wrap_mid pre x hl, wrap_id (show -9223372036854775808 ≤ left + x by omega) (show left + x ≤ 9223372036854775807 by omega)]
    rw [app_cons pre x r, ih (fun v hv => hr v (List.mem_cons_of_mem _ hv)) (pre ++ [x]) _ (by simpa using hb) (by omega) (by omega), List.sum_cons]
    simp only [Int.add_assoc]
theorem l5Choose_L (l : List S38) (obj from_ : Int) (rest : List Int) (hr : ∀ v ∈ rest, 0 ≤ v ∧ v ≤ 1000) (h : rest.length < 1000) : L (fun k => spec_l5Choose.f k l rest from_ obj) = L (fun k => spec_l5Choose.l1 k l obj [] rest rest.sum from_) := by
  have := l5Choose_l l obj from_ rest hr [] 0 (by simp; omega) (by omega) (by omega)
  simp only [List.nil_append, List.length_nil, Int.natCast_zero, Int.zero_add] at this
  simp only [spec_l5Choose.f, l1Own_e rest (by omega), Option.bind_some, this]
theorem szIntS_e (l : List Int) (v : Int) (h : l.length ≤ 9223372036854775807) (h0 : 0 ≤ v) (h1 : v ≤ 1048576) : laws_szIntS.f l v = some (if (l.length : Int) ≤ v then v - (l.length : Int) else -1) := by
  unfold laws_szIntS.f
  rw [wrap_id (show -9223372036854775808 ≤ v - (l.length : Int) by omega) (by omega)]
  by_cases h2 : (l.length : Int) ≤ v
  · rw [if_neg (by omega), if_pos h2]
  · rw [if_pos (by omega), if_neg h2]
/-- Rising from y on. -/
def riseB : Int → List Int → Bool
  | _, [] => true
  | y, x :: r => decide (y < x) && riseB x r
def risesB : List Int → Bool
  | [] => true
  | x :: r => riseB x r
/-- A set of numbers of n things. -/
def setB (n : Nat) (l : List Int) : Bool := risesB l && l.all (fun x => inB x 0 ((n : Int) - 1))
theorem last_idx {α : Type} (pre : List α) (y : α) (h : pre.length < 4611686018427387904) : wrap64 (((pre ++ [y]).length : Int) - 1) = (pre.length : Int) := by
  have e : ((pre ++ [y]).length : Int) = (pre.length : Int) + 1 := by simp
  rw [e, wrap_id (by omega) (by omega)]
  omega
theorem app_two {α : Type} (pre : List α) (y x : α) (r : List α) : pre ++ [y] ++ x :: r = pre ++ y :: x :: r := by simp
theorem lt_mid2 {α : Type} (pre : List α) (x y : α) (r : List α) : ((pre.length : Int) < ((pre ++ [x] ++ y :: r).length : Int)) = True := eq_true (by simp only [List.length_append, List.length_cons, List.length_nil]; omega)
def lessF : List Int → List Int → Bool
  | x :: a, y :: b => if x = y then lessF a b else decide (x < y)
  | _, _ => false
/-- Shorter ones first; those of one length by their first different number. -/
def lessB (a b : List Int) : Bool := if a.length = b.length then lessF a b else decide (a.length < b.length)
theorem rd_at {p q : List Int} (hp : p.length = q.length) (y : Int) (b : List Int) : rd (q ++ y :: b) (p.length : Int) = y := by
  rw [hp]
  exact rd_mid q y b
theorem lt_at {p q : List Int} (hp : p.length = q.length) (y : Int) (b : List Int) : ((p.length : Int) < ((q ++ y :: b).length : Int)) = True := by
  rw [hp]
  exact lt_mid q y b
/-- The ends that spans tell, put over E. -/
def replay (E : List Int) (S : List S237) : List Int := S.foldl (fun e s => e.set s.f0.toNat s.f2) E
theorem replay_length (S : List S237) : ∀ E : List Int, (replay E S).length = E.length := by
  induction S with
  | nil => intro E; rfl
  | cons s S ih =>
    intro E
    show (replay (E.set s.f0.toNat s.f2) S).length = E.length
    rw [ih, List.length_set]
theorem replay_up (E : List Int) (spans : List S237) (p now : Int) : replay E (spansUp spans p now) = (replay E spans).set p.toNat (now + 1) := by
  unfold spansUp
  rcases List.eq_nil_or_concat spans with rfl | ⟨S, s, rfl⟩
  · rw [if_neg (by simp)]
    rfl
  · have e1 : (S ++ [s]).length - 1 = S.length := by simp
    have e2 : (S ++ [s]).getD S.length z237 = s := by simp [List.getD_eq_getElem?_getD]
    simp only [List.concat_eq_append, e1, e2]
    by_cases h : 0 < (S ++ [s]).length ∧ s.f0 = p ∧ s.f2 = now
    · rw [if_pos h]
      have e3 : (S ++ [s]).set S.length ⟨s.f0, s.f1, now + 1⟩ = S ++ [⟨s.f0, s.f1, now + 1⟩] := by
        rw [List.set_append_right _ _ (Nat.le_refl _)]
        simp
      rw [e3]
      simp only [replay, List.foldl_append, List.foldl_cons, List.foldl_nil, h.2.1, List.set_set]
    · rw [if_neg h]
      simp only [replay, List.foldl_append, List.foldl_cons, List.foldl_nil]
theorem spansUp_mem {spans : List S237} {p now : Int} {n : Int} (hp : 0 ≤ p ∧ p < n) (h : ∀ s ∈ spans, 0 ≤ s.f0 ∧ s.f0 < n) : ∀ s ∈ spansUp spans p now, 0 ≤ s.f0 ∧ s.f0 < n := by
  intro s hs
  unfold spansUp at hs
  split at hs
  · rename_i hc
    rcases List.mem_or_eq_of_mem_set hs with h1 | h1
    · exact h s h1
    · rw [h1]
      have e : (spans.getD (spans.length - 1) z237) ∈ spans := by
        rw [List.getD_eq_getElem?_getD, List.getElem?_eq_getElem (by omega)]
        exact List.getElem_mem _
      exact h (spans.getD (spans.length - 1) z237) e
  · rcases List.mem_append.1 hs with h1 | h1
    · exact h s h1
    · rw [List.mem_singleton.1 h1]
      exact hp
theorem choose_replay (l : List S38) (obj : Int) (hobj : obj = 2 ∨ obj = 4) (hg : Good l) (E0 : List Int) (hE0 : E0.length = l.length) : ∀ (m : Nat) (rest : List Int) (left now : Int) (spans : List S237), ChSt l rest left now → left.toNat + (501 - now).toNat ≤ m → now + left ≤ 900 → left ≤ 400 → spans.length + m ≤ 50000 →
    (∀ e ∈ replay E0 spans, 0 ≤ e ∧ e ≤ 900) → (∀ s ∈ spans, 0 ≤ s.f0 ∧ s.f0 < (l.length : Int)) →
    ∃ S : List S237, L (fun k => spec_l5Choose.l1 k l obj spans rest left now) = some S ∧ L (fun k => impl_choose.l2 k l obj rest (replay E0 spans) left now spans) = some (S, replay E0 S) ∧ (∀ e ∈ replay E0 S, 0 ≤ e ∧ e ≤ 900) ∧ (∀ s ∈ S, 0 ≤ s.f0 ∧ s.f0 < (l.length : Int)) ∧ S.length ≤ spans.length + m := by
  have h8 := hg.1
  intro m
  induction m with
  | zero =>
    intro rest left now spans h hm hn hl hs hE hf
    refine ⟨spans, ?_, ?_, hE, hf, by omega⟩
    · rw [L_shift]
      simp only [spec_l5Choose.l1, if_neg (show ¬ (left > 0) by omega), L_const]
    · rw [L_shift]
      simp only [impl_choose.l2, if_neg (show ¬ (left > 0) by omega), L_const]
  | succ m ih =>
    intro rest left now spans h hm hn hl hs hE hf
    by_cases hl0 : 0 < left
    · have hnow := h.now0
      rw [choose_spec_step l rest left now obj spans hobj h (by omega) hl0 (by omega) (by omega) (by omega), choose_impl_step l rest _ left now obj spans hobj h (by rw [replay_length, hE0]) (by omega) hl0 (by omega) (by omega) (by omega)]
      by_cases hp : pickP l rest now obj < 0
      · have h499 := h.pick_neg hg hl0 hp
        simp only [if_pos hp]
        obtain ⟨S, h1, h2, h3, h4, h5⟩ := ih rest left (now + 1) spans ⟨h.len, h.nn, h.sum, by omega⟩ (by omega) (by omega) (by omega) (by omega) hE hf
        exact ⟨S, h1, h2, h3, h4, by omega⟩
      · simp only [if_neg hp]
        have hp0 : 0 ≤ pickP l rest now obj := by omega
        obtain ⟨hp1, hr⟩ := pickP_pos hp0
        obtain ⟨hst, _⟩ := h.step hp0 hp1 hr
        have hsl := spansUp_length spans (pickP l rest now obj) now
        have hup := replay_up E0 spans (pickP l rest now obj) now
        obtain ⟨S, h1, h2, h3, h4, h5⟩ := ih _ (left - 1) (now + 1) (spansUp spans (pickP l rest now obj) now) hst (by omega) (by omega) (by omega) (by omega) (fun e hem => by
          rw [hup] at hem
          rcases List.mem_or_eq_of_mem_set hem with h1 | h1
          · exact hE e h1
          · omega) (spansUp_mem ⟨hp0, hp1⟩ hf)
        rw [← hup]
        exact ⟨S, h1, h2, h3, h4, by omega⟩
    · refine ⟨spans, ?_, ?_, hE, hf, by omega⟩
      · rw [L_shift]
        simp only [spec_l5Choose.l1, if_neg (show ¬ (left > 0) by omega), L_const]
      · rw [L_shift]
        simp only [impl_choose.l2, if_neg (show ¬ (left > 0) by omega), L_const]
/-- What is left behind a beginning of an order, and the time. -/
def zeroF (r : List Int) (rest : List Int) : List Int := r.foldl (fun v x => v.set x.toNat 0) rest
def nowF (l : List S38) : List Int → Int → Int
  | [], now => now
  | x :: r, now => nowF l r (max now (jobAt l x).f2 + (jobAt l x).f0)
theorem zeroF_length (r : List Int) : ∀ v : List Int, (zeroF r v).length = v.length := by
  induction r with
  | nil => intro v; rfl
  | cons x r ih =>
    intro v
    show (zeroF r (v.set x.toNat 0)).length = v.length
    rw [ih, List.length_set]
theorem prefix_bd (l : List S38) (hg : Good l) : ∀ (r rest : List Int) (now : Int), r.Nodup → (∀ x ∈ r, 0 ≤ x ∧ x < (l.length : Int)) → rest.length = l.length → (∀ x ∈ r, rest.getD x.toNat 0 = (jobAt l x).f0) → (∀ v ∈ rest, 0 ≤ v) → 0 ≤ now → now + rest.sum ≤ 900 → rest.sum ≤ 400 →
    0 ≤ nowF l r now ∧ nowF l r now + (zeroF r rest).sum ≤ 900 ∧ (zeroF r rest).sum ≤ 400 ∧ ∀ v ∈ zeroF r rest, 0 ≤ v
  | [], rest, now, _, _, _, _, hn, h0, h1, h2 => ⟨h0, h1, h2, hn⟩
  | x :: r, rest, now, hnd, hx, hl, ht, hn, h0, h1, h2 => by
    obtain ⟨hxr, hnd'⟩ := List.nodup_cons.1 hnd
    have hx0 := hx x List.mem_cons_self
    have ht0 := ht x List.mem_cons_self
    have hj := hg.2 _ (jobAt_mem hx0.1 hx0.2)
    have t0 := hj.t0
    have t1 := hj.t1
    have r0 := hj.r0
    have r1 := hj.r1
    have hs := sum_set rest x.toNat 0 (by omega)
    exact prefix_bd l hg r (rest.set x.toNat 0) (max now (jobAt l x).f2 + (jobAt l x).f0) hnd' (fun y hy => hx y (List.mem_cons_of_mem _ hy)) (by rw [List.length_set, hl]) (fun y hy => by
      have hy0 := hx y (List.mem_cons_of_mem _ hy)
      rw [getD_set, if_neg (fun hc => hxr (by
        have : x = y := by omega
        rw [this]
        exact hy))]
      exact ht y (List.mem_cons_of_mem _ hy)) (fun v hv => by
      rcases List.mem_or_eq_of_mem_set hv with h3 | h3
      · exact hn v h3
      · omega) (by omega) (by omega) (by omega)
theorem zeroF_getD (r : List Int) : ∀ (v : List Int), (∀ x ∈ r, 0 ≤ x) → ∀ j : Nat, (zeroF r v).getD j 0 = if (j : Int) ∈ r then 0 else v.getD j 0 := by
  induction r with
  | nil => intro v _ j; simp [zeroF]
  | cons x r ih =>
    intro v hx j
    have h := ih (v.set x.toNat 0) (fun y hy => hx y (List.mem_cons_of_mem _ hy)) j
    show (zeroF r (v.set x.toNat 0)).getD j 0 = _
    rw [h]
    have hx0 := hx x List.mem_cons_self
    by_cases hj : (j : Int) ∈ r
    · rw [if_pos hj, if_pos (List.mem_cons_of_mem _ hj)]
    · rw [if_neg hj, getD_set]
      by_cases e : x.toNat = j
      · rw [if_pos (show (j : Int) ∈ x :: r by rw [List.mem_cons]; left; omega)]
        by_cases h3 : j < v.length
        · rw [if_pos ⟨e, h3⟩]
        · rw [if_neg (fun hc => h3 hc.2), List.getD_eq_getElem?_getD, List.getElem?_eq_none (by omega)]
          rfl
      · rw [if_neg (fun hc => e hc.1), if_neg]
        rw [List.mem_cons]
        rintro (h3 | h3)
        · omega
        · exact hj h3
theorem l5Bound_l (l : List S38) (hg : Good l) (obj : Int) (r : List Int) (hx : ∀ x ∈ r, 0 ≤ x ∧ x < (l.length : Int)) : ∀ (pre rest E : List Int) (now : Int), (pre ++ r).length < 4611686018427387904 → E.length = l.length → rest.length = l.length → 0 ≤ now → now + 50 * r.length ≤ 900 → r.length ≤ 8 →
    L (fun k => spec_l5Bound.l0 k l (pre ++ r) obj rest now E (pre.length : Int)) = (L (fun k => spec_l5Choose.f k l (zeroF r rest) (nowF l r now) obj)).bind (fun S => L (fun k => spec_l5Bound.l1 k l obj (endsF l r E now) S 0)) := by
  induction r with
  | nil =>
    intro pre rest E now hb hE hr h0 h1 h2
    rw [L_shift]
    simp only [spec_l5Bound.l0, not_lt_end, if_false, L_bind]
    rfl
  | cons x r ih =>
    intro pre rest E now hb hE hr h0 h1 h2
    rw [L_shift]
    have hl : pre.length < 4611686018427387904 := by simp at hb; omega
    have hx0 := hx x List.mem_cons_self
    have hj := hg.2 _ (jobAt_mem hx0.1 hx0.2)
    have t0 := hj.t0
    have t1 := hj.t1
    have r0 := hj.r0
    have r1 := hj.r1
    simp only [List.length_cons] at h1 h2
    have e : rd_T38 l x = jobAt l x := rfl
    simp only [spec_l5Bound.l0, lt_mid, le_nat, if_true, rd_mid, e, if_pos hx0.1, if_pos hx0.2, l1Most_e, Option.bind_some, hE, hr, wrap_mid pre x hl, wrap_id (show -9223372036854775808 ≤ max now (jobAt l x).f2 + (jobAt l x).f0 by omega) (by omega)]
    rw [app_cons pre x r, ih (fun y hy => hx y (List.mem_cons_of_mem _ hy)) (pre ++ [x]) _ _ _ (by simpa using hb) (by rw [List.length_set, hE]) (by rw [List.length_set, hr]) (by omega) (by omega) (by omega)]
    rfl
theorem l5Bound_s (l : List S38) (obj : Int) (r : List S237) : ∀ (pre : List S237) (E : List Int), (pre ++ r).length < 4611686018427387904 → (∀ s ∈ r, 0 ≤ s.f0 ∧ s.f0 < (E.length : Int)) →
    L (fun k => spec_l5Bound.l1 k l obj E (pre ++ r) (pre.length : Int)) = L (fun k => spec_l2Of.f k l (replay E r) obj) := by
  induction r with
  | nil =>
    intro pre E hb hr
    rw [L_shift]
    simp only [spec_l5Bound.l1, not_lt_end, if_false, bind_self]
    rfl
  | cons x r ih =>
    intro pre E hb hr
    rw [L_shift]
    have hl : pre.length < 4611686018427387904 := by simp at hb; omega
    have hx := hr x List.mem_cons_self
    have e : rd_T237 (pre ++ x :: r) (pre.length : Int) = x := getD_mid pre x r _
    simp only [spec_l5Bound.l1, lt_mid, le_nat, if_true, e, if_pos hx.1, if_pos hx.2, wrap_mid pre x hl]
    rw [app_cons pre x r, ih (pre ++ [x]) _ (by simpa using hb) (fun s hs => by rw [List.length_set]; exact hr s (List.mem_cons_of_mem _ hs))]
    rfl
theorem choose_pre (l : List S38) (hg : Good l) (obj left : Int) (rest : List Int) (r : List Int) (hx : ∀ x ∈ r, 0 ≤ x ∧ x < (l.length : Int)) : ∀ (pre E : List Int) (now : Int), (pre ++ r).length < 4611686018427387904 → E.length = l.length → 0 ≤ now → now + 50 * r.length ≤ 900 → r.length ≤ 8 →
    L (fun k => impl_choose.l1 k l obj rest E left now (pre ++ r) ((pre ++ r).length : Int) (pre.length : Int)) = L (fun k => impl_choose.l2 k l obj rest (endsF l r E now) left (nowF l r now) []) := by
  induction r with
  | nil =>
    intro pre E now hb hE h0 h1 h2
    rw [L_shift]
    simp only [impl_choose.l1, not_lt_end, if_false]
    rfl
  | cons x r ih =>
    intro pre E now hb hE h0 h1 h2
    rw [L_shift]
    have hl : pre.length < 4611686018427387904 := by simp at hb; omega
    have hx0 := hx x List.mem_cons_self
    have hj := hg.2 _ (jobAt_mem hx0.1 hx0.2)
    have t0 := hj.t0
    have t1 := hj.t1
    have r0 := hj.r0
    have r1 := hj.r1
    simp only [List.length_cons] at h1 h2
    have e : rd_T38 l x = jobAt l x := rfl
    simp only [impl_choose.l1, lt_mid, le_nat, if_true, rd_mid, e, if_pos hx0.1, if_pos hx0.2, mx_e, hE, wrap_mid pre x hl, wrap_id (show -9223372036854775808 ≤ max now (jobAt l x).f2 + (jobAt l x).f0 by omega) (by omega)]
    rw [app_cons pre x r, ih (fun y hy => hx y (List.mem_cons_of_mem _ hy)) (pre ++ [x]) _ _ (by simpa using hb) (by rw [List.length_set, hE]) (by omega) (by omega) (by omega)]
    rfl
/-- The times of those that are not in s, by their numbers from i on. -/
def restF (s : List Int) : Nat → List S38 → List Int
  | _, [] => []
  | i, x :: r => (if (i : Int) ∈ s then 0 else x.f0) :: restF s (i + 1) r
theorem restF_length (s : List Int) : ∀ (r : List S38) (i : Nat), (restF s i r).length = r.length
  | [], i => rfl
  | x :: r, i => by simp [restF, restF_length s r]
theorem restF_getD (s : List Int) : ∀ (r : List S38) (i j : Nat), j < r.length → (restF s i r).getD j 0 = if ((i + j : Nat) : Int) ∈ s then 0 else (timesP r).getD j 0
  | [], i, j, h => by simp at h
  | x :: r, i, 0, h => by simp [restF, timesP]
  | x :: r, i, j + 1, h => by
    have := restF_getD s r (i + 1) j (by simpa using h)
    rw [restF, List.getD_cons_succ, this]
    have e : i + 1 + j = i + (j + 1) := by omega
    rw [e]
    simp [timesP]
theorem restF_append (s : List Int) : ∀ (a b : List S38) (i : Nat), restF s i (a ++ b) = restF s i a ++ restF s (i + a.length) b
  | [], b, i => by simp [restF]
  | x :: a, b, i => by
    rw [List.cons_append, restF, restF, restF_append s a b (i + 1), List.cons_append]
    have e : i + 1 + a.length = i + (x :: a).length := by simp; omega
    rw [e]
theorem restF_bd (s : List Int) : ∀ (r : List S38) (i : Nat), (∀ j ∈ r, JobOk j) → ∀ v ∈ restF s i r, 0 ≤ v ∧ v ≤ 50
  | [], i, _, v, hv => by cases hv
  | x :: r, i, h, v, hv => by
    rw [restF] at hv
    rcases List.mem_cons.1 hv with rfl | hv
    · have := (h x List.mem_cons_self).t0
      have := (h x List.mem_cons_self).t1
      by_cases hc : (i : Int) ∈ s
      · rw [if_pos hc]; omega
      · rw [if_neg hc]; omega
    · exact restF_bd s r (i + 1) (fun j hj => h j (List.mem_cons_of_mem _ hj)) v hv
theorem choose_l0 (l : List S38) (s : List Int) (hs : s.length < 4611686018427387904) (obj : Int) (ends : List Int) (r : List S38) (hr : ∀ j ∈ r, JobOk j) : ∀ (pre : List S38) (left : Int), (pre ++ r).length < 100000 → 0 ≤ left → left + 50 * r.length ≤ 1000000000 →
    L (fun k => impl_choose.l0 k l s obj (restF s 0 pre ++ List.replicate r.length 0) ends left 0 (pre ++ r) ((pre ++ r).length : Int) (pre.length : Int)) = L (fun k => impl_choose.l1 k l obj (restF s 0 (pre ++ r)) ends (left + (restF s pre.length r).sum) 0 s (s.length : Int) 0) := by
  induction r with
  | nil =>
    intro pre left hb h0 h1
    rw [L_shift]
    simp only [impl_choose.l0, not_lt_end, if_false]
    simp [restF]
  | cons x r ih =>
    intro pre left hb h0 h1
    rw [L_shift]
    have hl : pre.length < 4611686018427387904 := by simp at hb; omega
    have hx := hr x List.mem_cons_self
    have t0 := hx.t0
    have t1 := hx.t1
    simp only [List.length_cons] at h1
    have e : rd_T38 (pre ++ x :: r) (pre.length : Int) = x := getD_mid pre x r _
    have e2 : ((pre.length : Int) < ((restF s 0 pre ++ 0 :: List.replicate r.length 0).length : Int)) = True := by
      simp only [List.length_append, List.length_cons, restF_length]
      exact eq_true (by omega)
    simp only [impl_choose.l0, lt_mid, le_nat, if_true, L_bind, has_L s _ hs, Option.bind_some, rep_succ, e, e2, wrap_mid pre x hl, set_mid (restF s 0 pre) _ _ _ pre (restF_length s pre 0).symm, wrap_id (show -9223372036854775808 ≤ left + x.f0 by omega) (show left + x.f0 ≤ 9223372036854775807 by omega), L_ite, decide_eq_true_eq]
    have e3 : restF s 0 (pre ++ [x]) = restF s 0 pre ++ [if (pre.length : Int) ∈ s then 0 else x.f0] := by
      rw [restF_append, Nat.zero_add]
      rfl
    by_cases hc : (pre.length : Int) ∈ s
    · rw [if_pos hc]
      have := ih (fun j hj => hr j (List.mem_cons_of_mem _ hj)) (pre ++ [x]) left (by simpa using hb) (by omega) (by omega)
      rw [e3, if_pos hc] at this
      rw [app_cons pre x r, app_cons (restF s 0 pre) 0, this, restF, if_pos hc, List.sum_cons, Int.zero_add, List.length_append]
      rfl
    · rw [if_neg hc]
      have := ih (fun j hj => hr j (List.mem_cons_of_mem _ hj)) (pre ++ [x]) (left + x.f0) (by simpa using hb) (by omega) (by omega)
      rw [e3, if_neg hc] at this
      rw [app_cons pre x r, app_cons (restF s 0 pre) x.f0, this, restF, if_neg hc, List.sum_cons, Int.add_assoc, List.length_append]
      rfl
theorem restF_zeroF (l : List S38) (s : List Int) (hs : ∀ x ∈ s, 0 ≤ x) : restF s 0 l = zeroF s (timesP l) := by
  apply ext_getD
  · rw [restF_length, zeroF_length, timesP_length]
  · intro j hj
    rw [restF_length] at hj
    rw [restF_getD s l 0 j hj, zeroF_getD s _ hs, Nat.zero_add]
theorem IsPre.len {n : Nat} {s : List Int} (hd : diffB (n : Int) [] s = true) : (∀ x ∈ s, 0 ≤ x ∧ x < n) ∧ s.Nodup ∧ s.length ≤ n := by
  obtain ⟨h1, h2, _⟩ := (diffB_iff (n : Int) s []).1 hd
  refine ⟨h1, h2, ?_⟩
  refine Classical.byContradiction fun hc => ?_
  have hp := perm_of s (numsTo n) h2 (fun x hx => mem_numsTo.2 (h1 x hx)) (by rw [numsTo_length]; omega)
  have := hp.length_eq
  rw [numsTo_length] at this
  omega
/-- The bound of a beginning: both tell one. -/
theorem bound_both (l : List S38) (hg : Good l) (s : List Int) (hd : diffB (l.length : Int) [] s = true) (obj : Int) (hobj : obj = 2 ∨ obj = 4) : ∃ R : Int, L (fun k => spec_l5Bound.f k l s obj) = some R ∧ L (fun k => impl_prefixBound.f k l s obj) = some R := by
  have h8 := hg.1
  obtain ⟨hx, hnd, hsl⟩ := IsPre.len hd
  have hx0 : ∀ x ∈ s, 0 ≤ x := fun x h => (hx x h).1
  have ht := timeSum_bounds l hg.2
  have htb : ∀ v ∈ timesP l, 0 ≤ v ∧ v ≤ 50 := by
    intro v hv
    obtain ⟨j, hj, rfl⟩ := List.mem_map.1 hv
    have := (hg.2 j hj).t0
    have := (hg.2 j hj).t1
    omega
  have hts := timesP_sum l
  obtain ⟨b0, b1, b2, b3⟩ := prefix_bd l hg s (timesP l) 0 hnd hx (timesP_length l) (fun x h => by
    have := hx x h
    unfold timesP jobAt
    rw [List.getD_eq_getElem?_getD, List.getD_eq_getElem?_getD, List.getElem?_map, List.getElem?_eq_getElem (by omega)]
    rfl) (fun v hv => (htb v hv).1) (Int.le_refl _) (by omega) (by omega)
  have hE0 : (List.replicate l.length (0 : Int)).length = l.length := by simp
  have hEl : (endsF l s (List.replicate l.length 0) 0).length = l.length := by rw [endsF_length, hE0]
  have hEb := ends_bounds l hg s (List.replicate l.length 0) 0 (Int.le_refl _) (by omega) (by omega) hx (fun v hv => by rw [(List.mem_replicate.1 hv).2]; omega)
  have hzl : (zeroF s (timesP l)).length = l.length := by rw [zeroF_length, timesP_length]
  obtain ⟨S, h1, h2, h3, h4, h5⟩ := choose_replay l obj hobj hg _ hEl 2000 (zeroF s (timesP l)) (zeroF s (timesP l)).sum (nowF l s 0) [] ⟨hzl, b3, rfl, b0⟩ (by omega) (by omega) (by omega) (by simp) hEb (by simp)
  have hrl : (replay (endsF l s (List.replicate l.length 0) 0) S).length = l.length := by rw [replay_length, hEl]
  have hO : objB obj = true := by rw [objB_iff]; omega
  have hzb : ∀ v ∈ zeroF s (timesP l), 0 ≤ v ∧ v ≤ 1000 := by
    rw [← restF_zeroF l s hx0]
    intro v hv
    have := restF_bd s l 0 hg.2 v hv
    omega
  refine ⟨valP obj l (replay (endsF l s (List.replicate l.length 0) 0) S), ?_, ?_⟩
  · have hA := l5Bound_l l hg obj s hx [] (timesP l) (List.replicate l.length 0) 0 (by simp; omega) hE0 (timesP_length l) (Int.le_refl _) (by omega) (by omega)
    have hB := l5Bound_s l obj S [] (endsF l s (List.replicate l.length 0) 0) (by simp at h5 ⊢; omega) (by rw [hEl]; exact h4)
    simp only [List.nil_append, List.length_nil, Int.natCast_zero] at hA hB
    simp only [spec_l5Bound.f, L_bind, L_ite, L_const, l5Rests_L l (by omega), Option.bind_some, le_nat, if_true, Int.toNat_natCast, if_pos (show l.length ≤ 35184372088832 by omega), hA, l5Choose_L l obj _ _ hzb (by omega), h1, hB]
    exact l2Of_L l hg _ hrl (fun e he => by have := h3 e he; omega) obj hO
  · have hA := choose_l0 l s (by omega) obj (List.replicate l.length 0) l hg.2 [] 0 (by simp; omega) (Int.le_refl _) (by omega)
    have hB := choose_pre l hg obj (zeroF s (timesP l)).sum (zeroF s (timesP l)) s hx [] (List.replicate l.length 0) 0 (by simp; omega) hE0 (Int.le_refl _) (by omega) (by omega)
    simp only [List.nil_append, List.length_nil, Int.natCast_zero, Int.zero_add, restF_zeroF l s hx0] at hA hB
    have e0 : restF s 0 [] = [] := rfl
    rw [e0] at hA
    simp only [List.nil_append] at hA
    have hR : replay (endsF l s (List.replicate l.length 0) 0) [] = endsF l s (List.replicate l.length 0) 0 := rfl
    rw [hR] at h2
    have hC : L (fun k => impl_choose.f k l s obj) = some (S, replay (endsF l s (List.replicate l.length 0) 0) S) := by
      simp only [impl_choose.f, le_nat, if_true, Int.toNat_natCast, if_pos (show l.length ≤ 35184372088832 by omega), hA, hB, h2]
    simp only [impl_prefixBound.f, L_bind, hC, Option.bind_some, bind_self]
    exact valueOfEnds_L l hg _ hrl (fun e he => by have := h3 e he; omega) obj
theorem l5Prefix_l (l : List S38) (hn : l.length ≤ 1048576) (r : List Int) : ∀ pre : List Int, (pre ++ r).length < 4611686018427387904 → L (fun k => spec_l5Prefix.l0 k l (pre ++ r) (pre.length : Int)) = some (diffB (l.length : Int) pre r) := by
  induction r with
  | nil =>
    intro pre hb
    rw [L_shift]
    simp only [spec_l5Prefix.l0, not_lt_end, if_false, L_const]
    simp [diffB]
  | cons x r ih =>
    intro pre hb
    rw [L_shift]
    have hl : pre.length < 4611686018427387904 := by simp at hb; omega
    have e : ((pre.length : Int) ≤ ((pre ++ x :: r).length : Int)) = True := eq_true (by simp; omega)
    simp only [spec_l5Prefix.l0, spec_l3Job.f, lt_mid, le_nat, if_true, rd_mid, wrap_mid pre x hl, wrap_id (show -9223372036854775808 ≤ (l.length : Int) - 1 by omega) (by omega), l1In_e, Option.bind_some, e, take_mid, L_ite, L_bind, l1Has_L pre x hl, L_const]
    rw [app_cons pre x r, ih (pre ++ [x]) (by simpa using hb), ite_not_and, ite_and]
    rfl
theorem l5Prefix_L (l : List S38) (s : List Int) (hn : l.length ≤ 1048576) (hs : s.length ≤ 1048576) : L (fun k => spec_l5Prefix.f k l s) = some (diffB (l.length : Int) [] s) := l5Prefix_l l hn s [] (by simp; omega)
theorem szIntSS_l (r : List (List Int)) : ∀ (pre : List (List Int)) (v : Int), (pre ++ r).length < 4611686018427387904 → 0 ≤ v → v ≤ 1048576 → (∀ x ∈ r, x.length ≤ 9223372036854775807) →
    ∃ t, L (fun k => laws_szIntSS.l0 k (pre ++ r) v (pre.length : Int)) = some t ∧ (t < 0 ∨ 0 ≤ t ∧ ∀ x ∈ r, x.length ≤ 1048576) := by
  induction r with
  | nil =>
    intro pre v hb h0 h1 hr
    rw [L_shift]
    simp only [laws_szIntSS.l0, not_lt_end, if_false, L_const]
    exact ⟨v, rfl, .inr ⟨h0, by simp⟩⟩
  | cons x r ih =>
    intro pre v hb h0 h1 hr
    rw [L_shift]
    have hl : pre.length < 4611686018427387904 := by simp at hb; omega
    have e : rd_L5 (pre ++ x :: r) (pre.length : Int) = x := getD_mid pre x r _
    simp only [laws_szIntSS.l0, lt_mid, le_nat, if_true, e, wrap_mid pre x hl, szIntS_e x v (hr x List.mem_cons_self) h0 h1, Option.bind_some, L_ite, L_const]
    by_cases h2 : (x.length : Int) ≤ v
    · rw [if_pos h2, if_neg (by omega), app_cons pre x r]
      obtain ⟨t, ht, hd⟩ := ih (pre ++ [x]) (v - (x.length : Int)) (by simpa using hb) (by omega) (by omega) (fun y hy => hr y (List.mem_cons_of_mem _ hy))
      refine ⟨t, ht, hd.imp id (fun hd => ⟨hd.1, ?_⟩)⟩
      intro y hy
      rcases List.mem_cons.1 hy with rfl | hy
      · omega
      · exact hd.2 y hy
    · rw [if_neg h2, if_pos (by omega)]
      exact ⟨-1, rfl, .inl (by omega)⟩
theorem szIntSS_L (l : List (List Int)) (v : Int) (h0 : 0 ≤ v) (h1 : v ≤ 1048576) (hl : l.length ≤ 9223372036854775807) (hr : ∀ x ∈ l, x.length ≤ 9223372036854775807) :
    ∃ t, L (fun k => laws_szIntSS.f k l v) = some t ∧ (t < 0 ∨ 0 ≤ t ∧ l.length ≤ 1048576 ∧ ∀ x ∈ l, x.length ≤ 1048576) := by
  simp only [laws_szIntSS.f]
  rw [wrap_id (show -9223372036854775808 ≤ v - (l.length : Int) by omega) (by omega)]
  by_cases h : v - (l.length : Int) < 0
  · simp only [if_pos h, L_const]
    exact ⟨-1, rfl, .inl (by omega)⟩
  · simp only [if_neg h]
    obtain ⟨t, ht, hd⟩ := szIntSS_l l [] (v - (l.length : Int)) (by simp; omega) (by omega) (by omega) hr
    exact ⟨t, ht, hd.imp id (fun hd => ⟨hd.1, by omega, hd.2⟩)⟩
theorem toIntSS_l (r : List (List Int)) : ∀ pre : List (List Int), (pre ++ r).length < 4611686018427387904 → (∀ x ∈ r, x.length ≤ 1048576) → L (fun k => laws_toIntSS.l0 k (pre ++ r) (pre ++ List.replicate r.length []) (pre.length : Int)) = some (pre ++ r) := by
  induction r with
  | nil =>
    intro pre hb hr
    rw [L_shift]
    simp only [laws_toIntSS.l0, not_lt_end, if_false, L_const, List.length_nil, List.replicate_zero]
  | cons x r ih =>
    intro pre hb hr
    rw [L_shift]
    have hl : pre.length < 4611686018427387904 := by simp at hb; omega
    have e : rd_L5 (pre ++ x :: r) (pre.length : Int) = x := getD_mid pre x r _
    simp only [laws_toIntSS.l0, lt_mid, le_nat, if_true, rep_succ, e, wrap_mid pre x hl, L_bind, L_const, toIntS_L x (hr x List.mem_cons_self), Option.bind_some, set_mid pre _ _ _ pre rfl]
    rw [app_cons pre x r, app_cons pre x (List.replicate _ _)]
    exact ih (pre ++ [x]) (by simpa using hb) (fun y hy => hr y (List.mem_cons_of_mem _ hy))
theorem toIntSS_L (l : List (List Int)) (h : l.length ≤ 1048576) (hr : ∀ x ∈ l, x.length ≤ 1048576) : L (fun k => laws_toIntSS.f k l) = some l := by
  simp only [laws_toIntSS.f, le_nat, if_true, Int.toNat_natCast, if_pos (show l.length ≤ 11728124029610 by omega)]
  exact toIntSS_l l [] (by simp; omega) hr
theorem eqIntSS_l (r : List (List Int)) : ∀ pre : List (List Int), (pre ++ r).length < 4611686018427387904 → (∀ x ∈ r, x.length ≤ 1048576) → L (fun k => laws_eqIntSS.l0 k (pre ++ r) (pre ++ r) (pre.length : Int)) = some true := by
  induction r with
  | nil =>
    intro pre hb hr
    rw [L_shift]
    simp only [laws_eqIntSS.l0, not_lt_end, if_false, L_const]
  | cons x r ih =>
    intro pre hb hr
    rw [L_shift]
    have hl : pre.length < 4611686018427387904 := by simp at hb; omega
    have e : rd_L5 (pre ++ x :: r) (pre.length : Int) = x := getD_mid pre x r _
    simp only [laws_eqIntSS.l0, lt_mid, le_nat, if_true, e, wrap_mid pre x hl, L_bind, L_const, eqIntS_L x (hr x List.mem_cons_self), Option.bind_some]
    rw [app_cons pre x r]
    exact ih (pre ++ [x]) (by simpa using hb) (fun y hy => hr y (List.mem_cons_of_mem _ hy))
theorem eqIntSS_L (l : List (List Int)) (h : l.length ≤ 1048576) (hr : ∀ x ∈ l, x.length ≤ 1048576) : L (fun k => laws_eqIntSS.f k l l) = some true := by
  simp only [laws_eqIntSS.f, if_true]
  exact eqIntSS_l l [] (by simp; omega) hr
def lexB : List Int → List Int → Bool
  | [], [] => false
  | [], _ :: _ => true
  | _ :: _, [] => false
  | x :: a, y :: b => if x = y then lexB a b else decide (x < y)
theorem impl_compareLists_j1 (x0 : List Int) (x1 : List Int) (x5 : Int) (x15 : Bool) : L (fun k => impl_compareLists.j1 k x0 x1 x5 x15) = L (fun k => if x15 = true then (if 0 ≤ x5 then (if x5 < (x0.length : Int) then (if x5 < (x1.length : Int) then (if (rd x0 x5) = (rd x1 x5) then (impl_compareLists.l0 k x0 x1 (wrap64 (x5 + 1))) else (some (wrap64 ((rd x0 x5) - (rd x1 x5))))) else (none)) else (none)) else (none)) else (some (wrap64 ((x0.length : Int) - (x1.length : Int))))) := by
  rw [L_shift]
  simp only [impl_compareLists.j1]
theorem compareLists_g : ∀ (a b p q : List Int), p.length = q.length → (p ++ a).length < 1000000 → (q ++ b).length < 1000000 → (∀ x ∈ a, 0 ≤ x ∧ x < 1048576) → (∀ x ∈ b, 0 ≤ x ∧ x < 1048576) → ∃ c, L (fun k => impl_compareLists.l0 k (p ++ a) (q ++ b) (p.length : Int)) = some c ∧ (c < 0 ↔ lexB a b = true) ∧ (c = 0 ↔ a = b)
  | [], [], p, q, hp, ha, hb, _, _ => by
    rw [L_shift]
    simp only [impl_compareLists.l0, not_lt_end, if_false, impl_compareLists_j1, Bool.false_eq_true, L_const]
    refine ⟨_, rfl, ?_⟩
    simp only [List.append_nil, hp, Int.sub_self, lexB]
    rw [wrap_id (by omega) (by omega)]
    simp
  | [], y :: b, p, q, hp, ha, hb, _, _ => by
    rw [L_shift]
    simp only [impl_compareLists.l0, not_lt_end, if_false, impl_compareLists_j1, Bool.false_eq_true, L_const]
    refine ⟨_, rfl, ?_⟩
    simp only [List.length_append, List.length_cons, List.length_nil] at ha hb ⊢
    rw [wrap_id (by omega) (by omega)]
    simp only [lexB]
    constructor
    · constructor
      · intro _; trivial
      · intro _; omega
    · constructor
      · intro h; omega
      · intro h; cases h
  | x :: a, [], p, q, hp, ha, hb, _, _ => by
    rw [L_shift]
    have e : ((p.length : Int) < ((q ++ []).length : Int)) = False := by
      rw [hp]
      exact not_lt_end q
    simp only [impl_compareLists.l0, lt_mid, if_true, e, decide_false, impl_compareLists_j1, Bool.false_eq_true, if_false, L_const]
    refine ⟨_, rfl, ?_⟩
    simp only [List.length_append, List.length_cons, List.length_nil] at ha hb ⊢
    rw [wrap_id (by omega) (by omega)]
    simp only [lexB]
    constructor
    · constructor
      · intro h; omega
      · intro h; cases h
    · constructor
      · intro h; omega
      · intro h; cases h
  | x :: a, y :: b, p, q, hp, ha, hb, hxa, hyb => by
    rw [L_shift]
    have h1 : p.length < 4611686018427387904 := by simp at ha; omega
    have hx := hxa x List.mem_cons_self
    have hy := hyb y List.mem_cons_self
    simp only [impl_compareLists.l0, lt_mid, le_nat, if_true, rd_mid, rd_at hp, lt_at hp, decide_true, impl_compareLists_j1, wrap_mid p x h1, L_ite, L_const, wrap_id (show -9223372036854775808 ≤ x - y by omega) (show x - y ≤ 9223372036854775807 by omega)]
    obtain ⟨c, hc, hi, hj⟩ := compareLists_g a b (p ++ [x]) (q ++ [y]) (by simp [hp]) (by simpa using ha) (by simpa using hb) (fun z hz => hxa z (List.mem_cons_of_mem _ hz)) (fun z hz => hyb z (List.mem_cons_of_mem _ hz))
    rw [app_cons p x a, app_cons q y b, hc]
    by_cases h : x = y
    · rw [if_pos h, lexB, if_pos h]
      exact ⟨c, rfl, hi, by rw [hj, h]; simp⟩
    · rw [if_neg h, lexB, if_neg h]
      refine ⟨_, rfl, by rw [decide_eq_true_eq]; omega, ?_⟩
      constructor
      · intro h2; omega
      · intro h2; exact absurd (List.cons.inj h2).1 h
theorem compareG_L (a b : List Int) (ha : a.length < 1000000) (hb : b.length < 1000000) (hxa : ∀ x ∈ a, 0 ≤ x ∧ x < 1048576) (hxb : ∀ x ∈ b, 0 ≤ x ∧ x < 1048576) : ∃ c, L (fun k => impl_compareLists.f k a b) = some c ∧ (c < 0 ↔ lexB a b = true) ∧ (c = 0 ↔ a = b) := by
  simp only [impl_compareLists.f]
  exact compareLists_g a b [] [] rfl (by simpa using ha) (by simpa using hb) hxa hxb
def Pre (b c : List Int) : Prop := ∃ t, c = b ++ t
def begB (c b : List Int) : Bool := decide (c.take b.length = b)
theorem begB_iff {c b : List Int} : begB c b = true ↔ Pre b c := by
  rw [begB, decide_eq_true_eq]
  constructor
  · intro h
    exact ⟨c.drop b.length, by
      have := (List.take_append_drop b.length c).symm
      rwa [h] at this⟩
  · rintro ⟨t, rfl⟩
    simp
theorem lexB_less : ∀ a b : List Int, lessF a b = (lexB a b && !begB b a)
  | [], b => by
    have : begB b [] = true := begB_iff.2 ⟨b, rfl⟩
    rw [this]
    simp [lessF]
  | x :: a, [] => by simp [lessF, lexB]
  | x :: a, y :: b => by
    rw [lessF, lexB]
    have hb : begB (y :: b) (x :: a) = (decide (y = x) && begB b a) := by
      simp only [begB, List.length_cons, List.take_succ_cons, List.cons.injEq, Bool.decide_and]
    rw [hb]
    by_cases h : x = y
    · rw [if_pos h, if_pos h, lexB_less a b, decide_eq_true h.symm, Bool.true_and]
    · rw [if_neg h, if_neg h, decide_eq_false (show ¬ (y = x) from fun e => h e.symm)]
      simp
theorem less_trans : ∀ {a b c : List Int}, lessF a b = true → lessF b c = true → lessF a c = true
  | [], b, c, h, _ => by simp [lessF] at h
  | x :: a, [], c, h, _ => by simp [lessF] at h
  | x :: a, y :: b, [], _, h => by simp [lessF] at h
  | x :: a, y :: b, z :: c, h1, h2 => by
    rw [lessF] at h1 h2 ⊢
    by_cases e1 : x = y
    · rw [if_pos e1] at h1
      by_cases e2 : y = z
      · rw [if_pos e2] at h2
        rw [if_pos (e1.trans e2)]
        exact less_trans h1 h2
      · rw [if_neg e2] at h2
        rw [if_neg (by rw [e1]; exact e2), e1]
        exact h2
    · rw [if_neg e1, decide_eq_true_eq] at h1
      by_cases e2 : y = z
      · rw [if_neg (by rw [← e2]; exact e1), decide_eq_true_eq, ← e2]
        exact h1
      · rw [if_neg e2, decide_eq_true_eq] at h2
        rw [if_neg (by omega), decide_eq_true_eq]
        omega
theorem less_app (p : List Int) (a b : List Int) : lessF (p ++ a) (p ++ b) = lessF a b := by
  induction p with
  | nil => rfl
  | cons x p ih =>
    rw [List.cons_append, List.cons_append, lessF, if_pos rfl, ih]
theorem less_nil (a : List Int) : lessF a [] = false := by cases a <;> rfl
theorem nil_less (a : List Int) : lessF [] a = false := by cases a <;> rfl
theorem less_pre {b c : List Int} (h : Pre b c) : lessF b c = false ∧ lessF c b = false := by
  obtain ⟨t, rfl⟩ := h
  have e : b = b ++ [] := by simp
  constructor
  · have := less_app b [] t
    rw [List.append_nil] at this
    rw [this, nil_less]
  · have := less_app b t []
    rw [List.append_nil] at this
    rw [this, less_nil]
theorem less_of {b c d : List Int} {i j : Int} (hij : i < j) (hc : Pre (b ++ [i]) c) (hd : Pre (b ++ [j]) d) : lessF c d = true ∧ lessF d c = false := by
  obtain ⟨s, rfl⟩ := hc
  obtain ⟨t, rfl⟩ := hd
  simp only [List.append_assoc, less_app, List.singleton_append, lessF]
  rw [if_neg (by omega), if_neg (by omega)]
  constructor
  · rw [decide_eq_true_eq]; exact hij
  · rw [decide_eq_false_iff_not]; omega
/-- The numbers v, v + 1, .., d of them. -/
def upI : Nat → Int → List Int
  | 0, _ => []
  | d + 1, v => v :: upI d (v + 1)
theorem mem_upI : ∀ (d : Nat) (v x : Int), x ∈ upI d v ↔ v ≤ x ∧ x < v + d
  | 0, v, x => by
    simp only [upI, List.not_mem_nil, false_iff]
    omega
  | d + 1, v, x => by
    rw [upI, List.mem_cons, mem_upI d (v + 1) x]
    omega
theorem upI_up : ∀ (d : Nat) (v : Int), (upI d v).Pairwise (· < ·)
  | 0, v => by simp [upI]
  | d + 1, v => by
    rw [upI, List.pairwise_cons]
    exact ⟨fun x hx => by have := (mem_upI d (v + 1) x).1 hx; omega, upI_up d (v + 1)⟩
theorem upI_length : ∀ (d : Nat) (v : Int), (upI d v).length = d
  | 0, v => rfl
  | d + 1, v => by rw [upI, List.length_cons, upI_length d]
def fct : Nat → Int
  | 0 => 1
  | m + 1 => ((m : Int) + 1) * fct m
theorem fct_pos : ∀ m, 1 ≤ fct m
  | 0 => by simp [fct]
  | m + 1 => by
    have := fct_pos m
    have h2 : 0 ≤ (m : Int) * fct m := Int.mul_nonneg (by omega) (by omega)
    rw [fct, Int.add_mul, Int.one_mul]
    omega
theorem fct_le8 (m : Nat) (h : m ≤ 8) : fct m ≤ 40320 := by
  have : m = 0 ∨ m = 1 ∨ m = 2 ∨ m = 3 ∨ m = 4 ∨ m = 5 ∨ m = 6 ∨ m = 7 ∨ m = 8 := by omega
  rcases this with rfl | rfl | rfl | rfl | rfl | rfl | rfl | rfl | rfl <;> decide
/-- A beginning: different numbers below n. -/
def IsPreN (n : Nat) (b : List Int) : Prop := (∀ x ∈ b, 0 ≤ x ∧ x < (n : Int)) ∧ b.Nodup
def headB (b : List Int) : List (List Int) → Bool
  | [] => false
  | c :: _ => begB c b
def candF (g : List Int → List (List Int) → Option (List (List Int))) (b : List Int) : List Int → List (List Int) → Option (List (List Int))
  | [], cs => some cs
  | i :: is, cs => if i ∈ b then candF g b is cs else if headB b cs = true then (g (b ++ [i]) cs).bind (fun r' => candF g b is r') else none
def covF (n : Nat) : Nat → List Int → List (List Int) → Option (List (List Int))
  | 0, b, cs => if cs.head? = some b then some cs.tail else none
  | m + 1, b, cs => if cs.head? = some b then some cs.tail else candF (covF n m) b (upI n 0) cs
def wOf (n : Nat) (c : List Int) : Int := fct (n - c.length)
def sumW (n : Nat) (cs : List (List Int)) : Int := (cs.map (wOf n)).sum
theorem sumW_cons (n : Nat) (c : List Int) (cs : List (List Int)) : sumW n (c :: cs) = wOf n c + sumW n cs := by simp [sumW]
theorem sumW_append (n : Nat) (a b : List (List Int)) : sumW n (a ++ b) = sumW n a + sumW n b := by simp [sumW]
def cnt (b is : List Int) : Nat := (is.filter (fun i => !decide (i ∈ b))).length
theorem cnt_cons_mem {b is : List Int} {i : Int} (h : i ∈ b) : cnt b (i :: is) = cnt b is := by simp [cnt, h]
theorem cnt_cons_not {b is : List Int} {i : Int} (h : ¬ i ∈ b) : cnt b (i :: is) = cnt b is + 1 := by simp [cnt, h]
theorem nodup_lt {l : List Int} (h : l.Pairwise (· < ·)) : l.Nodup := h.imp (fun h => by omega)
theorem cnt_all {n : Nat} {b : List Int} (hb : IsPreN n b) : cnt b (upI n 0) + b.length = n := by
  have h1 := List.length_eq_countP_add_countP (fun i => decide (i ∈ b)) (l := upI n 0)
  rw [upI_length, List.countP_eq_length_filter, List.countP_eq_length_filter] at h1
  have h2 : ((upI n 0).filter (fun i => decide (i ∈ b))).Perm b := by
    refine (List.perm_ext_iff_of_nodup ((nodup_lt (upI_up n 0)).filter _) hb.2).2 (fun x => ?_)
    rw [List.mem_filter, mem_upI, decide_eq_true_eq]
    constructor
    · intro h; exact h.2
    · intro h; have := hb.1 x h; exact ⟨by omega, h⟩
  have h3 := h2.length_eq
  have h4 : cnt b (upI n 0) = ((upI n 0).filter (fun a => decide ¬decide (a ∈ b) = true)).length := by
    unfold cnt
    congr 1
    apply List.filter_congr
    intro x _
    by_cases h : x ∈ b <;> simp [h]
  omega
theorem IsPreN.up {n : Nat} {b : List Int} (hb : IsPreN n b) {i : Int} (h0 : 0 ≤ i) (h1 : i < (n : Int)) (hi : ¬ i ∈ b) : IsPreN n (b ++ [i]) := by
  refine ⟨?_, ?_⟩
  · intro x hx
    rcases List.mem_append.1 hx with h | h
    · exact hb.1 x h
    · rw [List.mem_singleton.1 h]
      exact ⟨h0, h1⟩
  · rw [List.nodup_append]
    refine ⟨hb.2, by simp, ?_⟩
    intro x hx y hy e
    rw [List.mem_singleton.1 hy] at e
    exact hi (e ▸ hx)
theorem IsPreN.le {n : Nat} {b : List Int} (hb : IsPreN n b) : b.length ≤ n := by
  have := cnt_all hb
  omega
theorem Pre.left {b c : List Int} {i : Int} (h : Pre (b ++ [i]) c) : Pre b c := by
  obtain ⟨t, rfl⟩ := h
  exact ⟨[i] ++ t, by simp⟩
theorem cand_sound (n m : Nat) (b : List Int) (hb : IsPreN n b) (hn : n = m + 1 + b.length)
    (ih : ∀ (b' : List Int) (L rest : List (List Int)), n = m + b'.length → IsPreN n b' → covF n m b' L = some rest → ∃ cs, L = cs ++ rest ∧ (∀ c ∈ cs, Pre b' c) ∧ cs.Pairwise (fun a c => lessF a c = true) ∧ sumW n cs = fct m) :
    ∀ (is : List Int) (L rest : List (List Int)), is.Pairwise (· < ·) → (∀ i ∈ is, 0 ≤ i ∧ i < (n : Int)) → candF (covF n m) b is L = some rest → ∃ cs, L = cs ++ rest ∧ (∀ c ∈ cs, ∃ i ∈ is, Pre (b ++ [i]) c) ∧ cs.Pairwise (fun a c => lessF a c = true) ∧ sumW n cs = (cnt b is : Int) * fct m
  | [], L, rest, _, _, h => by
    rw [candF] at h
    exact ⟨[], by simpa using h, by simp, by simp, by simp [sumW, cnt]⟩
  | i :: is, L, rest, hp, hr, h => by
    obtain ⟨hp1, hp2⟩ := List.pairwise_cons.1 hp
    have hi := hr i List.mem_cons_self
    have hr' : ∀ j ∈ is, 0 ≤ j ∧ j < (n : Int) := fun j hj => hr j (List.mem_cons_of_mem _ hj)
    rw [candF] at h
    by_cases hib : i ∈ b
    · rw [if_pos hib] at h
      obtain ⟨cs, e, h1, h2, h3⟩ := cand_sound n m b hb hn ih is L rest hp2 hr' h
      exact ⟨cs, e, fun c hc => by
        obtain ⟨j, hj, hp⟩ := h1 c hc
        exact ⟨j, List.mem_cons_of_mem _ hj, hp⟩, h2, by rw [cnt_cons_mem hib]; exact h3⟩
    · rw [if_neg hib] at h
      by_cases hbc : headB b L = true
      · rw [if_pos hbc] at h
        obtain ⟨L', h4, h5⟩ := Option.bind_eq_some_iff.1 h
        obtain ⟨cs1, e1, a1, a2, a3⟩ := ih (b ++ [i]) L L' (by simp; omega) (hb.up hi.1 hi.2 hib) h4
        obtain ⟨cs2, e2, b1, b2, b3⟩ := cand_sound n m b hb hn ih is L' rest hp2 hr' h5
        refine ⟨cs1 ++ cs2, by rw [e1, e2, List.append_assoc], ?_, ?_, ?_⟩
        · intro d hd
          rcases List.mem_append.1 hd with hd | hd
          · exact ⟨i, List.mem_cons_self, a1 d hd⟩
          · obtain ⟨j, hj, hp⟩ := b1 d hd
            exact ⟨j, List.mem_cons_of_mem _ hj, hp⟩
        · rw [List.pairwise_append]
          refine ⟨a2, b2, fun x hx y hy => ?_⟩
          obtain ⟨j, hj, hp⟩ := b1 y hy
          exact (less_of (hp1 j hj) (a1 x hx) hp).1
        · rw [sumW_append, a3, b3, cnt_cons_not hib]
          simp only [Int.natCast_add, Int.natCast_one, Int.add_mul, Int.one_mul]
          omega
      · rw [if_neg hbc] at h
        cases h
theorem cov_sound (n : Nat) : ∀ (m : Nat) (b : List Int) (L rest : List (List Int)), n = m + b.length → IsPreN n b → covF n m b L = some rest → ∃ cs, L = cs ++ rest ∧ (∀ c ∈ cs, Pre b c) ∧ cs.Pairwise (fun a c => lessF a c = true) ∧ sumW n cs = fct m := by
  intro m
  have hone : ∀ (m : Nat) (b : List Int) (L rest : List (List Int)), n = m + b.length → L.head? = some b → some L.tail = some rest → ∃ cs, L = cs ++ rest ∧ (∀ c ∈ cs, Pre b c) ∧ cs.Pairwise (fun a c => lessF a c = true) ∧ sumW n cs = fct m := by
    intro m b L rest hn h1 h2
    cases L with
    | nil => cases h1
    | cons c r =>
      simp only [List.head?_cons, Option.some.injEq] at h1
      simp only [List.tail_cons, Option.some.injEq] at h2
      subst h1 h2
      refine ⟨[c], rfl, ?_, by simp, ?_⟩
      · intro d hd
        rw [List.mem_singleton.1 hd]
        exact ⟨[], by simp⟩
      · rw [sumW_cons]
        have e : n - c.length = m := by omega
        simp [sumW, wOf, e]
  induction m with
  | zero =>
    intro b L rest hn hb h
    rw [covF] at h
    by_cases h1 : L.head? = some b
    · rw [if_pos h1] at h
      exact hone 0 b L rest hn h1 h
    · rw [if_neg h1] at h
      cases h
  | succ m ih =>
    intro b L rest hn hb h
    rw [covF] at h
    by_cases h1 : L.head? = some b
    · rw [if_pos h1] at h
      exact hone (m + 1) b L rest hn h1 h
    · rw [if_neg h1] at h
      obtain ⟨cs, e, a1, a2, a3⟩ := cand_sound n m b hb hn ih (upI n 0) L rest (upI_up n 0) (fun i hi => by have := (mem_upI n 0 i).1 hi; omega) h
      refine ⟨cs, e, fun c hc => ?_, a2, ?_⟩
      · obtain ⟨i, _, hp⟩ := a1 c hc
        exact hp.left
      · have h2 := cnt_all hb
        have h3 : cnt b (upI n 0) = m + 1 := by omega
        rw [a3, h3, fct, Int.natCast_add, Int.natCast_one]
theorem split_cand (n : Nat) (b : List Int) (i : Int) (is : List Int) (hi : ∀ j ∈ is, i < j) : ∀ cs : List (List Int), (∀ c ∈ cs, ∃ j ∈ i :: is, Pre (b ++ [j]) c) → cs.Pairwise (fun a c => lessF a c = true) →
    ∃ cs1 cs2, cs = cs1 ++ cs2 ∧ (∀ c ∈ cs1, Pre (b ++ [i]) c) ∧ (∀ c ∈ cs2, ∃ j ∈ is, Pre (b ++ [j]) c)
  | [], _, _ => ⟨[], [], rfl, by simp, by simp⟩
  | c :: cs, h, hp => by
    obtain ⟨hp1, hp2⟩ := List.pairwise_cons.1 hp
    obtain ⟨j, hj, hc⟩ := h c List.mem_cons_self
    rcases List.mem_cons.1 hj with e0 | hjs
    · subst e0
      obtain ⟨cs1, cs2, e, h1, h2⟩ := split_cand n b j is hi cs (fun d hd => h d (List.mem_cons_of_mem _ hd)) hp2
      refine ⟨c :: cs1, cs2, by rw [e]; rfl, ?_, h2⟩
      intro d hd
      rcases List.mem_cons.1 hd with rfl | hd
      · exact hc
      · exact h1 d hd
    · refine ⟨[], c :: cs, rfl, by simp, ?_⟩
      intro d hd
      rcases List.mem_cons.1 hd with rfl | hd
      · exact ⟨j, hjs, hc⟩
      · obtain ⟨j', hj', hd'⟩ := h d (List.mem_cons_of_mem _ hd)
        rcases List.mem_cons.1 hj' with e1 | hjs'
        · rw [e1] at hd'
          have h1 := hp1 d hd
          rw [(less_of (hi j hjs) hd' hc).2] at h1
          cases h1
        · exact ⟨j', hjs', hd'⟩
theorem cand_complete (n m : Nat) (b : List Int) (hb : IsPreN n b) (hn : n = m + 1 + b.length)
    (ih : ∀ (b' : List Int) (cs : List (List Int)), n = m + b'.length → IsPreN n b' → (∀ c ∈ cs, Pre b' c ∧ IsPreN n c) → cs.Pairwise (fun a c => lessF a c = true) → sumW n cs ≤ fct m ∧ (sumW n cs = fct m → ∀ rest, covF n m b' (cs ++ rest) = some rest)) :
    ∀ (is : List Int) (cs : List (List Int)), is.Pairwise (· < ·) → (∀ i ∈ is, 0 ≤ i ∧ i < (n : Int)) → (∀ c ∈ cs, IsPreN n c ∧ ∃ i ∈ is, Pre (b ++ [i]) c) → cs.Pairwise (fun a c => lessF a c = true) →
      sumW n cs ≤ (cnt b is : Int) * fct m ∧ (sumW n cs = (cnt b is : Int) * fct m → ∀ rest, candF (covF n m) b is (cs ++ rest) = some rest)
  | [], cs, _, _, hc, _ => by
    cases cs with
    | nil => exact ⟨by simp [sumW, cnt], fun _ rest => by simp [candF]⟩
    | cons c cs =>
      obtain ⟨_, i, hi, _⟩ := hc c List.mem_cons_self
      cases hi
  | i :: is, cs, hp, hr, hc, hl => by
    obtain ⟨hp1, hp2⟩ := List.pairwise_cons.1 hp
    have hi := hr i List.mem_cons_self
    have hr' : ∀ j ∈ is, 0 ≤ j ∧ j < (n : Int) := fun j hj => hr j (List.mem_cons_of_mem _ hj)
    by_cases hib : i ∈ b
    · have hc' : ∀ c ∈ cs, IsPreN n c ∧ ∃ j ∈ is, Pre (b ++ [j]) c := by
        intro c h
        obtain ⟨h1, j, hj, h2⟩ := hc c h
        refine ⟨h1, ?_⟩
        rcases List.mem_cons.1 hj with rfl | hj
        · exfalso
          obtain ⟨t, rfl⟩ := h2
          have h3 := h1.2
          rw [List.append_assoc, List.nodup_append] at h3
          exact h3.2.2 j hib j (by simp) rfl
        · exact ⟨j, hj, h2⟩
      have h := cand_complete n m b hb hn ih is cs hp2 hr' hc' hl
      rw [cnt_cons_mem hib]
      refine ⟨h.1, fun he rest => ?_⟩
      rw [candF, if_pos hib]
      exact h.2 he rest
    · obtain ⟨cs1, cs2, e, a1, a2⟩ := split_cand n b i is hp1 cs (fun c h => (hc c h).2) hl
      subst e
      obtain ⟨l1, l2, _⟩ := List.pairwise_append.1 hl
      have h1 := ih (b ++ [i]) cs1 (by simp; omega) (hb.up hi.1 hi.2 hib) (fun c h => ⟨a1 c h, (hc c (List.mem_append_left _ h)).1⟩) l1
      have h2 := cand_complete n m b hb hn ih is cs2 hp2 hr' (fun c h => ⟨(hc c (List.mem_append_right _ h)).1, a2 c h⟩) l2
      rw [cnt_cons_not hib, sumW_append]
      simp only [Int.natCast_add, Int.natCast_one, Int.add_mul, Int.one_mul]
      refine ⟨by omega, fun he rest => ?_⟩
      have e1 : sumW n cs1 = fct m := by omega
      have e2 : sumW n cs2 = (cnt b is : Int) * fct m := by omega
      have h3 := h1.2 e1 (cs2 ++ rest)
      have h4 := h2.2 e2 rest
      have hpos := fct_pos m
      cases cs1 with
      | nil => simp [sumW] at e1; omega
      | cons c r =>
        have hbc : begB c b = true := begB_iff.2 (a1 c List.mem_cons_self).left
        have hhd : headB b (c :: r ++ (cs2 ++ rest)) = true := hbc
        rw [candF, if_neg hib, List.append_assoc, if_pos hhd, h3, Option.bind_some, h4]
theorem cov_complete (n : Nat) : ∀ (m : Nat) (b : List Int) (cs : List (List Int)), n = m + b.length → IsPreN n b → (∀ c ∈ cs, Pre b c ∧ IsPreN n c) → cs.Pairwise (fun a c => lessF a c = true) → sumW n cs ≤ fct m ∧ (sumW n cs = fct m → ∀ rest, covF n m b (cs ++ rest) = some rest) := by
  intro m
  induction m with
  | zero =>
    intro b cs hn hb hc hl
    cases cs with
    | nil => exact ⟨by simp [sumW, fct], fun h => by simp [sumW, fct] at h⟩
    | cons c cs =>
      obtain ⟨⟨t, e⟩, hcn⟩ := hc c List.mem_cons_self
      have h1 := hcn.le
      have et : t = [] := by
        have : c.length = b.length + t.length := by rw [e, List.length_append]
        exact List.length_eq_zero_iff.1 (by omega)
      subst et
      rw [List.append_nil] at e
      subst e
      have hnil : cs = [] := by
        cases cs with
        | nil => rfl
        | cons d r =>
          have := (List.pairwise_cons.1 hl).1 d List.mem_cons_self
          rw [(less_pre (hc d (by simp)).1).1] at this
          cases this
      subst hnil
      have e0 : n - c.length = 0 := by omega
      refine ⟨by simp [sumW, wOf, e0], fun _ rest => ?_⟩
      simp [covF]
  | succ m ih =>
    intro b cs hn hb hc hl
    cases cs with
    | nil =>
      have := fct_pos (m + 1)
      exact ⟨by simp [sumW]; omega, fun h => by simp [sumW] at h; omega⟩
    | cons c cs =>
      by_cases hcb : c = b
      · subst hcb
        have hnil : cs = [] := by
          cases cs with
          | nil => rfl
          | cons d r =>
            have := (List.pairwise_cons.1 hl).1 d List.mem_cons_self
            rw [(less_pre (hc d (by simp)).1).1] at this
            cases this
        subst hnil
        have e0 : n - c.length = m + 1 := by omega
        refine ⟨by simp [sumW, wOf, e0], fun _ rest => ?_⟩
        simp [covF]
      · have hne : ∀ d ∈ c :: cs, d ≠ b := by
          intro d hd e
          subst e
          rcases List.mem_cons.1 hd with rfl | hd
          · exact hcb rfl
          · have := (List.pairwise_cons.1 hl).1 d hd
            rw [(less_pre (hc c List.mem_cons_self).1).2] at this
            cases this
        have hc' : ∀ d ∈ c :: cs, IsPreN n d ∧ ∃ i ∈ upI n 0, Pre (b ++ [i]) d := by
          intro d hd
          obtain ⟨⟨t, e⟩, hdn⟩ := hc d hd
          refine ⟨hdn, ?_⟩
          cases t with
          | nil => exact absurd (by rw [e, List.append_nil]) (hne d hd)
          | cons i t =>
            have := hdn.1 i (by rw [e]; simp)
            exact ⟨i, (mem_upI n 0 i).2 (by omega), t, by rw [e]; simp⟩
        have h := cand_complete n m b hb hn ih (upI n 0) (c :: cs) (upI_up n 0) (fun i hi => by have := (mem_upI n 0 i).1 hi; omega) hc' hl
        have h2 := cnt_all hb
        have h3 : cnt b (upI n 0) = m + 1 := by omega
        rw [h3, Int.natCast_add, Int.natCast_one] at h
        refine ⟨h.1, fun he rest => ?_⟩
        rw [covF, if_neg (by simp [hcb])]
        exact h.2 he rest
theorem cases_iff (n : Nat) (cs : List (List Int)) (hc : ∀ c ∈ cs, IsPreN n c) : covF n n [] cs = some [] ↔ cs.Pairwise (fun a c => lessF a c = true) ∧ sumW n cs = fct n := by
  have h0 : IsPreN n [] := ⟨by simp, by simp⟩
  constructor
  · intro h
    obtain ⟨cs', e, _, h2, h3⟩ := cov_sound n n [] cs [] (by simp) h0 h
    rw [List.append_nil] at e
    subst e
    exact ⟨h2, h3⟩
  · rintro ⟨h1, h2⟩
    have := (cov_complete n n [] cs (by simp) h0 (fun c h => ⟨⟨c, rfl⟩, hc c h⟩) h1).2 h2 []
    rwa [List.append_nil] at this
theorem l1Same_l : ∀ (a b p q : List Int), p.length = q.length → a.length = b.length → (p ++ a).length < 4611686018427387904 → L (fun k => spec_l1Same.l0 k (p ++ a) (q ++ b) (p.length : Int)) = some (decide (a = b))
  | [], [], p, q, hp, hl, hb => by
    rw [L_shift]
    simp only [spec_l1Same.l0, not_lt_end, if_false, L_const]
    simp
  | x :: a, y :: b, p, q, hp, hl, hb => by
    rw [L_shift]
    have h1 : p.length < 4611686018427387904 := by simp at hb; omega
    simp only [spec_l1Same.l0, lt_mid, le_nat, if_true, rd_mid, rd_at hp, lt_at hp, wrap_mid p x h1, L_ite, L_const]
    rw [app_cons p x a, app_cons q y b, l1Same_l a b (p ++ [x]) (q ++ [y]) (by simp [hp]) (by simpa using hl) (by simpa using hb)]
    by_cases h : x = y
    · rw [if_pos h, h]
      simp
    · rw [if_neg h]
      simp [h]
  | [], y :: b, p, q, hp, hl, hb => by simp at hl
  | x :: a, [], p, q, hp, hl, hb => by simp at hl
theorem l1Same_L (a b : List Int) (h : a.length < 4611686018427387904) : L (fun k => spec_l1Same.f k a b) = some (decide (a = b)) := by
  simp only [spec_l1Same.f, L_ite, L_const]
  by_cases hl : a.length = b.length
  · rw [if_pos (by omega)]
    exact l1Same_l a b [] [] rfl hl (by simpa using h)
  · rw [if_neg (by omega), decide_eq_false]
    intro e
    exact hl (by rw [e])
theorem begB_long {c b : List Int} (h : ¬ b.length ≤ c.length) : begB c b = false := by
  rw [Bool.eq_false_iff]
  intro hb
  obtain ⟨t, rfl⟩ := begB_iff.1 hb
  exact h (by simp)
theorem l5Begins_L (c b : List Int) (h : c.length < 1000000) : L (fun k => spec_l5Begins.f k c b) = some (begB c b) := by
  simp only [spec_l5Begins.f, bind_self, L_ite, L_const, le_nat, if_true, Int.toNat_natCast]
  by_cases hl : b.length ≤ c.length
  · rw [if_pos (by omega), l1Same_L _ _ (by simp; omega)]
    rfl
  · rw [if_neg (by omega), begB_long hl]
theorem beginsWith_L (c b : List Int) (hc : c.length < 1000000) (hb : b.length < 1000000) (hxc : ∀ x ∈ c, 0 ≤ x ∧ x < 1048576) (hxb : ∀ x ∈ b, 0 ≤ x ∧ x < 1048576) : L (fun k => impl_beginsWith.f k c b) = some (begB c b) := by
  simp only [impl_beginsWith.f, L_bind, L_ite, L_const, le_nat, if_true, Int.toNat_natCast]
  by_cases hl : b.length ≤ c.length
  · obtain ⟨v, h1, _, h2⟩ := compareG_L (c.take b.length) b (by simp; omega) hb (fun x hx => hxc x (List.mem_of_mem_take hx)) hxb
    rw [if_pos (by omega), h1, Option.bind_some, begB]
    congr 1
    rw [Bool.eq_iff_iff, beq_iff_eq, decide_eq_true_eq]
    exact h2
  · rw [if_neg (by omega), begB_long hl]
theorem factorial_l : ∀ (m : Nat) (v : Int), m ≤ 1000000 → 0 ≤ v → v * fct m ≤ 1000000000 → L (fun k => impl_factorial.l0 k (m : Int) v) = some (v * fct m)
  | 0, v, _, h0, h1 => by
    rw [L_shift]
    simp only [impl_factorial.l0, if_neg (show ¬ (((0 : Nat) : Int) > 1) by omega), L_const, fct, Int.mul_one]
  | 1, v, _, h0, h1 => by
    rw [L_shift]
    simp only [impl_factorial.l0, if_neg (show ¬ (((1 : Nat) : Int) > 1) by omega), L_const, fct]
    simp
  | m + 2, v, hm, h0, h1 => by
    rw [L_shift]
    have e : v * fct (m + 2) = (v * ((m + 2 : Nat) : Int)) * fct (m + 1) := by
      rw [fct, Int.mul_assoc]
      congr 2
    have h2 : 0 ≤ v * ((m + 2 : Nat) : Int) := Int.mul_nonneg h0 (by omega)
    have h3 : v * ((m + 2 : Nat) : Int) * 1 ≤ v * ((m + 2 : Nat) : Int) * fct (m + 1) := Int.mul_le_mul_of_nonneg_left (fct_pos (m + 1)) h2
    rw [e] at h1
    have e1 : wrap64 (((m + 2 : Nat) : Int) - 1) = ((m + 1 : Nat) : Int) := by
      rw [wrap_id (by omega) (by omega)]
      omega
    have e2 : wrap64 (v * ((m + 2 : Nat) : Int)) = v * ((m + 2 : Nat) : Int) := wrap_id (by omega) (by omega)
    simp only [impl_factorial.l0, if_pos (show ((m + 2 : Nat) : Int) > 1 by omega), e1, e2]
    rw [factorial_l (m + 1) _ (by omega) h2 (by omega), e]
theorem factorial_L (m : Nat) (h : m ≤ 8) : L (fun k => impl_factorial.f k (m : Int)) = some (fct m) := by
  have := fct_le8 m h
  have h1 := factorial_l m 1 (by omega) (by omega) (by omega)
  rw [Int.one_mul] at h1
  exact h1
theorem spec_l5Covers_j0 (x0 : List (S38)) (x1 : List Int) (x2 : List (List Int)) (x20 : Bool) : L (fun k => spec_l5Covers.j0 k x0 x1 x2 x20) = L (fun k => if x20 = true then (if 1 ≤ (x2.length : Int) then (some ((x2.drop 1), true)) else (none)) else (if (x1.length : Int) = (x0.length : Int) then (some (x2, false)) else (spec_l5Covers.l0 k x0 x1 x2 0))) := by
  rw [L_shift]
  simp only [spec_l5Covers.j0]
theorem spec_l5Covers_j2 (x0 : List (S38)) (x1 : List Int) (x2 : List (List Int)) (x8 : Int) (x48 : Bool) : L (fun k => spec_l5Covers.j2 k x0 x1 x2 x8 x48) = L (fun k => if x48 = true then (some (x2, false)) else ((spec_l1Own.f x1).bind fun t2059 => (if t2059.length < 17592186044416 then ((spec_l5Covers.f k x0 (t2059 ++ [x8]) x2).bind fun bt2065 => (if bt2065.2 = true then (spec_l5Covers.l0 k x0 x1 bt2065.1 (wrap64 (x8 + 1))) else (some (x2, false)))) else (none)))) := by
  rw [L_shift]
  simp only [spec_l5Covers.j2]
theorem covers_loop (l : List S38) (h8 : l.length ≤ 8) (m : Nat) (b : List Int) (hb : b.length ≤ 8)
    (ih : ∀ (i : Int) (cs : List (List Int)), cs.length ≤ 1000 → (∀ c ∈ cs, c.length ≤ 8) → ¬ i ∈ b → 0 ≤ i ∧ i < (l.length : Int) →
      (∀ r, covF l.length m (b ++ [i]) cs = some r → L (fun k => spec_l5Covers.f k l (b ++ [i]) cs) = some (r, true) ∧ r.length ≤ cs.length ∧ ∀ c ∈ r, c ∈ cs) ∧ (covF l.length m (b ++ [i]) cs = none → ∃ x, L (fun k => spec_l5Covers.f k l (b ++ [i]) cs) = some (x, false))) :
    ∀ (d i : Nat) (cs : List (List Int)), i + d = l.length → cs.length ≤ 1000 → (∀ c ∈ cs, c.length ≤ 8) →
      (∀ r, candF (covF l.length m) b (upI d (i : Int)) cs = some r → L (fun k => spec_l5Covers.l0 k l b cs (i : Int)) = some (r, true) ∧ r.length ≤ cs.length ∧ ∀ c ∈ r, c ∈ cs) ∧ (candF (covF l.length m) b (upI d (i : Int)) cs = none → ∃ x, L (fun k => spec_l5Covers.l0 k l b cs (i : Int)) = some (x, false))
  | 0, i, cs, hi, hc, hs => by
    rw [L_shift]
    simp only [spec_l5Covers.l0, if_neg (show ¬ ((i : Int) < (l.length : Int)) by omega), L_const, upI, candF]
    refine ⟨fun r h => ?_, fun h => (by cases h)⟩
    cases h
    exact ⟨rfl, Nat.le_refl _, fun c h => h⟩
  | d + 1, i, cs, hi, hc, hs => by
    have e : wrap64 ((i : Int) + 1) = (i : Int) + 1 := wrap_id (by omega) (by omega)
    have eu : ((i + 1 : Nat) : Int) = (i : Int) + 1 := by omega
    rw [L_shift]
    simp only [spec_l5Covers.l0, if_pos (show ((i : Int) < (l.length : Int)) by omega), L_bind, l1Has_L b _ (by omega), Option.bind_some, e, L_ite, upI, candF, decide_eq_true_eq]
    by_cases hib : (i : Int) ∈ b
    · simp only [if_pos hib]
      have := covers_loop l h8 m b hb ih d (i + 1) cs (by omega) hc hs
      rwa [eu] at this
    · simp only [if_neg hib]
      cases cs with
      | nil =>
        simp only [List.length_nil, Int.natCast_zero, if_true, spec_l5Covers_j2, L_const, headB, Bool.false_eq_true, if_false]
        exact ⟨fun r h => (by cases h), fun _ => ⟨_, rfl⟩⟩
      | cons c r =>
        have e0 : rd_L5 (c :: r) 0 = c := rfl
        have hcl := hs c List.mem_cons_self
        simp only [if_neg (show ¬ (((c :: r).length : Int) = 0) by simp only [List.length_cons]; omega), if_pos (show (0 : Int) < ((c :: r).length : Int) by simp only [List.length_cons]; omega), e0, l5Begins_L c b (by omega), Option.bind_some, spec_l5Covers_j2, L_ite, L_const, headB]
        rcases Bool.eq_false_or_eq_true (begB c b) with hbc | hbc
        rotate_left
        · simp only [hbc, Bool.not_false, if_true, Bool.false_eq_true, if_false]
          exact ⟨fun r h => (by cases h), fun _ => ⟨_, rfl⟩⟩
        · simp only [hbc, Bool.not_true, Bool.false_eq_true, if_false, if_true, L_bind, l1Own_e b (by omega), Option.bind_some, if_pos (show b.length < 17592186044416 by omega), L_ite, L_const]
          have h1 := ih (i : Int) (c :: r) hc hs hib ⟨by omega, by omega⟩
          cases hcv : covF l.length m (b ++ [(i : Int)]) (c :: r) with
          | none =>
            obtain ⟨x, hx⟩ := h1.2 hcv
            simp only [hx, Option.bind_some, Option.bind_none, Bool.false_eq_true, if_false]
            exact ⟨fun r h => (by cases h), fun _ => ⟨_, rfl⟩⟩
          | some r' =>
            obtain ⟨hx, hlen, hmem⟩ := h1.1 r' hcv
            simp only [hx, Option.bind_some, if_true, e]
            have h2 := covers_loop l h8 m b hb ih d (i + 1) r' (by omega) (by omega) (fun c' h' => hs c' (hmem c' h'))
            rw [eu] at h2
            refine ⟨fun r2 h => ?_, h2.2⟩
            obtain ⟨h3, h4, h5⟩ := h2.1 r2 h
            exact ⟨h3, by omega, fun c' h' => hmem c' (h5 c' h')⟩
theorem covers_L (l : List S38) (h8 : l.length ≤ 8) : ∀ (m : Nat) (b : List Int) (cs : List (List Int)), l.length = m + b.length → cs.length ≤ 1000 → (∀ c ∈ cs, c.length ≤ 8) →
    (∀ r, covF l.length m b cs = some r → L (fun k => spec_l5Covers.f k l b cs) = some (r, true) ∧ r.length ≤ cs.length ∧ ∀ c ∈ r, c ∈ cs) ∧ (covF l.length m b cs = none → ∃ x, L (fun k => spec_l5Covers.f k l b cs) = some (x, false)) := by
  intro m
  have hfirst : ∀ (b : List Int) (cs : List (List Int)), cs.length ≤ 1000 → (∀ c ∈ cs, c.length ≤ 8) → L (fun k => spec_l5Covers.f k l b cs) = if cs.head? = some b then some (cs.tail, true) else L (fun k => spec_l5Covers.j0 k l b cs false) := by
    intro b cs hc hs
    rw [L_shift]
    cases cs with
    | nil =>
      simp only [spec_l5Covers.f, List.length_nil, Int.natCast_zero, if_neg (show ¬ ((0 : Int) > 0) by omega), List.head?_nil]
      simp
    | cons c r =>
      have e0 : rd_L5 (c :: r) 0 = c := rfl
      have hcl := hs c List.mem_cons_self
      simp only [spec_l5Covers.f, if_pos (show (((c :: r).length : Int) > 0) by simp only [List.length_cons]; omega), if_pos (show (0 : Int) < ((c :: r).length : Int) by simp only [List.length_cons]; omega), e0, L_bind, l1Same_L c b (by omega), Option.bind_some, List.head?_cons, Option.some.injEq]
      by_cases h : c = b
      · rw [if_pos h, decide_eq_true h]
        simp only [spec_l5Covers_j0, if_true, if_pos (show (1 : Int) ≤ ((c :: r).length : Int) by simp only [List.length_cons]; omega), L_const, List.drop_succ_cons, List.drop_zero, List.tail_cons]
      · rw [if_neg h, decide_eq_false h]
  have hj0 : ∀ (b : List Int) (cs : List (List Int)), L (fun k => spec_l5Covers.j0 k l b cs false) = if (b.length : Int) = (l.length : Int) then some (cs, false) else L (fun k => spec_l5Covers.l0 k l b cs 0) := by
    intro b cs
    simp only [spec_l5Covers_j0, Bool.false_eq_true, if_false, L_ite, L_const]
  have hhead : ∀ (b : List Int) (cs : List (List Int)), cs.length ≤ 1000 → (∀ c ∈ cs, c.length ≤ 8) → cs.head? = some b → ∀ r, some cs.tail = some r → L (fun k => spec_l5Covers.f k l b cs) = some (r, true) ∧ r.length ≤ cs.length ∧ ∀ c ∈ r, c ∈ cs := by
    intro b cs hc hs h r hr
    cases hr
    rw [hfirst b cs hc hs, if_pos h]
    exact ⟨rfl, by simp, fun c h => List.mem_of_mem_tail h⟩
  induction m with
  | zero =>
    intro b cs hn hc hs
    rw [covF]
    by_cases h : cs.head? = some b
    · rw [if_pos h]
      exact ⟨hhead b cs hc hs h, fun h => (by cases h)⟩
    · rw [if_neg h, hfirst b cs hc hs, if_neg h, hj0, if_pos (by omega)]
      exact ⟨fun r h => (by cases h), fun _ => ⟨_, rfl⟩⟩
  | succ m ih =>
    intro b cs hn hc hs
    rw [covF]
    by_cases h : cs.head? = some b
    · rw [if_pos h]
      exact ⟨hhead b cs hc hs h, fun h => (by cases h)⟩
    · rw [if_neg h, hfirst b cs hc hs, if_neg h, hj0, if_neg (by omega)]
      exact covers_loop l h8 m b (by omega) (fun i cs hc hs _ _ => ih (b ++ [i]) cs (by simp; omega) hc hs) l.length 0 cs (by omega) hc hs
/-- The bound of a beginning, as both tell it. -/
noncomputable def boundP (l : List S38) (s : List Int) (obj : Int) : Int := (L (fun k => spec_l5Bound.f k l s obj)).getD 0
theorem boundP_L (l : List S38) (hg : Good l) (s : List Int) (hd : diffB (l.length : Int) [] s = true) (obj : Int) (hobj : obj = 2 ∨ obj = 4) : L (fun k => spec_l5Bound.f k l s obj) = some (boundP l s obj) ∧ L (fun k => impl_prefixBound.f k l s obj) = some (boundP l s obj) := by
  obtain ⟨R, h1, h2⟩ := bound_both l hg s hd obj hobj
  have e : boundP l s obj = R := by
    unfold boundP
    rw [h1]
    rfl
  rw [e]
  exact ⟨h1, h2⟩
noncomputable def chkB (l : List S38) (obj val : Int) (c : List Int) : Bool := diffB (l.length : Int) [] c && !decide (boundP l c obj < val)
theorem chkB_pre {l : List S38} {obj val : Int} {c : List Int} (h : chkB l obj val c = true) : IsPreN l.length c ∧ c.length ≤ l.length ∧ diffB (l.length : Int) [] c = true := by
  simp only [chkB, Bool.and_eq_true] at h
  obtain ⟨h1, h2, h3⟩ := IsPre.len h.1
  exact ⟨⟨h1, h2⟩, h3, h.1⟩
theorem l5Cases_l (l : List S38) (hg : Good l) (obj val : Int) (hobj : obj = 2 ∨ obj = 4) (r : List (List Int)) : ∀ pre : List (List Int), (pre ++ r).length < 1000000 → (∀ c ∈ r, c.length ≤ 1048576) →
    L (fun k => spec_l5Cases.l0 k l obj val (pre ++ r) (pre.length : Int)) = if r.all (chkB l obj val) = true then L (fun k => spec_l5Cases.l0 k l obj val (pre ++ r) ((pre ++ r).length : Int)) else some false := by
  have h8 := hg.1
  induction r with
  | nil =>
    intro pre hb hs
    simp
  | cons x r ih =>
    intro pre hb hs
    have hl : pre.length < 4611686018427387904 := by simp at hb; omega
    have e : rd_L5 (pre ++ x :: r) (pre.length : Int) = x := getD_mid pre x r _
    have hx := hs x List.mem_cons_self
    rw [L_shift]
    simp only [spec_l5Cases.l0, lt_mid, le_nat, if_true, e, L_bind, l5Prefix_L l x (by omega) hx, Option.bind_some, L_ite, L_const, wrap_mid pre x hl]
    simp only [List.all_cons, chkB]
    rcases Bool.eq_false_or_eq_true (diffB (l.length : Int) [] x) with hd | hd
    rotate_left
    · simp [hd]
    · obtain ⟨h1, _⟩ := boundP_L l hg x hd obj hobj
      simp only [hd, if_true, h1, Option.bind_some, Bool.true_and]
      by_cases hv : boundP l x obj < val
      · simp [hv]
      · rw [if_neg hv, decide_eq_false hv, app_cons pre x r, ih (pre ++ [x]) (by simpa using hb) (fun c hc => hs c (List.mem_cons_of_mem _ hc))]
        rfl
theorem l5Cases_L (l : List S38) (hg : Good l) (obj val : Int) (hobj : obj = 2 ∨ obj = 4) (cs : List (List Int)) (hc : cs.length ≤ 800) (hs : ∀ c ∈ cs, c.length ≤ 1048576) :
    L (fun k => spec_l5Cases.f k l obj val cs) = some (cs.all (chkB l obj val) && decide (covF l.length l.length [] cs = some [])) := by
  have h8 := hg.1
  have h := l5Cases_l l hg obj val hobj cs [] (by simp; omega) hs
  simp only [List.nil_append, List.length_nil, Int.natCast_zero] at h
  simp only [spec_l5Cases.f, L_ite, L_const, if_neg (show ¬ ((cs.length : Int) > 800) by omega), h]
  by_cases ha : cs.all (chkB l obj val) = true
  · rw [if_pos ha, L_shift]
    have hv : ∀ c ∈ cs, c.length ≤ 8 := by
      intro c hcm
      have := (chkB_pre (List.all_eq_true.1 ha c hcm)).2.1
      omega
    have hcov := covers_L l h8 l.length [] cs (by simp) (by omega) hv
    simp only [spec_l5Cases.l0, Int.lt_irrefl, if_false, L_bind, L_ite, L_const, ha, Bool.true_and]
    cases hcv : covF l.length l.length [] cs with
    | none =>
      obtain ⟨x, hx⟩ := hcov.2 hcv
      simp [hx]
    | some r =>
      obtain ⟨hx, _, _⟩ := hcov.1 r hcv
      rw [hx]
      simp only [Option.bind_some, if_true, Option.some.injEq]
      rw [Bool.eq_iff_iff, beq_iff_eq, decide_eq_true_eq]
      constructor
      · intro h; exact List.length_eq_zero_iff.1 (by omega)
      · intro h; rw [h]; rfl
  · rw [if_neg ha, Bool.eq_false_iff.2 ha]
    rfl
def chainL : List Int → List (List Int) → Bool
  | _, [] => true
  | y, x :: r => lessF y x && chainL x r
theorem chainL_iff : ∀ (y : List Int) (r : List (List Int)), chainL y r = true ↔ (y :: r).Pairwise (fun a c => lessF a c = true)
  | y, [] => by simp [chainL]
  | y, x :: r => by
    rw [chainL, Bool.and_eq_true, chainL_iff x r, List.pairwise_cons (a := y)]
    constructor
    · rintro ⟨h1, h2⟩
      refine ⟨?_, h2⟩
      intro z hz
      rcases List.mem_cons.1 hz with rfl | hz
      · exact h1
      · exact less_trans h1 ((List.pairwise_cons.1 h2).1 z hz)
    · rintro ⟨h1, h2⟩
      exact ⟨h1 x List.mem_cons_self, h2⟩
theorem impl_IsCases_j0 (x0 : List (S38)) (x1 : Int) (x2 : Int) (x3 : List (List Int)) (x20 : Bool) : L (fun k => impl_IsCases.j0 k x0 x1 x2 x3 x20) = L (fun k => if x20 = true then (some (false, false)) else (if (x3.length : Int) > 800 then (some (false, true)) else (impl_IsCases.l0 k x0 x1 x2 x3 0 x3 (x3.length : Int) 0))) := by
  rw [L_shift]
  simp only [impl_IsCases.j0]
theorem impl_IsCases_j2 (x0 : List (S38)) (x1 : Int) (x2 : Int) (x3 : List (List Int)) (x10 : Int) (x11 : Int) (x12 : List Int) (x24 : List (List Int)) (x25 : Int) (x26 : Int) (x43 : Bool) : L (fun k => impl_IsCases.j2 k x0 x1 x2 x3 x10 x11 x12 x24 x25 x26 x43) = L (fun k => if x43 = true then (some (false, true)) else (if x11 > 0 then (if 0 ≤ (wrap64 (x11 - 1)) then (if (wrap64 (x11 - 1)) < (x3.length : Int) then ((impl_compareLists.f k (rd_L5 x3 (wrap64 (x11 - 1))) x12).bind fun t2095 => (if t2095 ≥ 0 then (some (false, true)) else ((impl_beginsWith.f k x12 (rd_L5 x3 (wrap64 (x11 - 1)))).bind fun t2097 => (if t2097 = true then (some (false, true)) else ((impl_factorial.f k (wrap64 ((x0.length : Int) - (x12.length : Int)))).bind fun t2098 => (impl_IsCases.l0 k x0 x1 x2 x3 (wrap64 (x10 + t2098)) x24 x25 (wrap64 (x26 + 1)))))))) else (none)) else (none)) else ((impl_factorial.f k (wrap64 ((x0.length : Int) - (x12.length : Int)))).bind fun t2099 => (impl_IsCases.l0 k x0 x1 x2 x3 (wrap64 (x10 + t2099)) x24 x25 (wrap64 (x26 + 1)))))) := by
  rw [L_shift]
  simp only [impl_IsCases.j2]
theorem wOf_L (n : Nat) (hn : n ≤ 8) (c : List Int) (hc : c.length ≤ n) : L (fun k => impl_factorial.f k (wrap64 ((n : Int) - (c.length : Int)))) = some (wOf n c) ∧ 1 ≤ wOf n c ∧ wOf n c ≤ 40320 := by
  have e : wrap64 ((n : Int) - (c.length : Int)) = ((n - c.length : Nat) : Int) := by
    rw [wrap_id (by omega) (by omega)]
    omega
  rw [e]
  exact ⟨factorial_L _ (by omega), fct_pos _, fct_le8 _ (by omega)⟩
theorem isCases_l (l : List S38) (hg : Good l) (obj val : Int) (hobj : obj = 2 ∨ obj = 4) (r : List (List Int)) : ∀ (pre : List (List Int)) (y : List Int) (acc : Int), (pre ++ [y] ++ r).length ≤ 1000 → (∀ c ∈ r, c.length ≤ 1048576) → chkB l obj val y = true → 0 ≤ acc → acc + 50000 * r.length ≤ 100000000 →
    L (fun k => impl_IsCases.l0 k l obj val (pre ++ [y] ++ r) acc (pre ++ [y] ++ r) ((pre ++ [y] ++ r).length : Int) ((pre ++ [y]).length : Int)) = some (r.all (chkB l obj val) && (chainL y r && decide (acc + sumW l.length r = fct l.length)), true) := by
  have h8 := hg.1
  induction r with
  | nil =>
    intro pre y acc hb hs hy h0 h1
    rw [L_shift]
    simp only [impl_IsCases.l0, not_lt_end, if_false, L_bind, L_const, factorial_L l.length h8, Option.bind_some]
    simp only [List.all_nil, chainL, Bool.true_and, sumW, List.map_nil, List.sum_nil, Int.add_zero, Option.some.injEq, Prod.mk.injEq, and_true]
    rw [Bool.eq_iff_iff, beq_iff_eq, decide_eq_true_eq]
  | cons x r ih =>
    intro pre y acc hb hs hy h0 h1
    have hlen : (pre ++ [y] ++ x :: r).length = pre.length + 1 + (r.length + 1) := by simp; omega
    have hl : pre.length < 4611686018427387904 := by omega
    have hl2 : (pre ++ [y]).length < 4611686018427387904 := by simp; omega
    have e : rd_L5 (pre ++ [y] ++ x :: r) (pre.length : Int) = y := by rw [app_two]; exact getD_mid pre y (x :: r) _
    have e1 : rd_L5 (pre ++ [y] ++ x :: r) ((pre ++ [y]).length : Int) = x := getD_mid (pre ++ [y]) x r _
    have e3 : (((pre ++ [y]).length : Int) > 0) = True := eq_true (by simp only [List.length_append, List.length_cons, List.length_nil]; omega)
    have hx := hs x List.mem_cons_self
    obtain ⟨⟨hyr, _⟩, hyl, _⟩ := chkB_pre hy
    simp only [List.length_cons] at h1
    rw [L_shift]
    simp only [impl_IsCases.l0, lt_mid, le_nat, if_true, e1, L_ite, L_bind, areDifferent_L l.length x (by omega) (by omega), Option.bind_some, L_const, impl_IsCases_j2, e3, last_idx pre y hl, lt_mid2, e, wrap_mid _ x hl2]
    rcases Bool.eq_false_or_eq_true (diffB (l.length : Int) [] x) with hd | hd
    rotate_left
    · have : chkB l obj val x = false := by rw [chkB, hd]; rfl
      simp [this, hd]
    · obtain ⟨_, h2⟩ := boundP_L l hg x hd obj hobj
      simp only [hd, if_true, h2, Option.bind_some]
      by_cases hv : boundP l x obj < val
      · have : chkB l obj val x = false := by rw [chkB, hd, decide_eq_true hv]; rfl
        simp [this, hv]
      · have hcx : chkB l obj val x = true := by rw [chkB, hd, decide_eq_false hv]; rfl
        obtain ⟨⟨hxr, _⟩, hxl, _⟩ := chkB_pre hcx
        obtain ⟨c, hc, hc1, _⟩ := compareG_L y x (by omega) (by omega) (fun z hz => by have := hyr z hz; omega) (fun z hz => by have := hxr z hz; omega)
        have hbw := beginsWith_L x y (by omega) (by omega) (fun z hz => by have := hxr z hz; omega) (fun z hz => by have := hyr z hz; omega)
        obtain ⟨hw, hw0, hw1⟩ := wOf_L l.length h8 x hxl
        simp only [decide_eq_false hv, Bool.false_eq_true, if_false, hc, Option.bind_some, hbw, hw]
        rw [List.all_cons, hcx, Bool.true_and, chainL, lexB_less]
        by_cases hcn : c ≥ 0
        · have hlx : lexB y x = false := by
            rw [Bool.eq_false_iff]
            intro h
            have := hc1.2 h
            omega
          rw [if_pos hcn, hlx]
          simp
        · have hlx : lexB y x = true := hc1.1 (by omega)
          rw [if_neg hcn, hlx]
          cases hbb : begB x y with
          | true => simp
          | false =>
            have ew : wrap64 (acc + wOf l.length x) = acc + wOf l.length x := wrap_id (by omega) (by omega)
            simp only [Bool.false_eq_true, if_false, ew, Bool.not_false, Bool.and_self, Bool.true_and]
            rw [app_cons (pre ++ [y]) x r, ih (pre ++ [y]) x (acc + wOf l.length x) (by simpa using hb) (fun c hc => hs c (List.mem_cons_of_mem _ hc)) hcx (by omega) (by omega), sumW_cons, Int.add_assoc]
def chainsL : List (List Int) → Bool
  | [] => true
  | x :: r => chainL x r
theorem isCases_L (l : List S38) (hg : Good l) (obj val : Int) (hobj : obj = 2 ∨ obj = 4) (cs : List (List Int)) (hc : cs.length ≤ 800) (hs : ∀ c ∈ cs, c.length ≤ 1048576) :
    L (fun k => impl_IsCases.l0 k l obj val cs 0 cs (cs.length : Int) 0) = some (cs.all (chkB l obj val) && (chainsL cs && decide (sumW l.length cs = fct l.length)), true) := by
  have h8 := hg.1
  cases cs with
  | nil =>
    rw [L_shift]
    simp only [impl_IsCases.l0, List.length_nil, Int.natCast_zero, Int.lt_irrefl, if_false, L_bind, L_const, factorial_L l.length h8, Option.bind_some]
    simp only [List.all_nil, chainsL, Bool.true_and, sumW, List.map_nil, List.sum_nil, Option.some.injEq, Prod.mk.injEq, and_true]
    rw [Bool.eq_iff_iff, beq_iff_eq, decide_eq_true_eq]
  | cons x r =>
    have e : rd_L5 (x :: r) 0 = x := rfl
    have e2 : ((0 : Int) < ((x :: r).length : Int)) = True := eq_true (by simp only [List.length_cons]; omega)
    have e3 : wrap64 ((0 : Int) + 1) = 1 := (wrap_id (by omega) (by omega)).trans (by omega)
    have hx := hs x List.mem_cons_self
    simp only [List.length_cons] at hc
    rw [L_shift]
    simp only [impl_IsCases.l0, e2, Int.le_refl, if_true, e, L_ite, L_bind, areDifferent_L l.length x (by omega) (by omega), Option.bind_some, L_const, impl_IsCases_j2, if_neg (show ¬ ((0 : Int) > 0) by omega), e3]
    rcases Bool.eq_false_or_eq_true (diffB (l.length : Int) [] x) with hd | hd
    rotate_left
    · have : chkB l obj val x = false := by rw [chkB, hd]; rfl
      simp [this, hd]
    · obtain ⟨_, h2⟩ := boundP_L l hg x hd obj hobj
      simp only [hd, if_true, h2, Option.bind_some]
      by_cases hv : boundP l x obj < val
      · have : chkB l obj val x = false := by rw [chkB, hd, decide_eq_true hv]; rfl
        simp [this, hv]
      · have hcx : chkB l obj val x = true := by rw [chkB, hd, decide_eq_false hv]; rfl
        obtain ⟨_, hxl, _⟩ := chkB_pre hcx
        obtain ⟨hw, hw0, hw1⟩ := wOf_L l.length h8 x hxl
        have ew : wrap64 (0 + wOf l.length x) = wOf l.length x := by
          rw [Int.zero_add]
          exact wrap_id (by omega) (by omega)
        have h3 := isCases_l l hg obj val hobj r [] x (wOf l.length x) (by simp; omega) (fun c hc => hs c (List.mem_cons_of_mem _ hc)) hcx (by omega) (by omega)
        simp only [List.nil_append, List.singleton_append, List.length_singleton, Int.natCast_one] at h3
        simp only [decide_eq_false hv, Bool.false_eq_true, if_false, hw, Option.bind_some, ew, h3]
        rw [List.all_cons, hcx, Bool.true_and, chainsL, sumW_cons]

theorem IsCases_both (l : List S38) (obj val : Int) (cs : List (List Int)) (h : l.length ≤ 1048576) (hcs : cs.length ≤ 1048576) (hs : ∀ c ∈ cs, c.length ≤ 1048576) :
    ∃ R b : Bool, L (fun k => spec_IsCases.f k l obj val cs) = some (R, b) ∧ L (fun k => impl_IsCases.f k l obj val cs) = some (R, b) := by
  simp only [spec_IsCases.f, spec_l5Two.f, impl_IsCases.f, impl_isSplitObjective.f, L_bind, L_ite, L_const, l2Good_L l (by omega), IsJobs_L l (by omega), Option.bind_some, impl_IsCases_j0]
  cases hgb : goodB l with
  | false => exact ⟨false, false, by simp, by simp⟩
  | true =>
    have hg := goodB_iff.1 hgb
    by_cases hobj : obj = 2 ∨ obj = 4
    · have ho : (if obj = 2 then some true else some (obj == 4)) = some true := by
        rcases hobj with rfl | rfl <;> rfl
      simp only [ho, if_true, Option.bind_some, Bool.not_true, Bool.false_eq_true, if_false]
      by_cases h800 : cs.length ≤ 800
      · have h1 := l5Cases_L l hg obj val hobj cs h800 hs
        have h2 := isCases_L l hg obj val hobj cs h800 hs
        refine ⟨_, true, by rw [h1, Option.bind_some], ?_⟩
        rw [if_neg (by omega), h2]
        congr 2
        cases ha : cs.all (chkB l obj val) with
        | false => rfl
        | true =>
          rw [Bool.true_and, Bool.true_and, Bool.eq_iff_iff, Bool.and_eq_true, decide_eq_true_eq, decide_eq_true_eq, cases_iff l.length cs (fun c hc => (chkB_pre (List.all_eq_true.1 ha c hc)).1)]
          cases cs with
          | nil => simp [chainsL]
          | cons x r => rw [chainsL, chainL_iff]
      · refine ⟨false, true, ?_, by rw [if_pos (by omega)]⟩
        simp only [spec_l5Cases.f, L_ite, L_const, if_pos (show (cs.length : Int) > 800 by omega), Option.bind_some]
    · have ho : (if obj = 2 then some true else some (obj == 4)) = some false := by
        rw [if_neg (fun hc => hobj (.inl hc))]
        congr 1
        simp only [beq_eq_false_iff_ne, ne_eq]
        exact fun hc => hobj (.inr hc)
      simp only [ho, if_true, Option.bind_some, Bool.not_false, Bool.false_eq_true, if_false]
      exact ⟨false, false, rfl, rfl⟩
theorem laws_FnExactIsCases_j0f (x0 : List (S148)) (x3 : List (List Int)) (x12 : List (S38)) (x13 : List (List Int)) : L (fun k => laws_FnExactIsCases.j0 k x0 x3 x12 x13 false) = L (fun k => (laws_toJobS.f k x0).bind fun t2118 => ((laws_eqJobS.f k x12 t2118).bind fun t2121 => (if t2121 = true then ((laws_toIntSS.f k x3).bind fun t2122 => ((laws_eqIntSS.f k x13 t2122).bind fun t2125 => (if t2125 = true then (some true) else (some false)))) else (some false)))) := by
  rw [L_shift]
  simp only [laws_FnExactIsCases.j0, Bool.false_eq_true, if_false]
theorem FnExactIsCases : laws_FnExactIsCases.Pure := by
  intro l obj val cs h1 _ _ _ h2 hok
  have e1 : maxLen = 9223372036854775807 := rfl
  refine rounds_of_L ?_
  simp only [laws_FnExactIsCases.f, L_ite, L_const, szJobS_e l (by omega), L_bind]
  by_cases hl : l.length ≤ 1048576
  · rw [if_pos hl]
    obtain ⟨t, ht, hd⟩ := szIntSS_L cs (1048576 - (l.length : Int)) (by omega) (by omega) (by omega) (fun x hx => by have := (hok x hx).1; omega)
    simp only [Option.bind_some, if_neg (show ¬ (1048576 - (l.length : Int) < 0) by omega), ht]
    rcases hd with hd | ⟨hd, hp, hs⟩
    · rw [if_pos hd]
    · rw [if_neg (by omega)]
      have hl2 : (l.map toJobP).length ≤ 1048576 := by simpa using hl
      obtain ⟨R, b, hsp, him⟩ := IsCases_both (l.map toJobP) obj val cs hl2 hp hs
      simp only [Option.bind_some, L_bind, L_ite, L_const, toJobS_L l hl, toIntSS_L cs hp hs, hsp, him, eqJobS_L _ hl2, eqIntSS_L cs hp hs, laws_FnExactIsCases_j0f, if_true, bne_self_eq_false, Bool.false_eq_true, if_false]
  · rw [if_neg hl]
    simp only [Option.bind_some, if_pos (show (-1 : Int) < 0 by decide), L_const]

end Go.Proofs.Ytcgbmfcnjgmnjaa.Pure
