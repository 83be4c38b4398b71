/- The program's PrefixBound answers what the reference's answers, for all lists of jobs, beginnings and objectives. -/
import Derived.Test.YtnelkodgjfjpdaaXSFnExactPrefixBound
import Derived.Test.YtnelkodgjfjpdaaXLim
namespace Go.Proofs.Ytnelkodgjfjpdaa.Pure
open Go.RowKit Go.Proofs.YtnelkodgjfjpdaaW.PrintWords Go.Proofs.YtnelkodgjfjpdaaW.PrintLast Go.Proofs.YtnelkodgjfjpdaaW.PrintMore Go.Proofs.Ytnelkodgjfjpdaa.X Go.Proofs.Ytnelkodgjfjpdaa.XRow Go.Proofs.Ytnelkodgjfjpdaa.XLim
set_option linter.unusedVariables false
set_option linter.unusedSimpArgs false
instance : ∀ a0, Mono (fun k => impl_IsJobs.f k a0) := fun a0 => ⟨⟨impl_IsJobs.mono a0⟩⟩
instance : ∀ a0 a1 a2, Mono (fun k => impl_PrefixBound.f k a0 a1 a2) := fun a0 a1 a2 => ⟨⟨impl_PrefixBound.mono a0 a1 a2⟩⟩
instance : ∀ a0 a1, Mono (fun k => impl_areDifferent.f k a0 a1) := fun a0 a1 => ⟨⟨impl_areDifferent.mono a0 a1⟩⟩
instance : ∀ a0 a1 a2, Mono (fun k => impl_choose.f k a0 a1 a2) := fun a0 a1 a2 => ⟨⟨impl_choose.mono a0 a1 a2⟩⟩
instance : ∀ a0 a1, Mono (fun k => impl_has.f k a0 a1) := fun a0 a1 => ⟨⟨impl_has.mono a0 a1⟩⟩
instance : ∀ a0 a1 a2, Mono (fun k => impl_prefixBound.f k a0 a1 a2) := fun a0 a1 a2 => ⟨⟨impl_prefixBound.mono a0 a1 a2⟩⟩
instance : ∀ a0 a1 a2, Mono (fun k => impl_valueOfEnds.f k a0 a1 a2) := fun a0 a1 a2 => ⟨⟨impl_valueOfEnds.mono a0 a1 a2⟩⟩
instance : ∀ a0 a1 a2, Mono (fun k => laws_FnExactPrefixBound.f k a0 a1 a2) := fun a0 a1 a2 => ⟨⟨laws_FnExactPrefixBound.mono a0 a1 a2⟩⟩
instance : ∀ a0 a1, Mono (fun k => laws_eqIntS.f k a0 a1) := fun a0 a1 => ⟨⟨laws_eqIntS.mono a0 a1⟩⟩
instance : ∀ a0 a1, Mono (fun k => laws_eqJobS.f k a0 a1) := fun a0 a1 => ⟨⟨laws_eqJobS.mono a0 a1⟩⟩
instance : ∀ a0, Mono (fun k => laws_toIntS.f k a0) := fun a0 => ⟨⟨laws_toIntS.mono a0⟩⟩
instance : ∀ a0, Mono (fun k => laws_toJobS.f k a0) := fun a0 => ⟨⟨laws_toJobS.mono a0⟩⟩
instance : ∀ a0 a1 a2, Mono (fun k => spec_PrefixBound.f k a0 a1 a2) := fun a0 a1 a2 => ⟨⟨spec_PrefixBound.mono a0 a1 a2⟩⟩
instance : ∀ a0 a1, Mono (fun k => spec_l1Has.f k a0 a1) := fun a0 a1 => ⟨⟨spec_l1Has.mono a0 a1⟩⟩
instance : ∀ a0, Mono (fun k => spec_l2Good.f k a0) := fun a0 => ⟨⟨spec_l2Good.mono a0⟩⟩
instance : ∀ a0 a1 a2, Mono (fun k => spec_l2Of.f k a0 a1 a2) := fun a0 a1 a2 => ⟨⟨spec_l2Of.mono a0 a1 a2⟩⟩
instance : ∀ a0 a1 a2, Mono (fun k => spec_l5Bound.f k a0 a1 a2) := fun a0 a1 a2 => ⟨⟨spec_l5Bound.mono a0 a1 a2⟩⟩
instance : ∀ a0 a1 a2 a3, Mono (fun k => spec_l5Choose.f k a0 a1 a2 a3) := fun a0 a1 a2 a3 => ⟨⟨spec_l5Choose.mono a0 a1 a2 a3⟩⟩
instance : ∀ a0 a1 a2 a3, Mono (fun k => spec_l5Pick.f k a0 a1 a2 a3) := fun a0 a1 a2 a3 => ⟨⟨spec_l5Pick.mono a0 a1 a2 a3⟩⟩
instance : ∀ a0 a1, Mono (fun k => spec_l5Prefix.f k a0 a1) := fun a0 a1 => ⟨⟨spec_l5Prefix.mono a0 a1⟩⟩
instance : ∀ a0, Mono (fun k => spec_l5Rests.f k a0) := fun a0 => ⟨⟨spec_l5Rests.mono a0⟩⟩
instance : ∀ a0 a1, Mono (fun k => spec_l5Two.f k a0 a1) := fun a0 a1 => ⟨⟨spec_l5Two.mono a0 a1⟩⟩
theorem lt_mid {α : Type} (pre : List α) (x : α) (r : List α) : ((pre.length : Int) < ((pre ++ x :: r).length : Int)) = True := by
  simp only [List.length_append, List.length_cons]
  exact eq_true (by omega)
theorem not_lt_end {α : Type} (pre : List α) : ((pre.length : Int) < ((pre ++ []).length : Int)) = False := by
  simp
theorem le_nat (n : Nat) : (0 ≤ (n : Int)) = True := eq_true (by omega)
theorem getD_mid {α : Type} (pre : List α) (x : α) (r : List α) (d : α) : (pre ++ x :: r).getD (pre.length : Int).toNat d = x := by
  simp [List.getD_eq_getElem?_getD]
theorem rd_mid (pre : List Int) (x : Int) (r : List Int) : rd (pre ++ x :: r) (pre.length : Int) = x := getD_mid pre x r 0
theorem wrap_mid {α : Type} (pre : List α) (x : α) (h : pre.length < 4611686018427387904) : wrap64 ((pre.length : Int) + 1) = ((pre ++ [x]).length : Int) := by
  rw [wrap_id (by omega) (by omega)]
  simp
theorem set_mid {α β : Type} (a : List α) (y v : α) (b : List α) (pre : List β) (h : pre.length = a.length) : (a ++ y :: b).set (pre.length : Int).toNat v = a ++ v :: b := by
  rw [Int.toNat_natCast, h, List.set_append_right _ _ (Nat.le_refl _)]
  simp
theorem rep_succ {α : Type} (x : α) (r : List α) {β : Type} (z : β) : List.replicate (x :: r).length z = z :: List.replicate r.length z := rfl
theorem app_cons {α : Type} (pre : List α) (x : α) (r : List α) : pre ++ x :: r = (pre ++ [x]) ++ r := by simp
theorem lt0 {a : Int} (h : 0 ≤ a) : (a < 0) = False := eq_false (by omega)
theorem getD_set (out : List Int) (i j : Nat) (v : Int) : (out.set i v).getD j 0 = if i = j ∧ j < out.length then v else out.getD j 0 := by
  simp only [List.getD_eq_getElem?_getD, List.getElem?_set]
  by_cases h : i = j
  · subst h
    by_cases h2 : i < out.length
    · simp [h2]
    · simp [h2]
  · simp [h]
theorem ext_getD {a b : List Int} (hl : a.length = b.length) (h : ∀ j : Nat, j < a.length → a.getD j 0 = b.getD j 0) : a = b := by
  apply List.ext_getElem hl
  intro j h1 h2
  have := h j h1
  rwa [List.getD_eq_getElem?_getD, List.getD_eq_getElem?_getD, List.getElem?_eq_getElem h1, List.getElem?_eq_getElem h2] at this
theorem getD_mem {l : List Int} {j : Nat} (hj : j < l.length) : l.getD j 0 ∈ l := by
  rw [List.getD_eq_getElem?_getD, List.getElem?_eq_getElem hj]
  exact List.getElem_mem _
theorem toIntS_l (r : List Int) : ∀ pre : List Int, (pre ++ r).length < 4611686018427387904 → L (fun k => laws_toIntS.l0 k (pre ++ r) (pre ++ List.replicate r.length 0) (pre.length : Int)) = some (pre ++ r) := by
  induction r with
  | nil =>
    intro pre hb
    rw [L_shift]
    simp only [laws_toIntS.l0, not_lt_end, if_false, L_const, List.length_nil, List.replicate_zero]
  | cons x r ih =>
    intro pre hb
    rw [L_shift]
    have hl : pre.length < 4611686018427387904 := by simp at hb; omega
    simp only [laws_toIntS.l0, lt_mid, le_nat, if_true, rep_succ, rd_mid, wrap_mid pre x hl, set_mid pre _ x _ pre rfl]
    rw [app_cons pre x r, app_cons pre x (List.replicate _ _)]
    exact ih (pre ++ [x]) (by simpa using hb)
theorem toIntS_L (l : List Int) (h : l.length ≤ 1048576) : L (fun k => laws_toIntS.f k l) = some l := by
  simp only [laws_toIntS.f, le_nat, if_true, Int.toNat_natCast, if_pos (show l.length ≤ 35184372088832 by omega)]
  exact toIntS_l l [] (by simp; omega)
theorem eqIntS_l (r : List Int) : ∀ pre : List Int, (pre ++ r).length < 4611686018427387904 → L (fun k => laws_eqIntS.l0 k (pre ++ r) (pre ++ r) (pre.length : Int)) = some true := by
  induction r with
  | nil =>
    intro pre hb
    rw [L_shift]
    simp only [laws_eqIntS.l0, not_lt_end, if_false, L_const]
  | cons x r ih =>
    intro pre hb
    rw [L_shift]
    have hl : pre.length < 4611686018427387904 := by simp at hb; omega
    simp only [laws_eqIntS.l0, lt_mid, le_nat, if_true, rd_mid, wrap_mid pre x hl]
    rw [app_cons pre x r]
    exact ih (pre ++ [x]) (by simpa using hb)
theorem eqIntS_L (l : List Int) (h : l.length ≤ 1048576) : L (fun k => laws_eqIntS.f k l l) = some true := by
  simp only [laws_eqIntS.f, if_true]
  exact eqIntS_l l [] (by simp; omega)
def toJobP (x : S131) : S129 := ⟨x.f0, x.f1, x.f2, x.f3⟩
theorem toJobS_l (r : List S131) : ∀ pre : List S131, (pre ++ r).length < 4611686018427387904 → L (fun k => laws_toJobS.l0 k (pre ++ r) (pre.map toJobP ++ List.replicate r.length z129) (pre.length : Int)) = some ((pre ++ r).map toJobP) := by
  induction r with
  | nil =>
    intro pre hb
    rw [L_shift]
    simp only [laws_toJobS.l0, not_lt_end, if_false, L_const, List.length_nil, List.replicate_zero]
    simp
  | cons x r ih =>
    intro pre hb
    rw [L_shift]
    have hl : pre.length < 4611686018427387904 := by simp at hb; omega
    have e : rd_T131 (pre ++ x :: r) (pre.length : Int) = x := getD_mid pre x r _
    have e2 : ((pre.length : Int) < ((pre.map toJobP ++ z129 :: List.replicate r.length z129).length : Int)) = True := by
      simp only [List.length_append, List.length_cons, List.length_map]
      exact eq_true (by omega)
    simp only [laws_toJobS.l0, laws_toJob.f, lt_mid, le_nat, if_true, rep_succ, e, e2, wrap_mid pre x hl, Option.bind_some, set_mid (pre.map toJobP) _ _ _ pre (by simp)]
    have := ih (pre ++ [x]) (by simpa using hb)
    simpa [toJobP] using this
theorem toJobS_L (l : List S131) (h : l.length ≤ 1048576) : L (fun k => laws_toJobS.f k l) = some (l.map toJobP) := by
  simp only [laws_toJobS.f, le_nat, if_true, Int.toNat_natCast, if_pos (show l.length ≤ 8796093022208 by omega)]
  exact toJobS_l l [] (by simp; omega)
theorem eqJobS_l (r : List S129) : ∀ pre : List S129, (pre ++ r).length < 4611686018427387904 → L (fun k => laws_eqJobS.l0 k (pre ++ r) (pre ++ r) (pre.length : Int)) = some true := by
  induction r with
  | nil =>
    intro pre hb
    rw [L_shift]
    simp only [laws_eqJobS.l0, not_lt_end, if_false, L_const]
  | cons x r ih =>
    intro pre hb
    rw [L_shift]
    have hl : pre.length < 4611686018427387904 := by simp at hb; omega
    simp only [laws_eqJobS.l0, laws_eqJob.f, lt_mid, le_nat, if_true, wrap_mid pre x hl, Option.bind_some]
    rw [app_cons pre x r]
    exact ih (pre ++ [x]) (by simpa using hb)
theorem eqJobS_L (l : List S129) (h : l.length ≤ 1048576) : L (fun k => laws_eqJobS.f k l l) = some true := by
  simp only [laws_eqJobS.f, if_true]
  exact eqJobS_l l [] (by simp; omega)
theorem szJobS_e (l : List S131) (h : l.length ≤ 9223372036854775807) : laws_szJobS.f l 1048576 = if l.length ≤ 1048576 then some (1048576 - (l.length : Int)) else some (-1) := by
  unfold laws_szJobS.f
  have e : wrap64 (1048576 - (l.length : Int)) = 1048576 - (l.length : Int) := wrap_id (by omega) (by omega)
  rw [e]
  by_cases h2 : l.length ≤ 1048576
  · rw [if_neg (by omega), if_pos h2]
  · rw [if_pos (by omega), if_neg h2]
theorem ite_and (b c : Bool) : (if b = true then some c else some false) = some (b && c) := by cases b <;> rfl
theorem ite_not_and (b c : Bool) : (if b = true then some false else some c) = some (!b && c) := by cases b <;> rfl
theorem bind_self {α : Type} (o : Option α) : (o.bind fun t => some t) = o := by cases o <;> rfl
def inB (a lo hi : Int) : Bool := decide (lo ≤ a) && decide (a ≤ hi)
theorem inB_iff {a lo hi : Int} : inB a lo hi = true ↔ lo ≤ a ∧ a ≤ hi := by simp [inB]
theorem within_e (a lo hi : Int) : impl_within.f a lo hi = some (inB a lo hi) := by
  unfold impl_within.f inB
  by_cases h : lo ≤ a <;> simp [h]
theorem l1In_e (a lo hi : Int) : spec_l1In.f a lo hi = some (inB a lo hi) := by
  unfold spec_l1In.f inB
  by_cases h : lo ≤ a <;> simp [h]
theorem mx_e (a b : Int) : mx a b = max a b := by
  unfold mx
  omega
theorem l1Most_e (a b : Int) : spec_l1Most.f a b = some (max a b) := by
  unfold spec_l1Most.f
  by_cases h : a > b
  · rw [if_pos h]
    congr 1
    omega
  · rw [if_neg h]
    congr 1
    omega
theorem l1Has_l (x : Int) (r : List Int) : ∀ pre : List Int, (pre ++ r).length < 4611686018427387904 → L (fun k => spec_l1Has.l0 k (pre ++ r) x (pre.length : Int)) = some (decide (x ∈ r)) := by
  induction r with
  | nil =>
    intro pre hb
    rw [L_shift]
    simp only [spec_l1Has.l0, not_lt_end, if_false, L_const]
    simp
  | cons y r ih =>
    intro pre hb
    rw [L_shift]
    have hl : pre.length < 4611686018427387904 := by simp at hb; omega
    simp only [spec_l1Has.l0, lt_mid, le_nat, if_true, rd_mid, wrap_mid pre y hl, L_ite, L_const]
    rw [app_cons pre y r, ih (pre ++ [y]) (by simpa using hb)]
    by_cases h : y = x
    · subst h
      simp
    · rw [if_neg h]
      have : ¬ x = y := fun e => h e.symm
      simp [this]
theorem l1Has_L (l : List Int) (x : Int) (h : l.length < 4611686018427387904) : L (fun k => spec_l1Has.f k l x) = some (decide (x ∈ l)) := l1Has_l x l [] (by simpa using h)
theorem has_l (x : Int) (r : List Int) : ∀ pre : List Int, (pre ++ r).length < 4611686018427387904 → L (fun k => impl_has.l0 k x (pre ++ r) ((pre ++ r).length : Int) (pre.length : Int)) = some (decide (x ∈ r)) := by
  induction r with
  | nil =>
    intro pre hb
    rw [L_shift]
    simp only [impl_has.l0, not_lt_end, if_false, L_const]
    simp
  | cons y r ih =>
    intro pre hb
    rw [L_shift]
    have hl : pre.length < 4611686018427387904 := by simp at hb; omega
    simp only [impl_has.l0, lt_mid, le_nat, if_true, rd_mid, wrap_mid pre y hl, L_ite, L_const]
    rw [app_cons pre y r, ih (pre ++ [y]) (by simpa using hb)]
    by_cases h : y = x
    · subst h
      simp
    · rw [if_neg h]
      have : ¬ x = y := fun e => h e.symm
      simp [this]
theorem has_L (l : List Int) (x : Int) (h : l.length < 4611686018427387904) : L (fun k => impl_has.f k l x) = some (decide (x ∈ l)) := has_l x l [] (by simpa using h)
theorem perm_of : ∀ (a b : List Int), a.Nodup → (∀ x ∈ a, x ∈ b) → b.length ≤ a.length → a.Perm b
  | [], b, _, _, hl => by
    have : b = [] := List.length_eq_zero_iff.1 (by simpa using hl)
    rw [this]
  | x :: a, b, hn, hs, hl => by
    have hx : x ∈ b := hs x List.mem_cons_self
    have hn' := List.nodup_cons.1 hn
    have hp := List.perm_cons_erase hx
    have h1 : (b.erase x).length ≤ a.length := by
      have := List.length_erase_of_mem hx
      simp at hl
      omega
    have h2 : ∀ y ∈ a, y ∈ b.erase x := fun y hy => (List.mem_erase_of_ne (by rintro rfl; exact hn'.1 hy)).2 (hs y (List.mem_cons_of_mem _ hy))
    exact ((perm_of a (b.erase x) hn'.2 h2 h1).cons x).trans hp.symm
def numsTo (n : Nat) : List Int := (List.range n).map (fun i : Nat => (i : Int))
theorem numsTo_length (n : Nat) : (numsTo n).length = n := by simp [numsTo]
theorem mem_numsTo {n : Nat} {x : Int} : x ∈ numsTo n ↔ 0 ≤ x ∧ x < n := by
  simp only [numsTo, List.mem_map, List.mem_range]
  constructor
  · rintro ⟨i, hi, rfl⟩
    omega
  · intro h
    exact ⟨x.toNat, by omega, by omega⟩
/-- Different numbers of n things, none of them in pre. -/
def diffB (n : Int) : List Int → List Int → Bool
  | _, [] => true
  | pre, x :: r => inB x 0 (n - 1) && (!decide (x ∈ pre) && diffB n (pre ++ [x]) r)
theorem diffB_iff (n : Int) : ∀ (r pre : List Int), diffB n pre r = true ↔ (∀ x ∈ r, 0 ≤ x ∧ x < n) ∧ r.Nodup ∧ ∀ x ∈ r, x ∉ pre
  | [], pre => by simp [diffB]
  | x :: r, pre => by
    rw [diffB, Bool.and_eq_true, Bool.and_eq_true, inB_iff, diffB_iff n r (pre ++ [x])]
    simp only [Bool.not_eq_true', decide_eq_false_iff_not, List.mem_cons, List.nodup_cons, List.mem_append, List.not_mem_nil, or_false, not_or]
    constructor
    · rintro ⟨h1, h2, h3, h4, h5⟩
      refine ⟨?_, ⟨fun hx => (h5 x hx).2 rfl, h4⟩, ?_⟩
      · rintro y (rfl | hy)
        · omega
        · exact h3 y hy
      · rintro y (rfl | hy)
        · exact h2
        · exact (h5 y hy).1
    · rintro ⟨h1, ⟨h2, h3⟩, h4⟩
      exact ⟨⟨(h1 x (.inl rfl)).1, by have := (h1 x (.inl rfl)).2; omega⟩, h4 x (.inl rfl), fun y hy => h1 y (.inr hy), h3, fun y hy => ⟨h4 y (.inr hy), fun e => h2 (e ▸ hy)⟩⟩
/-- An order of n jobs. -/
def orderB (n : Nat) (l : List Int) : Bool := decide ((l.length : Int) = n) && diffB n [] l
def IsOrd (n : Nat) (l : List Int) : Prop := l.length = n ∧ (∀ x ∈ l, 0 ≤ x ∧ x < n) ∧ l.Nodup
theorem IsOrd.perm {n : Nat} {l : List Int} (h : IsOrd n l) : l.Perm (numsTo n) := perm_of l _ h.2.2 (fun x hx => mem_numsTo.2 (h.2.1 x hx)) (by rw [numsTo_length, h.1]; exact Nat.le_refl _)
theorem isNumber_e (a n : Int) (h0 : -9223372036854775807 ≤ n) (h1 : n ≤ 9223372036854775807) : impl_isNumber.f a n = some (inB a 0 (n - 1)) := by
  simp only [impl_isNumber.f, within_e, Option.bind_some]
  rw [wrap_id (by omega) (by omega)]
theorem take_mid {α : Type} (pre : List α) (r : List α) : (pre ++ r).take (pre.length : Int).toNat = pre := by simp
theorem areDifferent_l (n : Nat) (hn : n ≤ 1048576) (r : List Int) : ∀ pre : List Int, (pre ++ r).length < 4611686018427387904 → L (fun k => impl_areDifferent.l0 k (n : Int) (pre ++ r) (pre ++ r) ((pre ++ r).length : Int) (pre.length : Int)) = some (diffB n pre r) := by
  induction r with
  | nil =>
    intro pre hb
    rw [L_shift]
    simp only [impl_areDifferent.l0, not_lt_end, if_false, L_const]
    simp [diffB]
  | cons x r ih =>
    intro pre hb
    rw [L_shift]
    have hl : pre.length < 4611686018427387904 := by simp at hb; omega
    have e : ((pre.length : Int) ≤ ((pre ++ x :: r).length : Int)) = True := eq_true (by simp; omega)
    simp only [impl_areDifferent.l0, lt_mid, le_nat, if_true, rd_mid, wrap_mid pre x hl, isNumber_e x (n : Int) (by omega) (by omega), Option.bind_some, e, take_mid, L_ite, L_bind, has_L pre x hl, L_const]
    rw [app_cons pre x r, ih (pre ++ [x]) (by simpa using hb), ite_not_and, ite_and]
    rfl
theorem areDifferent_L (n : Nat) (l : List Int) (hn : n ≤ 1048576) (hl : l.length < 4611686018427387904) : L (fun k => impl_areDifferent.f k (n : Int) l) = some (diffB n [] l) := areDifferent_l n hn l [] (by simpa using hl)
def jobB (j : S129) : Bool := inB j.f0 1 50 && (inB j.f1 0 50 && (inB j.f2 0 500 && inB j.f3 0 500))
def goodB (l : List S129) : Bool := l.all jobB && decide ((l.length : Int) ≤ 8)
structure JobOk (j : S129) : Prop where
  t0 : 1 ≤ j.f0
  t1 : j.f0 ≤ 50
  w0 : 0 ≤ j.f1
  w1 : j.f1 ≤ 50
  r0 : 0 ≤ j.f2
  r1 : j.f2 ≤ 500
  d0 : 0 ≤ j.f3
  d1 : j.f3 ≤ 500
def Good (l : List S129) : Prop := l.length ≤ 8 ∧ ∀ j ∈ l, JobOk j
theorem goodB_iff {l : List S129} : goodB l = true ↔ Good l := by
  simp only [goodB, Good, Bool.and_eq_true, List.all_eq_true, decide_eq_true_eq, jobB, inB_iff]
  constructor
  · rintro ⟨h, hl⟩
    exact ⟨by omega, fun j hj => by
      obtain ⟨⟨a, b⟩, ⟨c, d⟩, ⟨e, f⟩, g, i⟩ := h j hj
      exact ⟨a, b, c, d, e, f, g, i⟩⟩
  · rintro ⟨hl, h⟩
    exact ⟨fun j hj => ⟨⟨(h j hj).t0, (h j hj).t1⟩, ⟨(h j hj).w0, (h j hj).w1⟩, ⟨(h j hj).r0, (h j hj).r1⟩, (h j hj).d0, (h j hj).d1⟩, by omega⟩
theorem l2Job_e (j : S129) : spec_l2Job.f j.f0 j.f1 j.f2 j.f3 = some (jobB j) := by
  simp only [spec_l2Job.f, l1In_e, Option.bind_some, ite_and, jobB]
theorem l2Good_l (r : List S129) : ∀ pre : List S129, (pre ++ r).length < 4611686018427387904 → L (fun k => spec_l2Good.l0 k (pre ++ r) (pre.length : Int)) = some (r.all jobB && decide (((pre ++ r).length : Int) ≤ 8)) := by
  induction r with
  | nil =>
    intro pre hb
    rw [L_shift]
    simp only [spec_l2Good.l0, not_lt_end, if_false, L_const]
    simp
  | cons x r ih =>
    intro pre hb
    rw [L_shift]
    have hl : pre.length < 4611686018427387904 := by simp at hb; omega
    have e : rd_T129 (pre ++ x :: r) (pre.length : Int) = x := getD_mid pre x r _
    simp only [spec_l2Good.l0, lt_mid, le_nat, if_true, e, wrap_mid pre x hl, l2Job_e, Option.bind_some, L_ite, L_const]
    rw [app_cons pre x r, ih (pre ++ [x]) (by simpa using hb), ite_and]
    rw [List.all_cons, Bool.and_assoc]
theorem l2Good_L (l : List S129) (h : l.length < 4611686018427387904) : L (fun k => spec_l2Good.f k l) = some (goodB l) := by
  have := l2Good_l l [] (by simpa using h)
  simpa [goodB, spec_l2Good.f] using this
theorem isDate_e (n : Int) : impl_isDate.f n = some (inB n 0 500) := by
  simp only [impl_isDate.f, within_e, Option.bind_some]
theorem IsJobs_l (r : List S129) : ∀ pre : List S129, (pre ++ r).length < 4611686018427387904 → L (fun k => impl_IsJobs.l0 k (pre ++ r) ((pre ++ r).length : Int) (pre.length : Int)) = some (r.all jobB) := by
  induction r with
  | nil =>
    intro pre hb
    rw [L_shift]
    simp only [impl_IsJobs.l0, not_lt_end, if_false, L_const]
    simp
  | cons x r ih =>
    intro pre hb
    rw [L_shift]
    have hl : pre.length < 4611686018427387904 := by simp at hb; omega
    have e : rd_T129 (pre ++ x :: r) (pre.length : Int) = x := getD_mid pre x r _
    simp only [impl_IsJobs.l0, lt_mid, le_nat, if_true, e, wrap_mid pre x hl, within_e, isDate_e, Option.bind_some, L_ite, L_const]
    rw [app_cons pre x r, ih (pre ++ [x]) (by simpa using hb)]
    simp only [ite_and, List.all_cons, jobB, Bool.and_assoc]
theorem IsJobs_L (l : List S129) (h : l.length < 4611686018427387904) : L (fun k => impl_IsJobs.f k l) = some (goodB l) := by
  have := IsJobs_l l [] (by simpa using h)
  simp only [List.nil_append, List.length_nil, Int.natCast_zero] at this
  simp only [impl_IsJobs.f, L_ite, L_const, this, goodB]
  by_cases h8 : (l.length : Int) ≤ 8
  · rw [if_neg (by omega)]
    simp [h8]
  · rw [if_pos (by omega)]
    simp [h8]
def timeSum (l : List S129) : Int := (l.map (·.f0)).sum
theorem timeSum_cons (x : S129) (l : List S129) : timeSum (x :: l) = x.f0 + timeSum l := by simp [timeSum]
theorem timeSum_bounds (l : List S129) (h : ∀ j ∈ l, JobOk j) : 0 ≤ timeSum l ∧ timeSum l ≤ 50 * l.length := by
  induction l with
  | nil => simp [timeSum]
  | cons x l ih =>
    rw [timeSum_cons]
    have := ih (fun j hj => h j (List.mem_cons_of_mem _ hj))
    have hx := h x List.mem_cons_self
    have := hx.t0
    have := hx.t1
    simp only [List.length_cons]
    omega
def jobAt (l : List S129) (x : Int) : S129 := l.getD x.toNat z129
theorem jobAt_mem {l : List S129} {x : Int} (h0 : 0 ≤ x) (h1 : x < l.length) : jobAt l x ∈ l := by
  unfold jobAt
  rw [List.getD_eq_getElem?_getD, List.getElem?_eq_getElem (by omega)]
  exact List.getElem_mem _
/-- The ends, put into out by the jobs' numbers. -/
def endsF (l : List S129) : List Int → List Int → Int → List Int
  | [], out, _ => out
  | x :: r, out, now => endsF l r (out.set x.toNat (max now (jobAt l x).f2 + (jobAt l x).f0)) (max now (jobAt l x).f2 + (jobAt l x).f0)
def startsF (l : List S129) : List Int → List Int → Int → List Int
  | [], out, _ => out
  | x :: r, out, now => startsF l r (out.set x.toNat (max now (jobAt l x).f2)) (max now (jobAt l x).f2 + (jobAt l x).f0)
def endsP (l : List S129) (o : List Int) : List Int := endsF l o (List.replicate l.length 0) 0
def startsP (l : List S129) (o : List Int) : List Int := startsF l o (List.replicate l.length 0) 0
theorem endsF_length (l : List S129) : ∀ (o out : List Int) (now : Int), (endsF l o out now).length = out.length
  | [], out, now => rfl
  | x :: r, out, now => by rw [endsF, endsF_length l r, List.length_set]
theorem ends_bounds (l : List S129) (hg : Good l) : ∀ (o E : List Int) (now : Int), 0 ≤ now → now ≤ 500 + 50 * (8 - o.length : Int) → o.length ≤ 8 → (∀ x ∈ o, 0 ≤ x ∧ x < (l.length : Int)) → (∀ v ∈ E, 0 ≤ v ∧ v ≤ 900) → ∀ v ∈ endsF l o E now, 0 ≤ v ∧ v ≤ 900
  | [], E, now, _, _, _, _, hE => hE
  | x :: r, E, now, h0, h1, hl, hx, hE => by
    rw [endsF]
    have hx0 := hx x List.mem_cons_self
    have hj := hg.2 _ (jobAt_mem hx0.1 hx0.2)
    have a0 := hj.t0
    have a1 := hj.t1
    have a2 := hj.r0
    have a3 := hj.r1
    simp only [List.length_cons] at h1 hl
    refine ends_bounds l hg r _ _ (by omega) (by omega) (by omega) (fun y hy => hx y (List.mem_cons_of_mem _ hy)) (fun v hv => ?_)
    rcases List.mem_or_eq_of_mem_set hv with h | h
    · exact hE v h
    · rw [h]
      omega
def maxTo (v : Int) (l : List Int) : Int := l.foldl max v
theorem mul_bd {w e : Int} (w0 : 0 ≤ w) (w1 : w ≤ 50) (e0 : 0 ≤ e) (e1 : e ≤ 1000) : 0 ≤ w * e ∧ w * e ≤ 50000 := by
  have h1 : w * e ≤ 50 * e := Int.mul_le_mul_of_nonneg_right w1 e0
  have h2 : 0 ≤ w * e := Int.mul_nonneg w0 e0
  omega
/-- What a job with an end adds to a value. -/
def addF (v : Int) (j : S129) (e obj : Int) (first : Bool) : Int :=
  if obj = 1 then max v e else if obj = 2 then v + e else if obj = 3 then v + j.f1 * e else if obj = 4 then (if first = true then e - j.f3 else max v (e - j.f3))
  else if obj = 5 then v + max 0 (e - j.f3) else if obj = 6 then v + j.f1 * max 0 (e - j.f3) else if e - j.f3 ≤ 0 then v else if obj = 7 then v + 1 else v + j.f1
theorem addF_bd (v : Int) (j : S129) (e obj : Int) (first : Bool) (hj : JobOk j) (he0 : 0 ≤ e) (he1 : e ≤ 1000) {B : Int} (hB : 0 ≤ B) (hv0 : -B ≤ v) (hv1 : v ≤ B) : -(B + 100000) ≤ addF v j e obj first ∧ addF v j e obj first ≤ B + 100000 := by
  have a2 := hj.d0
  have a3 := hj.d1
  have m1 := mul_bd hj.w0 hj.w1 he0 he1
  have m2 := mul_bd hj.w0 hj.w1 (show 0 ≤ max 0 (e - j.f3) by omega) (by omega)
  have w0 := hj.w0
  have w1 := hj.w1
  unfold addF
  repeat' split
  all_goals omega
theorem add_e (v : Int) (j : S129) (e obj : Int) (first : Bool) (hj : JobOk j) (he0 : 0 ≤ e) (he1 : e ≤ 1000) (hv0 : -1000000000 ≤ v) (hv1 : v ≤ 1000000000) : impl_add.f v j.f0 j.f1 j.f2 j.f3 e obj first = some (addF v j e obj first) := by
  have a2 := hj.d0
  have a3 := hj.d1
  have m1 := mul_bd hj.w0 hj.w1 he0 he1
  have m2 := mul_bd hj.w0 hj.w1 (show 0 ≤ max 0 (e - j.f3) by omega) (by omega)
  have w0 := hj.w0
  have w1 := hj.w1
  unfold impl_add.f addF
  simp only [mx_e]
  rw [wrap_id (show -9223372036854775808 ≤ e - j.f3 by omega) (by omega), wrap_id (show -9223372036854775808 ≤ v + e by omega) (by omega), wrap_id (show -9223372036854775808 ≤ j.f1 * e by omega) (by omega), wrap_id (show -9223372036854775808 ≤ v + j.f1 * e by omega) (by omega), wrap_id (show -9223372036854775808 ≤ v + max 0 (e - j.f3) by omega) (by omega), wrap_id (show -9223372036854775808 ≤ j.f1 * max 0 (e - j.f3) by omega) (by omega), wrap_id (show -9223372036854775808 ≤ v + j.f1 * max 0 (e - j.f3) by omega) (by omega), wrap_id (show -9223372036854775808 ≤ v + 1 by omega) (by omega), wrap_id (show -9223372036854775808 ≤ v + j.f1 by omega) (by omega)]
  repeat' split
  all_goals first | rfl | contradiction
/-- The value of an objective for ends. -/
def valF (obj : Int) : Int → Bool → List S129 → List Int → Int
  | v, _, [], _ => v
  | v, _, _, [] => v
  | v, first, j :: js, e :: es => valF obj (addF v j e obj first) false js es
def valP (obj : Int) (l : List S129) (es : List Int) : Int := valF obj 0 true l es
theorem valueOfEnds_l (obj : Int) (r : List S129) (hr : ∀ j ∈ r, JobOk j) : ∀ (pre : List S129) (pe es : List Int) (v : Int), (pre ++ r).length < 4611686018427387904 → pe.length = pre.length → es.length = r.length → (∀ e ∈ es, 0 ≤ e ∧ e ≤ 1000) → -(100000 * (1000 - r.length : Int)) ≤ v → v ≤ 100000 * (1000 - r.length : Int) → r.length ≤ 100 →
    L (fun k => impl_valueOfEnds.l0 k (pe ++ es) obj v (pre ++ r) ((pre ++ r).length : Int) (pre.length : Int)) = some (valF obj v (decide (pre.length = 0)) r es) := by
  induction r with
  | nil =>
    intro pre pe es v hb hpe hes _ _ _ _
    rw [L_shift]
    simp only [impl_valueOfEnds.l0, not_lt_end, if_false, L_const, valF]
  | cons x r ih =>
    intro pre pe es v hb hpe hes he h0 h1 h2
    match es, hes with
    | y :: es, hes =>
      rw [L_shift]
      have hl : pre.length < 4611686018427387904 := by simp at hb; omega
      have e : rd_T129 (pre ++ x :: r) (pre.length : Int) = x := getD_mid pre x r _
      have e1 : rd (pe ++ y :: es) (pre.length : Int) = y := by rw [← hpe]; exact rd_mid pe y es
      have e2 : ((pre.length : Int) < ((pe ++ y :: es).length : Int)) = True := by rw [← hpe]; exact lt_mid pe y es
      have e3 : ((pre.length : Int) == 0) = decide (pre.length = 0) := by
        by_cases h : pre.length = 0
        · rw [h]; rfl
        · rw [decide_eq_false h]
          simp
          exact fun e => h (by rw [e]; rfl)
      have hx := hr x List.mem_cons_self
      have hy := he y List.mem_cons_self
      simp only [List.length_cons] at h0 h1 h2 hes
      have hbd := addF_bd v x y obj (decide (pre.length = 0)) hx hy.1 hy.2 (B := 100000 * (1000 - (r.length + 1 : Nat) : Int)) (by omega) (by omega) (by omega)
      simp only [impl_valueOfEnds.l0, lt_mid, le_nat, if_true, e, e1, e2, e3, wrap_mid pre x hl, add_e v x y obj _ hx hy.1 hy.2 (by omega) (by omega), Option.bind_some]
      rw [app_cons pre x r, app_cons pe y es, ih (fun j hj => hr j (List.mem_cons_of_mem _ hj)) (pre ++ [x]) (pe ++ [y]) es _ (by simpa using hb) (by simp [hpe]) (by omega) (fun e he' => he e (List.mem_cons_of_mem _ he')) (by omega) (by omega) (by omega), valF]
      simp
theorem valueOfEnds_L (l : List S129) (hg : Good l) (es : List Int) (hes : es.length = l.length) (he : ∀ e ∈ es, 0 ≤ e ∧ e ≤ 1000) (obj : Int) : L (fun k => impl_valueOfEnds.f k l es obj) = some (valP obj l es) := by
  have h8 := hg.1
  have := valueOfEnds_l obj l hg.2 [] [] es 0 (by simp; omega) rfl hes he (by omega) (by omega) (by omega)
  simpa [impl_valueOfEnds.f, valP] using this
def objB (obj : Int) : Bool := inB obj 1 8
theorem objB_iff {n : Int} : objB n = true ↔ n = 1 ∨ n = 2 ∨ n = 3 ∨ n = 4 ∨ n = 5 ∨ n = 6 ∨ n = 7 ∨ n = 8 := by
  rw [objB, inB_iff]
  omega
theorem l2Cost_e (v : Int) (j : S129) (e obj : Int) (first : Bool) (hj : JobOk j) (he0 : 0 ≤ e) (he1 : e ≤ 1000) (ho : objB obj = true) (h1 : obj ≠ 1) (h4 : obj ≠ 4) : ∃ c, spec_l2Cost.f j.f0 j.f1 j.f2 j.f3 e obj = some c ∧ v + c = addF v j e obj first := by
  have a2 := hj.d0
  have a3 := hj.d1
  have m1 := mul_bd hj.w0 hj.w1 he0 he1
  have m2 := mul_bd hj.w0 hj.w1 (show 0 ≤ max (e - j.f3) 0 by omega) (by omega)
  have em : max (e - j.f3) 0 = max 0 (e - j.f3) := by omega
  simp only [spec_l2Cost.f, l1Most_e, Option.bind_some, wrap_id (show -9223372036854775808 ≤ e - j.f3 by omega) (show e - j.f3 ≤ 9223372036854775807 by omega), wrap_id (show -9223372036854775808 ≤ j.f1 * e by omega) (by omega), wrap_id (show -9223372036854775808 ≤ j.f1 * max (e - j.f3) 0 by omega) (by omega)]
  rcases objB_iff.1 ho with rfl | rfl | rfl | rfl | rfl | rfl | rfl | rfl
  · exact absurd rfl h1
  · exact ⟨_, rfl, rfl⟩
  · exact ⟨_, rfl, rfl⟩
  · exact absurd rfl h4
  · exact ⟨_, rfl, by rw [em]; rfl⟩
  · exact ⟨_, rfl, by rw [em]; rfl⟩
  · by_cases h : e - j.f3 ≤ 0
    · exact ⟨0, by simp; omega, by simp [addF, h]⟩
    · exact ⟨1, by simp; omega, by simp [addF, h]⟩
  · by_cases h : e - j.f3 ≤ 0
    · exact ⟨0, by simp; omega, by simp [addF, h]⟩
    · exact ⟨j.f1, by simp; omega, by simp [addF, h]⟩
theorem l2Of_l (obj : Int) (hobj : objB obj = true) (r : List S129) (hr : ∀ j ∈ r, JobOk j) : ∀ (pre : List S129) (pe es : List Int) (v : Int), (pre ++ r).length < 4611686018427387904 → pe.length = pre.length → es.length = r.length → (∀ e ∈ es, 0 ≤ e ∧ e ≤ 1000) → -(100000 * (1000 - r.length : Int)) ≤ v → v ≤ 100000 * (1000 - r.length : Int) → r.length ≤ 100 → (pre.length = 0 → v = 0) →
    L (fun k => spec_l2Of.l0 k (pre ++ r) (pe ++ es) obj v (pre.length : Int)) = some (valF obj v (decide (pre.length = 0)) r es) := by
  induction r with
  | nil =>
    intro pre pe es v hb hpe hes _ _ _ _ _
    rw [L_shift]
    simp only [spec_l2Of.l0, not_lt_end, if_false, L_const, valF]
  | cons x r ih =>
    intro pre pe es v hb hpe hes he h0 h1 h2 hv
    match es, hes with
    | y :: es, hes =>
      have hl : pre.length < 4611686018427387904 := by simp at hb; omega
      have e : rd_T129 (pre ++ x :: r) (pre.length : Int) = x := getD_mid pre x r _
      have e1 : rd (pe ++ y :: es) (pre.length : Int) = y := by rw [← hpe]; exact rd_mid pe y es
      have e2 : ((pre.length : Int) < ((pe ++ y :: es).length : Int)) = True := by rw [← hpe]; exact lt_mid pe y es
      have hx := hr x List.mem_cons_self
      have hy := he y List.mem_cons_self
      simp only [List.length_cons] at h0 h1 h2 hes
      have hbd := addF_bd v x y obj (decide (pre.length = 0)) hx hy.1 hy.2 (B := 100000 * (1000 - (r.length + 1 : Nat) : Int)) (by omega) (by omega) (by omega)
      have a2 := hx.d0
      have a3 := hx.d1
      have hstep : L (fun k => spec_l2Of.l0 k (pre ++ x :: r) (pe ++ y :: es) obj v (pre.length : Int)) = L (fun k => spec_l2Of.l0 k (pre ++ x :: r) (pe ++ y :: es) obj (addF v x y obj (decide (pre.length = 0))) ((pre ++ [x]).length : Int)) := by
        rw [L_shift]
        simp only [spec_l2Of.l0, lt_mid, le_nat, if_true, e, e1, e2, wrap_mid pre x hl]
        by_cases h4 : obj = 4
        · subst h4
          simp only [spec_l2Greatest.f, Option.bind_some, wrap_id (show -9223372036854775808 ≤ y - x.f3 by omega) (show y - x.f3 ≤ 9223372036854775807 by omega)]
          by_cases hp : pre.length = 0
          · simp [hp, addF]
          · have hp2 : ¬ pre = [] := fun h => hp (by rw [h]; rfl)
            by_cases hc : y - x.f3 > v
            · have : max v (y - x.f3) = y - x.f3 := by omega
              simp [hp2, addF, hc, this]
            · have : max v (y - x.f3) = v := by omega
              simp [hp2, addF, hc, this]
        · by_cases h1' : obj = 1
          · subst h1'
            simp only [spec_l2Greatest.f, Option.bind_some]
            by_cases hp : pre.length = 0
            · have : max v y = y := by have := hv hp; omega
              simp [hp, addF, this]
            · have hp2 : ¬ pre = [] := fun h => hp (by rw [h]; rfl)
              by_cases hc : y > v
              · have : max v y = y := by omega
                simp [hp2, addF, hc, this]
              · have : max v y = v := by omega
                simp [hp2, addF, hc, this]
          · obtain ⟨c, hc, hv2⟩ := l2Cost_e v x y obj (decide (pre.length = 0)) hx hy.1 hy.2 hobj h1' h4
            have hg : spec_l2Greatest.f obj = some false := by simp [spec_l2Greatest.f, h1', h4]
            simp only [hg, Option.bind_some, hc, hv2, wrap_id (show -9223372036854775808 ≤ addF v x y obj (decide (pre.length = 0)) by omega) (show addF v x y obj (decide (pre.length = 0)) ≤ 9223372036854775807 by omega)]
            simp
      rw [hstep, app_cons pre x r, app_cons pe y es, ih (fun j hj => hr j (List.mem_cons_of_mem _ hj)) (pre ++ [x]) (pe ++ [y]) es _ (by simpa using hb) (by simp [hpe]) (by omega) (fun e he' => he e (List.mem_cons_of_mem _ he')) (by omega) (by omega) (by omega) (by simp), valF]
      simp
theorem l2Of_L (l : List S129) (hg : Good l) (es : List Int) (hes : es.length = l.length) (he : ∀ e ∈ es, 0 ≤ e ∧ e ≤ 1000) (obj : Int) (hobj : objB obj = true) : L (fun k => spec_l2Of.f k l es obj) = some (valP obj l es) := by
  have h8 := hg.1
  have := l2Of_l obj hobj l hg.2 [] [] es 0 (by simp; omega) rfl hes he (by omega) (by omega) (by omega) (fun _ => rfl)
  simpa [spec_l2Of.f, valP] using this
theorem l1Own_e (l : List Int) (h : l.length ≤ 1048576) : spec_l1Own.f l = some l := by
  simp only [spec_l1Own.f, Option.bind_some, List.length_nil, List.nil_append]
  rw [if_pos (by omega)]
/-- Nothing is to be done of a job now. -/
def skipJ (rest : List Int) (now : Int) (i : Int) (j : S129) : Prop := rd rest i = 0 ∨ j.f2 > now
instance (rest : List Int) (now i : Int) (j : S129) : Decidable (skipJ rest now i j) := by unfold skipJ; infer_instance
def pickStep (l : List S129) (rest : List Int) (now obj b i : Int) (j : S129) : Int :=
  if skipJ rest now i j then b else if b < 0 then i else if obj = 2 then (if rd rest i < rd rest b then i else b) else (if j.f3 < (jobAt l b).f3 then i else b)
/-- The job that is picked: from place i on, b so far. -/
def pickL (l : List S129) (rest : List Int) (now obj : Int) : Int → Nat → List S129 → Int
  | b, _, [] => b
  | b, i, j :: r => pickL l rest now obj (pickStep l rest now obj b (i : Int) j) (i + 1) r
theorem pickStep_or (l : List S129) (rest : List Int) (now obj b i : Int) (j : S129) : pickStep l rest now obj b i j = b ∨ (pickStep l rest now obj b i j = i ∧ ¬ skipJ rest now i j) := by
  unfold pickStep
  by_cases h : skipJ rest now i j
  · exact .inl (if_pos h)
  · rw [if_neg h]
    repeat' split
    all_goals first | exact .inl rfl | exact .inr ⟨rfl, h⟩
theorem pickStep_neg {l : List S129} {rest : List Int} {now obj b i : Int} {j : S129} (hi : 0 ≤ i) (h : pickStep l rest now obj b i j < 0) : b < 0 ∧ skipJ rest now i j := by
  unfold pickStep at h
  by_cases hs : skipJ rest now i j
  · rw [if_pos hs] at h
    exact ⟨h, hs⟩
  · rw [if_neg hs] at h
    exfalso
    split at h
    · omega
    · split at h
      · split at h <;> omega
      · split at h <;> omega
theorem pickL_neg (l : List S129) (rest : List Int) (now obj : Int) : ∀ (r pre : List S129) (b : Int), pickL l rest now obj b pre.length r < 0 → b < 0 ∧ ∀ (i : Nat) (j : S129), r[i]? = some j → skipJ rest now ((pre.length + i : Nat) : Int) j
  | [], pre, b, h => ⟨h, fun i j hj => by simp at hj⟩
  | x :: r, pre, b, h => by
    rw [pickL] at h
    have e : pre.length + 1 = (pre ++ [x]).length := by simp
    rw [e] at h
    obtain ⟨h1, h2⟩ := pickL_neg l rest now obj r (pre ++ [x]) _ h
    obtain ⟨h3, h4⟩ := pickStep_neg (by omega) h1
    refine ⟨h3, fun i j hj => ?_⟩
    cases i with
    | zero =>
      simp only [List.getElem?_cons_zero, Option.some.injEq] at hj
      subst hj
      exact h4
    | succ i =>
      have := h2 i j (by simpa using hj)
      have e2 : (pre ++ [x]).length + i = pre.length + (i + 1) := by simp; omega
      rwa [e2] at this
theorem pickL_pos (l : List S129) (rest : List Int) (now obj : Int) : ∀ (r pre : List S129) (b : Int), pickL l rest now obj b pre.length r = b ∨ ∃ (i : Nat) (j : S129), r[i]? = some j ∧ pickL l rest now obj b pre.length r = ((pre.length + i : Nat) : Int) ∧ ¬ skipJ rest now ((pre.length + i : Nat) : Int) j
  | [], pre, b => .inl rfl
  | x :: r, pre, b => by
    rw [pickL]
    have e : pre.length + 1 = (pre ++ [x]).length := by simp
    rw [e]
    rcases pickL_pos l rest now obj r (pre ++ [x]) (pickStep l rest now obj b pre.length x) with h | ⟨i, j, h1, h2, h3⟩
    · rw [h]
      rcases pickStep_or l rest now obj b pre.length x with h | ⟨h1, h2⟩
      · exact .inl h
      · exact .inr ⟨0, x, rfl, h1, h2⟩
    · have e2 : (pre ++ [x]).length + i = pre.length + (i + 1) := by simp; omega
      rw [e2] at h2 h3
      exact .inr ⟨i + 1, j, by simpa using h1, h2, h3⟩
def pickP (l : List S129) (rest : List Int) (now obj : Int) : Int := pickL l rest now obj (-1) 0 l
theorem pickP_neg {l : List S129} {rest : List Int} {now obj : Int} (h : pickP l rest now obj < 0) : ∀ i : Nat, i < l.length → rest.getD i 0 = 0 ∨ (l.getD i z129).f2 > now := fun i hi => by
  have := (pickL_neg l rest now obj l [] (-1) h).2 i (l.getD i z129) (by rw [List.getD_eq_getElem?_getD, List.getElem?_eq_getElem hi]; rfl)
  simpa [skipJ, rd] using this
theorem pickP_pos {l : List S129} {rest : List Int} {now obj : Int} (h : 0 ≤ pickP l rest now obj) : pickP l rest now obj < (l.length : Int) ∧ rd rest (pickP l rest now obj) ≠ 0 := by
  rcases pickL_pos l rest now obj l [] (-1) with h1 | ⟨i, j, h1, h2, h3⟩
  · unfold pickP at h
    simp only [List.length_nil] at h1
    omega
  · simp only [List.length_nil, Nat.zero_add] at h2 h3
    have hi : i < l.length := (List.getElem?_eq_some_iff.1 h1).1
    unfold pickP
    rw [h2]
    exact ⟨by omega, fun e => h3 (.inl e)⟩
theorem spec_l5Pick_j1 (x0 : List (S129)) (x1 : List Int) (x2 : Int) (x3 : Int) (x9 : Int) (x10 : Int) (x30 : Bool) : L (fun k => spec_l5Pick.j1 k x0 x1 x2 x3 x9 x10 x30) = L (fun k => if x30 = true then (spec_l5Pick.l0 k x0 x1 x2 x3 x9 (wrap64 (x10 + 1))) else (if x9 < 0 then (spec_l5Pick.l0 k x0 x1 x2 x3 x10 (wrap64 (x10 + 1))) else (if x3 = 2 then (if 0 ≤ x10 then (if x10 < (x1.length : Int) then (if 0 ≤ x9 then (if x9 < (x1.length : Int) then (if (rd x1 x10) < (rd x1 x9) then (spec_l5Pick.l0 k x0 x1 x2 x3 x10 (wrap64 (x10 + 1))) else (if x3 = 4 then (if x10 < (x0.length : Int) then (if x9 < (x0.length : Int) then (if ((rd_T129 x0 x10).f3) < ((rd_T129 x0 x9).f3) then (spec_l5Pick.l0 k x0 x1 x2 x3 x10 (wrap64 (x10 + 1))) else (spec_l5Pick.l0 k x0 x1 x2 x3 x9 (wrap64 (x10 + 1)))) else (none)) else (none)) else (spec_l5Pick.l0 k x0 x1 x2 x3 x9 (wrap64 (x10 + 1))))) else (none)) else (none)) else (none)) else (none)) else (if x3 = 4 then (if 0 ≤ x10 then (if x10 < (x0.length : Int) then (if 0 ≤ x9 then (if x9 < (x0.length : Int) then (if ((rd_T129 x0 x10).f3) < ((rd_T129 x0 x9).f3) then (spec_l5Pick.l0 k x0 x1 x2 x3 x10 (wrap64 (x10 + 1))) else (spec_l5Pick.l0 k x0 x1 x2 x3 x9 (wrap64 (x10 + 1)))) else (none)) else (none)) else (none)) else (none)) else (spec_l5Pick.l0 k x0 x1 x2 x3 x9 (wrap64 (x10 + 1))))))) := by
  rw [L_shift]
  simp only [spec_l5Pick.j1]
theorem l5Pick_l (l : List S129) (rest : List Int) (now obj : Int) (hobj : obj = 2 ∨ obj = 4) (hrest : rest.length = l.length) (h8 : l.length ≤ 1000) (r : List S129) : ∀ (pre : List S129) (b : Int), l = pre ++ r → (b < 0 ∨ (0 ≤ b ∧ b < (l.length : Int))) →
    L (fun k => spec_l5Pick.l0 k l rest now obj b (pre.length : Int)) = some (pickL l rest now obj b pre.length r) := by
  induction r with
  | nil =>
    intro pre b hl hb
    rw [L_shift]
    subst hl
    simp only [spec_l5Pick.l0, not_lt_end, if_false, L_const, pickL]
  | cons x r ih =>
    intro pre b hl hb
    have hlen : l.length = pre.length + (r.length + 1) := by rw [hl]; simp
    have e : rd_T129 l (pre.length : Int) = x := by rw [hl]; exact getD_mid pre x r _
    have ew : wrap64 ((pre.length : Int) + 1) = ((pre ++ [x]).length : Int) := wrap_mid pre x (by omega)
    have ihs := ih (pre ++ [x]) (pickStep l rest now obj b pre.length x) (by rw [hl]; simp) (by
      rcases pickStep_or l rest now obj b pre.length x with h | ⟨h, _⟩
      · rw [h]; exact hb
      · rw [h]; right; omega)
    have el : (pre ++ [x]).length = pre.length + 1 := by simp
    have key : L (fun k => spec_l5Pick.l0 k l rest now obj b (pre.length : Int)) = L (fun k => spec_l5Pick.l0 k l rest now obj (pickStep l rest now obj b pre.length x) ((pre ++ [x]).length : Int)) := by
      rw [L_shift]
      simp only [spec_l5Pick.l0, if_pos (show (pre.length : Int) < (l.length : Int) by omega), le_nat, if_true, if_pos (show (pre.length : Int) < (rest.length : Int) by omega), e, L_ite, spec_l5Pick_j1, ew]
      by_cases hr0 : rd rest (pre.length : Int) = 0
      · have hp : pickStep l rest now obj b pre.length x = b := if_pos (.inl hr0)
        simp only [if_pos hr0, hp, if_true]
      · rw [if_neg hr0]
        by_cases hrel : x.f2 > now
        · have hp : pickStep l rest now obj b pre.length x = b := if_pos (.inr hrel)
          rw [hp, decide_eq_true hrel]
          simp
        · have hsk : ¬ skipJ rest now pre.length x := fun h => h.elim hr0 hrel
          rw [decide_eq_false hrel]
          simp only [Bool.false_eq_true, if_false]
          unfold pickStep
          rw [if_neg hsk]
          by_cases hb0 : b < 0
          · rw [if_pos hb0, if_pos hb0]
          · rw [if_neg hb0, if_neg hb0]
            have hb1 : 0 ≤ b ∧ b < (l.length : Int) := by omega
            have e3 : rd_T129 l b = jobAt l b := rfl
            rcases hobj with rfl | rfl
            · simp only [if_pos (show (pre.length : Int) < (rest.length : Int) by omega), if_pos hb1.1, if_pos (show b < (rest.length : Int) by omega), if_true]
              by_cases hc : rd rest (pre.length : Int) < rd rest b
              · simp only [if_pos hc]
              · simp only [if_neg hc, if_neg (show ¬ ((2 : Int) = 4) by decide)]
            · simp only [if_neg (show ¬ ((4 : Int) = 2) by decide), if_true, if_pos (show (pre.length : Int) < (l.length : Int) by omega), if_pos hb1.1, if_pos hb1.2, e3]
              by_cases hc : x.f3 < (jobAt l b).f3
              · simp only [if_pos hc]
              · simp only [if_neg hc]
    rw [key, ihs, pickL, el]
theorem l5Pick_L (l : List S129) (rest : List Int) (now obj : Int) (hobj : obj = 2 ∨ obj = 4) (hrest : rest.length = l.length) (h8 : l.length ≤ 1000) : L (fun k => spec_l5Pick.f k l rest now obj) = some (pickP l rest now obj) := by
  have := l5Pick_l l rest now obj hobj hrest h8 l [] (-1) rfl (by omega)
  simpa [spec_l5Pick.f, pickP] using this
theorem impl_choose_j4 (x0 : List (S129)) (x2 : Int) (x8 : List Int) (x9 : List Int) (x10 : Int) (x11 : Int) (x16 : List (S203)) (x17 : Int) (x18 : Int) (x76 : List (S129)) (x77 : Int) (x78 : Int) (x93 : Bool) (x439000 : Int) (x439001 : Int) (x439002 : Int) (x439003 : Int) : L (fun k => impl_choose.j4 k x0 x2 x8 x9 x10 x11 x16 x17 x18 x76 x77 x78 x93 x439000 x439001 x439002 x439003) = L (fun k => if x93 = true then (impl_choose.l3 k x0 x2 x8 x9 x10 x11 x16 x17 x76 x77 (wrap64 (x78 + 1))) else (if x17 < 0 then (impl_choose.l3 k x0 x2 x8 x9 x10 x11 x16 x18 x76 x77 (wrap64 (x78 + 1))) else (if x2 = 2 then (if 0 ≤ x18 then (if x18 < (x8.length : Int) then (if 0 ≤ x17 then (if x17 < (x8.length : Int) then (if (rd x8 x18) < (rd x8 x17) then (impl_choose.l3 k x0 x2 x8 x9 x10 x11 x16 x18 x76 x77 (wrap64 (x78 + 1))) else (impl_choose.l3 k x0 x2 x8 x9 x10 x11 x16 x17 x76 x77 (wrap64 (x78 + 1)))) else (none)) else (none)) else (none)) else (none)) else (if 0 ≤ x17 then (if x17 < (x0.length : Int) then (if x439003 < ((rd_T129 x0 x17).f3) then (impl_choose.l3 k x0 x2 x8 x9 x10 x11 x16 x18 x76 x77 (wrap64 (x78 + 1))) else (impl_choose.l3 k x0 x2 x8 x9 x10 x11 x16 x17 x76 x77 (wrap64 (x78 + 1)))) else (none)) else (none))))) := by
  rw [L_shift]
  simp only [impl_choose.j4]
theorem choose_scan (l : List S129) (rest ends : List Int) (left now obj : Int) (spans : List S203) (hobj : obj = 2 ∨ obj = 4) (hrest : rest.length = l.length) (h8 : l.length ≤ 1000) (r : List S129) : ∀ (pre : List S129) (b : Int), l = pre ++ r → (b < 0 ∨ (0 ≤ b ∧ b < (l.length : Int))) →
    L (fun k => impl_choose.l3 k l obj rest ends left now spans b l (l.length : Int) (pre.length : Int)) = L (fun k => impl_choose.l3 k l obj rest ends left now spans (pickL l rest now obj b pre.length r) l (l.length : Int) (l.length : Int)) := by
  induction r with
  | nil =>
    intro pre b hl hb
    subst hl
    simp only [List.append_nil, pickL]
  | cons x r ih =>
    intro pre b hl hb
    have hlen : l.length = pre.length + (r.length + 1) := by rw [hl]; simp
    have e : rd_T129 l (pre.length : Int) = x := by rw [hl]; exact getD_mid pre x r _
    have ew : wrap64 ((pre.length : Int) + 1) = ((pre ++ [x]).length : Int) := wrap_mid pre x (by omega)
    have ihs := ih (pre ++ [x]) (pickStep l rest now obj b pre.length x) (by rw [hl]; simp) (by
      rcases pickStep_or l rest now obj b pre.length x with h | ⟨h, _⟩
      · rw [h]; exact hb
      · rw [h]; right; omega)
    have el : (pre ++ [x]).length = pre.length + 1 := by simp
    have key : L (fun k => impl_choose.l3 k l obj rest ends left now spans b l (l.length : Int) (pre.length : Int)) = L (fun k => impl_choose.l3 k l obj rest ends left now spans (pickStep l rest now obj b pre.length x) l (l.length : Int) ((pre ++ [x]).length : Int)) := by
      rw [L_shift]
      simp only [impl_choose.l3, if_pos (show (pre.length : Int) < (l.length : Int) by omega), le_nat, if_true, if_pos (show (pre.length : Int) < (rest.length : Int) by omega), e, L_ite, impl_choose_j4, ew]
      by_cases hr0 : rd rest (pre.length : Int) = 0
      · have hp : pickStep l rest now obj b pre.length x = b := if_pos (.inl hr0)
        simp only [if_pos hr0, hp, if_true]
      · rw [if_neg hr0]
        by_cases hrel : x.f2 > now
        · have hp : pickStep l rest now obj b pre.length x = b := if_pos (.inr hrel)
          rw [hp, decide_eq_true hrel]
          simp
        · have hsk : ¬ skipJ rest now pre.length x := fun h => h.elim hr0 hrel
          rw [decide_eq_false hrel]
          simp only [Bool.false_eq_true, if_false]
          unfold pickStep
          rw [if_neg hsk]
          by_cases hb0 : b < 0
          · rw [if_pos hb0, if_pos hb0]
          · rw [if_neg hb0, if_neg hb0]
            have hb1 : 0 ≤ b ∧ b < (l.length : Int) := by omega
            have e3 : rd_T129 l b = jobAt l b := rfl
            rcases hobj with rfl | rfl
            · simp only [if_pos (show (pre.length : Int) < (rest.length : Int) by omega), if_pos hb1.1, if_pos (show b < (rest.length : Int) by omega), if_true]
              by_cases hc : rd rest (pre.length : Int) < rd rest b
              · simp only [if_pos hc]
              · simp only [if_neg hc]
            · simp only [if_neg (show ¬ ((4 : Int) = 2) by decide), if_pos hb1.1, if_pos hb1.2, e3]
              by_cases hc : x.f3 < (jobAt l b).f3
              · simp only [if_pos hc]
              · simp only [if_neg hc]
    rw [key, ihs, pickL, el]
theorem sum_nonneg : ∀ l : List Int, (∀ v ∈ l, 0 ≤ v) → 0 ≤ l.sum
  | [], _ => by simp
  | x :: l, h => by
    have h1 := h x List.mem_cons_self
    have h2 := sum_nonneg l (fun v hv => h v (List.mem_cons_of_mem _ hv))
    rw [List.sum_cons]
    omega
theorem sum_set : ∀ (l : List Int) (i : Nat) (v : Int), i < l.length → (l.set i v).sum = l.sum - l.getD i 0 + v
  | [], i, v, h => by simp at h
  | x :: l, 0, v, h => by
    simp only [List.set_cons_zero, List.sum_cons, List.getD_cons_zero]
    omega
  | x :: l, i + 1, v, h => by
    have := sum_set l i v (by simpa using h)
    simp only [List.set_cons_succ, List.sum_cons, List.getD_cons_succ, this]
    omega
theorem sum_zero : ∀ l : List Int, (∀ i : Nat, i < l.length → l.getD i 0 = 0) → l.sum = 0
  | [], _ => rfl
  | x :: l, h => by
    have h1 := h 0 (by simp)
    have h2 := sum_zero l (fun i hi => by
      have := h (i + 1) (by simpa using hi)
      rwa [List.getD_cons_succ] at this)
    rw [List.getD_cons_zero] at h1
    rw [List.sum_cons, h1, h2]
    rfl
/-- One more step of a job at a time. -/
def spansUp (spans : List S203) (p now : Int) : List S203 :=
  if 0 < spans.length ∧ (spans.getD (spans.length - 1) z203).f0 = p ∧ (spans.getD (spans.length - 1) z203).f2 = now then spans.set (spans.length - 1) ⟨(spans.getD (spans.length - 1) z203).f0, (spans.getD (spans.length - 1) z203).f1, now + 1⟩ else spans ++ [⟨p, now, now + 1⟩]
theorem spansUp_length (spans : List S203) (p now : Int) : (spansUp spans p now).length ≤ spans.length + 1 := by
  unfold spansUp
  split <;> simp
/-- The state of a choice: what is left, and when. -/
structure ChSt (l : List S129) (rest : List Int) (left now : Int) : Prop where
  len : rest.length = l.length
  nn : ∀ v ∈ rest, 0 ≤ v
  sum : left = rest.sum
  now0 : 0 ≤ now
theorem ChSt.pick_neg {l : List S129} {rest : List Int} {left now obj : Int} (hg : Good l) (h : ChSt l rest left now) (hl : 0 < left) (hp : pickP l rest now obj < 0) : now ≤ 499 := by
  refine Classical.byContradiction fun hc => ?_
  have hz : rest.sum = 0 := sum_zero rest (fun i hi => by
    rw [h.len] at hi
    rcases pickP_neg hp i hi with h0 | h0
    · exact h0
    · have hm : l.getD i z129 ∈ l := by
        rw [List.getD_eq_getElem?_getD, List.getElem?_eq_getElem hi]
        exact List.getElem_mem _
      have := (hg.2 _ hm).r1
      omega)
  have := h.sum
  omega
theorem ChSt.step {l : List S129} {rest : List Int} {left now : Int} {p : Int} (h : ChSt l rest left now) (hp0 : 0 ≤ p) (hp1 : p < (l.length : Int)) (hr : rd rest p ≠ 0) : ChSt l (rest.set p.toNat (rd rest p - 1)) (left - 1) (now + 1) ∧ 1 ≤ rd rest p := by
  have hlen := h.len
  have hm : rd rest p ∈ rest := getD_mem (l := rest) (j := p.toNat) (by omega)
  have hn := h.nn _ hm
  have hr1 : 1 ≤ rd rest p := by omega
  refine ⟨⟨by rw [List.length_set, h.len], fun v hv => ?_, ?_, by have := h.now0; omega⟩, hr1⟩
  · rcases List.mem_or_eq_of_mem_set hv with h1 | h1
    · exact h.nn v h1
    · omega
  · rw [sum_set rest p.toNat _ (by omega), h.sum]
    show rest.sum - 1 = rest.sum - rd rest p + (rd rest p - 1)
    omega
theorem choose_spec_step (l : List S129) (rest : List Int) (left now obj : Int) (spans : List S203) (hobj : obj = 2 ∨ obj = 4) (h : ChSt l rest left now) (h8 : l.length ≤ 1000) (hl : 0 < left) (hl2 : left ≤ 100000) (hn : now ≤ 100000) (hs : spans.length ≤ 100000) :
    L (fun k => spec_l5Choose.l1 k l obj spans rest left now) = if pickP l rest now obj < 0 then L (fun k => spec_l5Choose.l1 k l obj spans rest left (now + 1)) else L (fun k => spec_l5Choose.l1 k l obj (spansUp spans (pickP l rest now obj) now) (rest.set (pickP l rest now obj).toNat (rd rest (pickP l rest now obj) - 1)) (left - 1) (now + 1)) := by
  have hlen := h.len
  have hnow := h.now0
  rw [L_shift]
  have ew : wrap64 ((spans.length : Int) - 1) = (spans.length : Int) - 1 := wrap_id (by omega) (by omega)
  have en : wrap64 (now + 1) = now + 1 := wrap_id (by omega) (by omega)
  have elf : wrap64 (left - 1) = left - 1 := wrap_id (by omega) (by omega)
  simp only [spec_l5Choose.l1, if_pos (show left > 0 by omega), L_bind, l5Pick_L l rest now obj hobj h.len h8, Option.bind_some, L_ite, L_const, ew, en, elf]
  by_cases hp : pickP l rest now obj < 0
  · rw [if_pos hp, if_pos hp]
  · rw [if_neg hp, if_neg hp]
    have hp0 : 0 ≤ pickP l rest now obj := by omega
    obtain ⟨hp1, hr⟩ := pickP_pos hp0
    obtain ⟨_, hr1⟩ := h.step hp0 hp1 hr
    have er : wrap64 (rd rest (pickP l rest now obj) - 1) = rd rest (pickP l rest now obj) - 1 := by
      have hle : rd rest (pickP l rest now obj) ≤ rest.sum := by
        have hm := (sum_set rest (pickP l rest now obj).toNat 0 (by omega))
        have h2 := sum_nonneg (rest.set (pickP l rest now obj).toNat 0) (fun v hv => by
          rcases List.mem_or_eq_of_mem_set hv with h1 | h1
          · exact h.nn v h1
          · omega)
        show rest.getD (pickP l rest now obj).toNat 0 ≤ _
        omega
      have := h.sum
      exact wrap_id (by omega) (by omega)
    have e0 : ∀ i : Int, rd_T203 spans i = spans.getD i.toNat z203 := fun _ => rfl
    have e1 : ((spans.length : Int) - 1).toNat = spans.length - 1 := by omega
    simp only [er, e0, e1, if_pos hp0, if_pos (show pickP l rest now obj < (rest.length : Int) by omega), if_pos (show spans.length < 5864062014805 by omega)]
    unfold spansUp
    by_cases hz : 0 < spans.length
    · rw [if_pos (show (spans.length : Int) - 1 ≥ 0 by omega), if_pos (show (0 : Int) ≤ (spans.length : Int) - 1 by omega), if_pos (show (spans.length : Int) - 1 < (spans.length : Int) by omega)]
      by_cases h0 : (spans.getD (spans.length - 1) z203).f0 = pickP l rest now obj
      · rw [if_pos h0]
        by_cases h2 : (spans.getD (spans.length - 1) z203).f2 = now
        · rw [if_pos h2, if_pos (show 0 < spans.length ∧ _ ∧ _ from ⟨hz, h0, h2⟩)]
        · rw [if_neg h2, if_neg (fun hh => h2 hh.2.2)]
      · rw [if_neg h0, if_neg (fun hh => h0 hh.2.1)]
    · rw [if_neg (show ¬ ((spans.length : Int) - 1 ≥ 0) by omega), if_neg (fun hh => hz hh.1)]
theorem choose_impl_step (l : List S129) (rest ends : List Int) (left now obj : Int) (spans : List S203) (hobj : obj = 2 ∨ obj = 4) (h : ChSt l rest left now) (he : ends.length = l.length) (h8 : l.length ≤ 1000) (hl : 0 < left) (hl2 : left ≤ 100000) (hn : now ≤ 100000) (hs : spans.length ≤ 100000) :
    L (fun k => impl_choose.l2 k l obj rest ends left now spans) = if pickP l rest now obj < 0 then L (fun k => impl_choose.l2 k l obj rest ends left (now + 1) spans) else L (fun k => impl_choose.l2 k l obj (rest.set (pickP l rest now obj).toNat (rd rest (pickP l rest now obj) - 1)) (ends.set (pickP l rest now obj).toNat (now + 1)) (left - 1) (now + 1) (spansUp spans (pickP l rest now obj) now)) := by
  have hlen := h.len
  have hnow := h.now0
  have hsc := choose_scan l rest ends left now obj spans hobj h.len h8 l [] (-1) rfl (by omega)
  simp only [List.length_nil, Int.natCast_zero] at hsc
  rw [L_shift]
  simp only [impl_choose.l2, if_pos (show left > 0 by omega), hsc]
  rw [L_shift]
  have ew : wrap64 ((spans.length : Int) - 1) = (spans.length : Int) - 1 := wrap_id (by omega) (by omega)
  have en : wrap64 (now + 1) = now + 1 := wrap_id (by omega) (by omega)
  have elf : wrap64 (left - 1) = left - 1 := wrap_id (by omega) (by omega)
  have epp : pickL l rest now obj (-1) 0 l = pickP l rest now obj := rfl
  simp only [impl_choose.l3, if_neg (show ¬ ((l.length : Int) < (l.length : Int)) by omega), epp, L_ite, L_const, ew, en, elf]
  by_cases hp : pickP l rest now obj < 0
  · rw [if_pos hp, if_pos hp]
  · rw [if_neg hp, if_neg hp]
    have hp0 : 0 ≤ pickP l rest now obj := by omega
    obtain ⟨hp1, hr⟩ := pickP_pos hp0
    obtain ⟨_, hr1⟩ := h.step hp0 hp1 hr
    have er : wrap64 (rd rest (pickP l rest now obj) - 1) = rd rest (pickP l rest now obj) - 1 := by
      have hle : rd rest (pickP l rest now obj) ≤ rest.sum := by
        have hm := (sum_set rest (pickP l rest now obj).toNat 0 (by omega))
        have h2 := sum_nonneg (rest.set (pickP l rest now obj).toNat 0) (fun v hv => by
          rcases List.mem_or_eq_of_mem_set hv with h1 | h1
          · exact h.nn v h1
          · omega)
        show rest.getD (pickP l rest now obj).toNat 0 ≤ _
        omega
      have := h.sum
      exact wrap_id (by omega) (by omega)
    have e0 : ∀ i : Int, rd_T203 spans i = spans.getD i.toNat z203 := fun _ => rfl
    have e1 : ((spans.length : Int) - 1).toNat = spans.length - 1 := by omega
    simp only [er, e0, e1, if_pos hp0, if_pos (show pickP l rest now obj < (rest.length : Int) by omega), if_pos (show pickP l rest now obj < (ends.length : Int) by omega), if_pos (show spans.length < 5864062014805 by omega)]
    unfold spansUp
    by_cases hz : 0 < spans.length
    · rw [if_pos (show (spans.length : Int) - 1 ≥ 0 by omega), if_pos (show (0 : Int) ≤ (spans.length : Int) - 1 by omega), if_pos (show (spans.length : Int) - 1 < (spans.length : Int) by omega)]
      by_cases h0 : (spans.getD (spans.length - 1) z203).f0 = pickP l rest now obj
      · rw [if_pos h0]
        by_cases h2 : (spans.getD (spans.length - 1) z203).f2 = now
        · rw [if_pos h2, if_pos (show 0 < spans.length ∧ _ ∧ _ from ⟨hz, h0, h2⟩), h2, en]
        · rw [if_neg h2, if_neg (fun hh => h2 hh.2.2)]
      · rw [if_neg h0, if_neg (fun hh => h0 hh.2.1)]
    · rw [if_neg (show ¬ ((spans.length : Int) - 1 ≥ 0) by omega), if_neg (fun hh => hz hh.1)]
def timesP (l : List S129) : List Int := l.map (·.f0)
theorem timesP_length (l : List S129) : (timesP l).length = l.length := by simp [timesP]
theorem timesP_sum (l : List S129) : (timesP l).sum = timeSum l := rfl
theorem l5Rests_l (r : List S129) : ∀ (pre : List S129) (out : List Int), (pre ++ r).length < 1000000 → out.length + r.length < 1000000 → L (fun k => spec_l5Rests.l0 k (pre ++ r) out (pre.length : Int)) = some (out ++ timesP r) := by
  induction r with
  | nil =>
    intro pre out hb hc
    rw [L_shift]
    simp only [spec_l5Rests.l0, not_lt_end, if_false, L_const]
    simp [timesP]
  | cons x r ih =>
    intro pre out hb hc
    rw [L_shift]
    have hl : pre.length < 4611686018427387904 := by simp at hb; omega
    simp only [List.length_cons] at hc
    have e : rd_T129 (pre ++ x :: r) (pre.length : Int) = x := getD_mid pre x r _
    simp only [spec_l5Rests.l0, lt_mid, le_nat, if_true, e, wrap_mid pre x hl, if_pos (show out.length < 17592186044416 by omega)]
    rw [app_cons pre x r, ih (pre ++ [x]) _ (by simpa using hb) (by simp; omega)]
    simp [timesP]
theorem l5Rests_L (l : List S129) (h : l.length < 100000) : L (fun k => spec_l5Rests.f k l) = some (timesP l) := by
  have := l5Rests_l l [] [] (by simp; omega) (by simp; omega)
  simpa [spec_l5Rests.f] using this
theorem l5Choose_l (l : List S129) (obj from_ : Int) (r : List Int) (hr : ∀ v ∈ r, 0 ≤ v ∧ v ≤ 1000) : ∀ (pre : List Int) (left : Int), (pre ++ r).length < 100000 → 0 ≤ left → left + 1000 * r.length ≤ 1000000000 →
    L (fun k => spec_l5Choose.l0 k l from_ obj [] (pre ++ r) left (pre.length : Int)) = L (fun k => spec_l5Choose.l1 k l obj [] (pre ++ r) (left + r.sum) from_) := by
  induction r with
  | nil =>
    intro pre left hb h0 h1
    rw [L_shift]
    simp only [spec_l5Choose.l0, not_lt_end, if_false]
    simp
  | cons x r ih =>
    intro pre left hb h0 h1
    rw [L_shift]
    have hl : pre.length < 4611686018427387904 := by simp at hb; omega
    have hx := hr x List.mem_cons_self
    simp only [List.length_cons] at h1
    simp only [spec_l5Choose.l0, lt_mid, le_nat, if_true, rd_mid, wrap_mid pre x hl, wrap_id (show -9223372036854775808 ≤ left + x by omega) (show left + x ≤ 9223372036854775807 by omega)]
    rw [app_cons pre x r, ih (fun v hv => hr v (List.mem_cons_of_mem _ hv)) (pre ++ [x]) _ (by simpa using hb) (by omega) (by omega), List.sum_cons]
    simp only [Int.add_assoc]
theorem l5Choose_L (l : List S129) (obj from_ : Int) (rest : List Int) (hr : ∀ v ∈ rest, 0 ≤ v ∧ v ≤ 1000) (h : rest.length < 1000) : L (fun k => spec_l5Choose.f k l rest from_ obj) = L (fun k => spec_l5Choose.l1 k l obj [] rest rest.sum from_) := by
  have := l5Choose_l l obj from_ rest hr [] 0 (by simp; omega) (by omega) (by omega)
  simp only [List.nil_append, List.length_nil, Int.natCast_zero, Int.zero_add] at this
  simp only [spec_l5Choose.f, l1Own_e rest (by omega), Option.bind_some, this]
/-- The ends that spans tell, put over E. -/
def replay (E : List Int) (S : List S203) : List Int := S.foldl (fun e s => e.set s.f0.toNat s.f2) E
theorem replay_length (S : List S203) : ∀ E : List Int, (replay E S).length = E.length := by
  induction S with
  | nil => intro E; rfl
  | cons s S ih =>
    intro E
    show (replay (E.set s.f0.toNat s.f2) S).length = E.length
    rw [ih, List.length_set]
theorem replay_up (E : List Int) (spans : List S203) (p now : Int) : replay E (spansUp spans p now) = (replay E spans).set p.toNat (now + 1) := by
  unfold spansUp
  rcases List.eq_nil_or_concat spans with rfl | ⟨S, s, rfl⟩
  · rw [if_neg (by simp)]
    rfl
  · have e1 : (S ++ [s]).length - 1 = S.length := by simp
    have e2 : (S ++ [s]).getD S.length z203 = s := by simp [List.getD_eq_getElem?_getD]
    simp only [List.concat_eq_append, e1, e2]
    by_cases h : 0 < (S ++ [s]).length ∧ s.f0 = p ∧ s.f2 = now
    · rw [if_pos h]
      have e3 : (S ++ [s]).set S.length ⟨s.f0, s.f1, now + 1⟩ = S ++ [⟨s.f0, s.f1, now + 1⟩] := by
        rw [List.set_append_right _ _ (Nat.le_refl _)]
        simp
      rw [e3]
      simp only [replay, List.foldl_append, List.foldl_cons, List.foldl_nil, h.2.1, List.set_set]
    · rw [if_neg h]
      simp only [replay, List.foldl_append, List.foldl_cons, List.foldl_nil]
theorem spansUp_mem {spans : List S203} {p now : Int} {n : Int} (hp : 0 ≤ p ∧ p < n) (h : ∀ s ∈ spans, 0 ≤ s.f0 ∧ s.f0 < n) : ∀ s ∈ spansUp spans p now, 0 ≤ s.f0 ∧ s.f0 < n := by
  intro s hs
  unfold spansUp at hs
  split at hs
  · rename_i hc
    rcases List.mem_or_eq_of_mem_set hs with h1 | h1
    · exact h s h1
    · rw [h1]
      have e : (spans.getD (spans.length - 1) z203) ∈ spans := by
        rw [List.getD_eq_getElem?_getD, List.getElem?_eq_getElem (by omega)]
        exact List.getElem_mem _
      exact h (spans.getD (spans.length - 1) z203) e
  · rcases List.mem_append.1 hs with h1 | h1
    · exact h s h1
    · rw [List.mem_singleton.1 h1]
      exact hp
theorem choose_replay (l : List S129) (obj : Int) (hobj : obj = 2 ∨ obj = 4) (hg : Good l) (E0 : List Int) (hE0 : E0.length = l.length) : ∀ (m : Nat) (rest : List Int) (left now : Int) (spans : List S203), ChSt l rest left now → left.toNat + (501 - now).toNat ≤ m → now + left ≤ 900 → left ≤ 400 → spans.length + m ≤ 50000 →
    (∀ e ∈ replay E0 spans, 0 ≤ e ∧ e ≤ 900) → (∀ s ∈ spans, 0 ≤ s.f0 ∧ s.f0 < (l.length : Int)) →
    ∃ S : List S203, L (fun k => spec_l5Choose.l1 k l obj spans rest left now) = some S ∧ L (fun k => impl_choose.l2 k l obj rest (replay E0 spans) left now spans) = some (S, replay E0 S) ∧ (∀ e ∈ replay E0 S, 0 ≤ e ∧ e ≤ 900) ∧ (∀ s ∈ S, 0 ≤ s.f0 ∧ s.f0 < (l.length : Int)) ∧ S.length ≤ spans.length + m := by
  have h8 := hg.1
  intro m
  induction m with
  | zero =>
    intro rest left now spans h hm hn hl hs hE hf
    refine ⟨spans, ?_, ?_, hE, hf, by omega⟩
    · rw [L_shift]
      simp only [spec_l5Choose.l1, if_neg (show ¬ (left > 0) by omega), L_const]
    · rw [L_shift]
      simp only [impl_choose.l2, if_neg (show ¬ (left > 0) by omega), L_const]
  | succ m ih =>
    intro rest left now spans h hm hn hl hs hE hf
    by_cases hl0 : 0 < left
    · have hnow := h.now0
      rw [choose_spec_step l rest left now obj spans hobj h (by omega) hl0 (by omega) (by omega) (by omega), choose_impl_step l rest _ left now obj spans hobj h (by rw [replay_length, hE0]) (by omega) hl0 (by omega) (by omega) (by omega)]
      by_cases hp : pickP l rest now obj < 0
      · have h499 := h.pick_neg hg hl0 hp
        simp only [if_pos hp]
        obtain ⟨S, h1, h2, h3, h4, h5⟩ := ih rest left (now + 1) spans ⟨h.len, h.nn, h.sum, by omega⟩ (by omega) (by omega) (by omega) (by omega) hE hf
        exact ⟨S, h1, h2, h3, h4, by omega⟩
      · simp only [if_neg hp]
        have hp0 : 0 ≤ pickP l rest now obj := by omega
        obtain ⟨hp1, hr⟩ := pickP_pos hp0
        obtain ⟨hst, _⟩ := h.step hp0 hp1 hr
        have hsl := spansUp_length spans (pickP l rest now obj) now
        have hup := replay_up E0 spans (pickP l rest now obj) now
        obtain ⟨S, h1, h2, h3, h4, h5⟩ := ih _ (left - 1) (now + 1) (spansUp spans (pickP l rest now obj) now) hst (by omega) (by omega) (by omega) (by omega) (fun e hem => by
          rw [hup] at hem
          rcases List.mem_or_eq_of_mem_set hem with h1 | h1
          · exact hE e h1
          · omega) (spansUp_mem ⟨hp0, hp1⟩ hf)
        rw [← hup]
        exact ⟨S, h1, h2, h3, h4, by omega⟩
    · refine ⟨spans, ?_, ?_, hE, hf, by omega⟩
      · rw [L_shift]
        simp only [spec_l5Choose.l1, if_neg (show ¬ (left > 0) by omega), L_const]
      · rw [L_shift]
        simp only [impl_choose.l2, if_neg (show ¬ (left > 0) by omega), L_const]
/-- What is left behind a beginning of an order, and the time. -/
def zeroF (r : List Int) (rest : List Int) : List Int := r.foldl (fun v x => v.set x.toNat 0) rest
def nowF (l : List S129) : List Int → Int → Int
  | [], now => now
  | x :: r, now => nowF l r (max now (jobAt l x).f2 + (jobAt l x).f0)
theorem zeroF_length (r : List Int) : ∀ v : List Int, (zeroF r v).length = v.length := by
  induction r with
  | nil => intro v; rfl
  | cons x r ih =>
    intro v
    show (zeroF r (v.set x.toNat 0)).length = v.length
    rw [ih, List.length_set]
theorem prefix_bd (l : List S129) (hg : Good l) : ∀ (r rest : List Int) (now : Int), r.Nodup → (∀ x ∈ r, 0 ≤ x ∧ x < (l.length : Int)) → rest.length = l.length → (∀ x ∈ r, rest.getD x.toNat 0 = (jobAt l x).f0) → (∀ v ∈ rest, 0 ≤ v) → 0 ≤ now → now + rest.sum ≤ 900 → rest.sum ≤ 400 →
    0 ≤ nowF l r now ∧ nowF l r now + (zeroF r rest).sum ≤ 900 ∧ (zeroF r rest).sum ≤ 400 ∧ ∀ v ∈ zeroF r rest, 0 ≤ v
  | [], rest, now, _, _, _, _, hn, h0, h1, h2 => ⟨h0, h1, h2, hn⟩
  | x :: r, rest, now, hnd, hx, hl, ht, hn, h0, h1, h2 => by
    obtain ⟨hxr, hnd'⟩ := List.nodup_cons.1 hnd
    have hx0 := hx x List.mem_cons_self
    have ht0 := ht x List.mem_cons_self
    have hj := hg.2 _ (jobAt_mem hx0.1 hx0.2)
    have t0 := hj.t0
    have t1 := hj.t1
    have r0 := hj.r0
    have r1 := hj.r1
    have hs := sum_set rest x.toNat 0 (by omega)
    exact prefix_bd l hg r (rest.set x.toNat 0) (max now (jobAt l x).f2 + (jobAt l x).f0) hnd' (fun y hy => hx y (List.mem_cons_of_mem _ hy)) (by rw [List.length_set, hl]) (fun y hy => by
      have hy0 := hx y (List.mem_cons_of_mem _ hy)
      rw [getD_set, if_neg (fun hc => hxr (by
        have : x = y := by omega
        rw [this]
        exact hy))]
      exact ht y (List.mem_cons_of_mem _ hy)) (fun v hv => by
      rcases List.mem_or_eq_of_mem_set hv with h3 | h3
      · exact hn v h3
      · omega) (by omega) (by omega) (by omega)
theorem zeroF_getD (r : List Int) : ∀ (v : List Int), (∀ x ∈ r, 0 ≤ x) → ∀ j : Nat, (zeroF r v).getD j 0 = if (j : Int) ∈ r then 0 else v.getD j 0 := by
  induction r with
  | nil => intro v _ j; simp [zeroF]
  | cons x r ih =>
    intro v hx j
    have h := ih (v.set x.toNat 0) (fun y hy => hx y (List.mem_cons_of_mem _ hy)) j
    show (zeroF r (v.set x.toNat 0)).getD j 0 = _
    rw [h]
    have hx0 := hx x List.mem_cons_self
    by_cases hj : (j : Int) ∈ r
    · rw [if_pos hj, if_pos (List.mem_cons_of_mem _ hj)]
    · rw [if_neg hj, getD_set]
      by_cases e : x.toNat = j
      · rw [if_pos (show (j : Int) ∈ x :: r by rw [List.mem_cons]; left; omega)]
        by_cases h3 : j < v.length
        · rw [if_pos ⟨e, h3⟩]
        · rw [if_neg (fun hc => h3 hc.2), List.getD_eq_getElem?_getD, List.getElem?_eq_none (by omega)]
          rfl
      · rw [if_neg (fun hc => e hc.1), if_neg]
        rw [List.mem_cons]
        rintro (h3 | h3)
        · omega
        · exact hj h3
theorem l5Bound_l (l : List S129) (hg : Good l) (obj : Int) (r : List Int) (hx : ∀ x ∈ r, 0 ≤ x ∧ x < (l.length : Int)) : ∀ (pre rest E : List Int) (now : Int), (pre ++ r).length < 4611686018427387904 → E.length = l.length → rest.length = l.length → 0 ≤ now → now + 50 * r.length ≤ 900 → r.length ≤ 8 →
    L (fun k => spec_l5Bound.l0 k l (pre ++ r) obj rest now E (pre.length : Int)) = (L (fun k => spec_l5Choose.f k l (zeroF r rest) (nowF l r now) obj)).bind (fun S => L (fun k => spec_l5Bound.l1 k l obj (endsF l r E now) S 0)) := by
  induction r with
  | nil =>
    intro pre rest E now hb hE hr h0 h1 h2
    rw [L_shift]
    simp only [spec_l5Bound.l0, not_lt_end, if_false, L_bind]
    rfl
  | cons x r ih =>
    intro pre rest E now hb hE hr h0 h1 h2
    rw [L_shift]
    have hl : pre.length < 4611686018427387904 := by simp at hb; omega
    have hx0 := hx x List.mem_cons_self
    have hj := hg.2 _ (jobAt_mem hx0.1 hx0.2)
    have t0 := hj.t0
    have t1 := hj.t1
    have r0 := hj.r0
    have r1 := hj.r1
    simp only [List.length_cons] at h1 h2
    have e : rd_T129 l x = jobAt l x := rfl
    simp only [spec_l5Bound.l0, lt_mid, le_nat, if_true, rd_mid, e, if_pos hx0.1, if_pos hx0.2, l1Most_e, Option.bind_some, hE, hr, wrap_mid pre x hl, wrap_id (show -9223372036854775808 ≤ max now (jobAt l x).f2 + (jobAt l x).f0 by omega) (by omega)]
    rw [app_cons pre x r, ih (fun y hy => hx y (List.mem_cons_of_mem _ hy)) (pre ++ [x]) _ _ _ (by simpa using hb) (by rw [List.length_set, hE]) (by rw [List.length_set, hr]) (by omega) (by omega) (by omega)]
    rfl
theorem l5Bound_s (l : List S129) (obj : Int) (r : List S203) : ∀ (pre : List S203) (E : List Int), (pre ++ r).length < 4611686018427387904 → (∀ s ∈ r, 0 ≤ s.f0 ∧ s.f0 < (E.length : Int)) →
    L (fun k => spec_l5Bound.l1 k l obj E (pre ++ r) (pre.length : Int)) = L (fun k => spec_l2Of.f k l (replay E r) obj) := by
  induction r with
  | nil =>
    intro pre E hb hr
    rw [L_shift]
    simp only [spec_l5Bound.l1, not_lt_end, if_false, bind_self]
    rfl
  | cons x r ih =>
    intro pre E hb hr
    rw [L_shift]
    have hl : pre.length < 4611686018427387904 := by simp at hb; omega
    have hx := hr x List.mem_cons_self
    have e : rd_T203 (pre ++ x :: r) (pre.length : Int) = x := getD_mid pre x r _
    simp only [spec_l5Bound.l1, lt_mid, le_nat, if_true, e, if_pos hx.1, if_pos hx.2, wrap_mid pre x hl]
    rw [app_cons pre x r, ih (pre ++ [x]) _ (by simpa using hb) (fun s hs => by rw [List.length_set]; exact hr s (List.mem_cons_of_mem _ hs))]
    rfl
theorem choose_pre (l : List S129) (hg : Good l) (obj left : Int) (rest : List Int) (r : List Int) (hx : ∀ x ∈ r, 0 ≤ x ∧ x < (l.length : Int)) : ∀ (pre E : List Int) (now : Int), (pre ++ r).length < 4611686018427387904 → E.length = l.length → 0 ≤ now → now + 50 * r.length ≤ 900 → r.length ≤ 8 →
    L (fun k => impl_choose.l1 k l obj rest E left now (pre ++ r) ((pre ++ r).length : Int) (pre.length : Int)) = L (fun k => impl_choose.l2 k l obj rest (endsF l r E now) left (nowF l r now) []) := by
  induction r with
  | nil =>
    intro pre E now hb hE h0 h1 h2
    rw [L_shift]
    simp only [impl_choose.l1, not_lt_end, if_false]
    rfl
  | cons x r ih =>
    intro pre E now hb hE h0 h1 h2
    rw [L_shift]
    have hl : pre.length < 4611686018427387904 := by simp at hb; omega
    have hx0 := hx x List.mem_cons_self
    have hj := hg.2 _ (jobAt_mem hx0.1 hx0.2)
    have t0 := hj.t0
    have t1 := hj.t1
    have r0 := hj.r0
    have r1 := hj.r1
    simp only [List.length_cons] at h1 h2
    have e : rd_T129 l x = jobAt l x := rfl
    simp only [impl_choose.l1, lt_mid, le_nat, if_true, rd_mid, e, if_pos hx0.1, if_pos hx0.2, mx_e, hE, wrap_mid pre x hl, wrap_id (show -9223372036854775808 ≤ max now (jobAt l x).f2 + (jobAt l x).f0 by omega) (by omega)]
    rw [app_cons pre x r, ih (fun y hy => hx y (List.mem_cons_of_mem _ hy)) (pre ++ [x]) _ _ (by simpa using hb) (by rw [List.length_set, hE]) (by omega) (by omega) (by omega)]
    rfl
/-- The times of those that are not in s, by their numbers from i on. -/
def restF (s : List Int) : Nat → List S129 → List Int
  | _, [] => []
  | i, x :: r => (if (i : Int) ∈ s then 0 else x.f0) :: restF s (i + 1) r
theorem restF_length (s : List Int) : ∀ (r : List S129) (i : Nat), (restF s i r).length = r.length
  | [], i => rfl
  | x :: r, i => by simp [restF, restF_length s r]
theorem restF_getD (s : List Int) : ∀ (r : List S129) (i j : Nat), j < r.length → (restF s i r).getD j 0 = if ((i + j : Nat) : Int) ∈ s then 0 else (timesP r).getD j 0
  | [], i, j, h => by simp at h
  | x :: r, i, 0, h => by simp [restF, timesP]
  | x :: r, i, j + 1, h => by
    have := restF_getD s r (i + 1) j (by simpa using h)
    rw [restF, List.getD_cons_succ, this]
    have e : i + 1 + j = i + (j + 1) := by omega
    rw [e]
    simp [timesP]
theorem restF_append (s : List Int) : ∀ (a b : List S129) (i : Nat), restF s i (a ++ b) = restF s i a ++ restF s (i + a.length) b
  | [], b, i => by simp [restF]
  | x :: a, b, i => by
    rw [List.cons_append, restF, restF, restF_append s a b (i + 1), List.cons_append]
    have e : i + 1 + a.length = i + (x :: a).length := by simp; omega
    rw [e]
theorem restF_bd (s : List Int) : ∀ (r : List S129) (i : Nat), (∀ j ∈ r, JobOk j) → ∀ v ∈ restF s i r, 0 ≤ v ∧ v ≤ 50
  | [], i, _, v, hv => by cases hv
  | x :: r, i, h, v, hv => by
    rw [restF] at hv
    rcases List.mem_cons.1 hv with rfl | hv
    · have := (h x List.mem_cons_self).t0
      have := (h x List.mem_cons_self).t1
      by_cases hc : (i : Int) ∈ s
      · rw [if_pos hc]; omega
      · rw [if_neg hc]; omega
    · exact restF_bd s r (i + 1) (fun j hj => h j (List.mem_cons_of_mem _ hj)) v hv
theorem choose_l0 (l : List S129) (s : List Int) (hs : s.length < 4611686018427387904) (obj : Int) (ends : List Int) (r : List S129) (hr : ∀ j ∈ r, JobOk j) : ∀ (pre : List S129) (left : Int), (pre ++ r).length < 100000 → 0 ≤ left → left + 50 * r.length ≤ 1000000000 →
    L (fun k => impl_choose.l0 k l s obj (restF s 0 pre ++ List.replicate r.length 0) ends left 0 (pre ++ r) ((pre ++ r).length : Int) (pre.length : Int)) = L (fun k => impl_choose.l1 k l obj (restF s 0 (pre ++ r)) ends (left + (restF s pre.length r).sum) 0 s (s.length : Int) 0) := by
  induction r with
  | nil =>
    intro pre left hb h0 h1
    rw [L_shift]
    simp only [impl_choose.l0, not_lt_end, if_false]
    simp [restF]
  | cons x r ih =>
    intro pre left hb h0 h1
    rw [L_shift]
    have hl : pre.length < 4611686018427387904 := by simp at hb; omega
    have hx := hr x List.mem_cons_self
    have t0 := hx.t0
    have t1 := hx.t1
    simp only [List.length_cons] at h1
    have e : rd_T129 (pre ++ x :: r) (pre.length : Int) = x := getD_mid pre x r _
    have e2 : ((pre.length : Int) < ((restF s 0 pre ++ 0 :: List.replicate r.length 0).length : Int)) = True := by
      simp only [List.length_append, List.length_cons, restF_length]
      exact eq_true (by omega)
    simp only [impl_choose.l0, lt_mid, le_nat, if_true, L_bind, has_L s _ hs, Option.bind_some, rep_succ, e, e2, wrap_mid pre x hl, set_mid (restF s 0 pre) _ _ _ pre (restF_length s pre 0).symm, wrap_id (show -9223372036854775808 ≤ left + x.f0 by omega) (show left + x.f0 ≤ 9223372036854775807 by omega), L_ite, decide_eq_true_eq]
    have e3 : restF s 0 (pre ++ [x]) = restF s 0 pre ++ [if (pre.length : Int) ∈ s then 0 else x.f0] := by
      rw [restF_append, Nat.zero_add]
      rfl
    by_cases hc : (pre.length : Int) ∈ s
    · rw [if_pos hc]
      have := ih (fun j hj => hr j (List.mem_cons_of_mem _ hj)) (pre ++ [x]) left (by simpa using hb) (by omega) (by omega)
      rw [e3, if_pos hc] at this
      rw [app_cons pre x r, app_cons (restF s 0 pre) 0, this, restF, if_pos hc, List.sum_cons, Int.zero_add, List.length_append]
      rfl
    · rw [if_neg hc]
      have := ih (fun j hj => hr j (List.mem_cons_of_mem _ hj)) (pre ++ [x]) (left + x.f0) (by simpa using hb) (by omega) (by omega)
      rw [e3, if_neg hc] at this
      rw [app_cons pre x r, app_cons (restF s 0 pre) x.f0, this, restF, if_neg hc, List.sum_cons, Int.add_assoc, List.length_append]
      rfl
theorem restF_zeroF (l : List S129) (s : List Int) (hs : ∀ x ∈ s, 0 ≤ x) : restF s 0 l = zeroF s (timesP l) := by
  apply ext_getD
  · rw [restF_length, zeroF_length, timesP_length]
  · intro j hj
    rw [restF_length] at hj
    rw [restF_getD s l 0 j hj, zeroF_getD s _ hs, Nat.zero_add]
theorem IsPre.len {n : Nat} {s : List Int} (hd : diffB (n : Int) [] s = true) : (∀ x ∈ s, 0 ≤ x ∧ x < n) ∧ s.Nodup ∧ s.length ≤ n := by
  obtain ⟨h1, h2, _⟩ := (diffB_iff (n : Int) s []).1 hd
  refine ⟨h1, h2, ?_⟩
  refine Classical.byContradiction fun hc => ?_
  have hp := perm_of s (numsTo n) h2 (fun x hx => mem_numsTo.2 (h1 x hx)) (by rw [numsTo_length]; omega)
  have := hp.length_eq
  rw [numsTo_length] at this
  omega
/-- The bound of a beginning: both tell one. -/
theorem bound_both (l : List S129) (hg : Good l) (s : List Int) (hd : diffB (l.length : Int) [] s = true) (obj : Int) (hobj : obj = 2 ∨ obj = 4) : ∃ R : Int, L (fun k => spec_l5Bound.f k l s obj) = some R ∧ L (fun k => impl_prefixBound.f k l s obj) = some R := by
  have h8 := hg.1
  obtain ⟨hx, hnd, hsl⟩ := IsPre.len hd
  have hx0 : ∀ x ∈ s, 0 ≤ x := fun x h => (hx x h).1
  have ht := timeSum_bounds l hg.2
  have htb : ∀ v ∈ timesP l, 0 ≤ v ∧ v ≤ 50 := by
    intro v hv
    obtain ⟨j, hj, rfl⟩ := List.mem_map.1 hv
    have := (hg.2 j hj).t0
    have := (hg.2 j hj).t1
    omega
  have hts := timesP_sum l
  obtain ⟨b0, b1, b2, b3⟩ := prefix_bd l hg s (timesP l) 0 hnd hx (timesP_length l) (fun x h => by
    have := hx x h
    unfold timesP jobAt
    rw [List.getD_eq_getElem?_getD, List.getD_eq_getElem?_getD, List.getElem?_map, List.getElem?_eq_getElem (by omega)]
    rfl) (fun v hv => (htb v hv).1) (Int.le_refl _) (by omega) (by omega)
  have hE0 : (List.replicate l.length (0 : Int)).length = l.length := by simp
  have hEl : (endsF l s (List.replicate l.length 0) 0).length = l.length := by rw [endsF_length, hE0]
  have hEb := ends_bounds l hg s (List.replicate l.length 0) 0 (Int.le_refl _) (by omega) (by omega) hx (fun v hv => by rw [(List.mem_replicate.1 hv).2]; omega)
  have hzl : (zeroF s (timesP l)).length = l.length := by rw [zeroF_length, timesP_length]
  obtain ⟨S, h1, h2, h3, h4, h5⟩ := choose_replay l obj hobj hg _ hEl 2000 (zeroF s (timesP l)) (zeroF s (timesP l)).sum (nowF l s 0) [] ⟨hzl, b3, rfl, b0⟩ (by omega) (by omega) (by omega) (by simp) hEb (by simp)
  have hrl : (replay (endsF l s (List.replicate l.length 0) 0) S).length = l.length := by rw [replay_length, hEl]
  have hO : objB obj = true := by rw [objB_iff]; omega
  have hzb : ∀ v ∈ zeroF s (timesP l), 0 ≤ v ∧ v ≤ 1000 := by
    rw [← restF_zeroF l s hx0]
    intro v hv
    have := restF_bd s l 0 hg.2 v hv
    omega
  refine ⟨valP obj l (replay (endsF l s (List.replicate l.length 0) 0) S), ?_, ?_⟩
  · have hA := l5Bound_l l hg obj s hx [] (timesP l) (List.replicate l.length 0) 0 (by simp; omega) hE0 (timesP_length l) (Int.le_refl _) (by omega) (by omega)
    have hB := l5Bound_s l obj S [] (endsF l s (List.replicate l.length 0) 0) (by simp at h5 ⊢; omega) (by rw [hEl]; exact h4)
    simp only [List.nil_append, List.length_nil, Int.natCast_zero] at hA hB
    simp only [spec_l5Bound.f, L_bind, L_ite, L_const, l5Rests_L l (by omega), Option.bind_some, le_nat, if_true, Int.toNat_natCast, if_pos (show l.length ≤ 35184372088832 by omega), hA, l5Choose_L l obj _ _ hzb (by omega), h1, hB]
    exact l2Of_L l hg _ hrl (fun e he => by have := h3 e he; omega) obj hO
  · have hA := choose_l0 l s (by omega) obj (List.replicate l.length 0) l hg.2 [] 0 (by simp; omega) (Int.le_refl _) (by omega)
    have hB := choose_pre l hg obj (zeroF s (timesP l)).sum (zeroF s (timesP l)) s hx [] (List.replicate l.length 0) 0 (by simp; omega) hE0 (Int.le_refl _) (by omega) (by omega)
    simp only [List.nil_append, List.length_nil, Int.natCast_zero, Int.zero_add, restF_zeroF l s hx0] at hA hB
    have e0 : restF s 0 [] = [] := rfl
    rw [e0] at hA
    simp only [List.nil_append] at hA
    have hR : replay (endsF l s (List.replicate l.length 0) 0) [] = endsF l s (List.replicate l.length 0) 0 := rfl
    rw [hR] at h2
    have hC : L (fun k => impl_choose.f k l s obj) = some (S, replay (endsF l s (List.replicate l.length 0) 0) S) := by
      simp only [impl_choose.f, le_nat, if_true, Int.toNat_natCast, if_pos (show l.length ≤ 35184372088832 by omega), hA, hB, h2]
    simp only [impl_prefixBound.f, L_bind, hC, Option.bind_some, bind_self]
    exact valueOfEnds_L l hg _ hrl (fun e he => by have := h3 e he; omega) obj
theorem l5Prefix_l (l : List S129) (hn : l.length ≤ 1048576) (r : List Int) : ∀ pre : List Int, (pre ++ r).length < 4611686018427387904 → L (fun k => spec_l5Prefix.l0 k l (pre ++ r) (pre.length : Int)) = some (diffB (l.length : Int) pre r) := by
  induction r with
  | nil =>
    intro pre hb
    rw [L_shift]
    simp only [spec_l5Prefix.l0, not_lt_end, if_false, L_const]
    simp [diffB]
  | cons x r ih =>
    intro pre hb
    rw [L_shift]
    have hl : pre.length < 4611686018427387904 := by simp at hb; omega
    have e : ((pre.length : Int) ≤ ((pre ++ x :: r).length : Int)) = True := eq_true (by simp; omega)
    simp only [spec_l5Prefix.l0, spec_l3Job.f, lt_mid, le_nat, if_true, rd_mid, wrap_mid pre x hl, wrap_id (show -9223372036854775808 ≤ (l.length : Int) - 1 by omega) (by omega), l1In_e, Option.bind_some, e, take_mid, L_ite, L_bind, l1Has_L pre x hl, L_const]
    rw [app_cons pre x r, ih (pre ++ [x]) (by simpa using hb), ite_not_and, ite_and]
    rfl
theorem l5Prefix_L (l : List S129) (s : List Int) (hn : l.length ≤ 1048576) (hs : s.length ≤ 1048576) : L (fun k => spec_l5Prefix.f k l s) = some (diffB (l.length : Int) [] s) := l5Prefix_l l hn s [] (by simp; omega)

theorem PrefixBound_both (l : List S129) (s : List Int) (obj : Int) (h : l.length ≤ 1048576) (hs : s.length ≤ 1048576) :
    ∃ (R : Int) (b : Bool), L (fun k => spec_PrefixBound.f k l s obj) = some (R, b) ∧ L (fun k => impl_PrefixBound.f k l s obj) = some (R, b) := by
  simp only [spec_PrefixBound.f, spec_l5Two.f, impl_PrefixBound.f, impl_isSplitObjective.f, L_bind, L_ite, L_const, l2Good_L l (by omega), IsJobs_L l (by omega), Option.bind_some, l5Prefix_L l s h hs, areDifferent_L l.length s h (by omega)]
  cases hg : goodB l with
  | false => exact ⟨0, false, by simp, by simp⟩
  | true =>
    by_cases hobj : obj = 2 ∨ obj = 4
    · have ho : (if obj = 2 then some true else some (obj == 4)) = some true := by
        rcases hobj with rfl | rfl <;> rfl
      simp only [ho, if_true, Option.bind_some]
      cases hd : diffB (l.length : Int) [] s with
      | false => exact ⟨0, false, by simp, by simp⟩
      | true =>
        obtain ⟨R, h1, h2⟩ := bound_both l (goodB_iff.1 hg) s hd obj hobj
        exact ⟨R, true, by simp only [if_true, h1, Option.bind_some], by simp only [if_true, h2, Option.bind_some]⟩
    · have ho : (if obj = 2 then some true else some (obj == 4)) = some false := by
        rw [if_neg (fun hc => hobj (.inl hc))]
        congr 1
        simp only [beq_eq_false_iff_ne, ne_eq]
        exact fun hc => hobj (.inr hc)
      simp only [ho, if_true, Option.bind_some]
      cases hd : diffB (l.length : Int) [] s <;> exact ⟨0, false, by simp, by simp⟩
theorem laws_FnExactPrefixBound_j0f (x0 : List (S131)) (x1 : List Int) (x10 : List (S129)) (x11 : List Int) : L (fun k => laws_FnExactPrefixBound.j0 k x0 x1 x10 x11 false) = L (fun k => (laws_toJobS.f k x0).bind fun t506 => ((laws_eqJobS.f k x10 t506).bind fun t509 => (if t509 = true then ((laws_toIntS.f k x1).bind fun t510 => ((laws_eqIntS.f k x11 t510).bind fun t513 => (if t513 = true then (some true) else (some false)))) else (some false)))) := by
  rw [L_shift]
  simp only [laws_FnExactPrefixBound.j0, Bool.false_eq_true, if_false]
theorem FnExactPrefixBound : laws_FnExactPrefixBound.Pure := by
  intro l s obj h1 _ h2 _ _
  have e1 : maxLen = 9223372036854775807 := rfl
  refine rounds_of_L ?_
  simp only [laws_FnExactPrefixBound.f, L_ite, L_const, szJobS_e l (by omega)]
  by_cases ho : s.length ≤ 1048576
  · rw [if_neg (by omega)]
    by_cases hl : l.length ≤ 1048576
    · have hl2 : (l.map toJobP).length ≤ 1048576 := by simpa using hl
      obtain ⟨R, b, hs, hi⟩ := PrefixBound_both (l.map toJobP) s obj hl2 ho
      rw [if_pos hl]
      simp (disch := omega) only [lt0, Option.bind_some, L_bind, L_ite, L_const, toJobS_L l hl, toIntS_L s ho, hs, hi, eqJobS_L _ hl2, eqIntS_L s ho, laws_FnExactPrefixBound_j0f, if_true, Bool.false_eq_true, if_false, bne_self_eq_false]
    · rw [if_neg hl]
      simp only [Option.bind_some, if_pos (show (-1 : Int) < 0 by decide), L_const]
  · rw [if_pos (by omega)]

end Go.Proofs.Ytnelkodgjfjpdaa.Pure
