/- The program's IsUndominated answers what the reference's answers, for all lists of jobs, orders and pairs of objectives. -/
import Derived.Test.YtpbgdgjnkmlifaaXSFnExactIsUndominated
import Derived.Test.YtpbgdgjnkmlifaaXLim
namespace Go.Proofs.Ytpbgdgjnkmlifaa.Pure
open Go.RowKit Go.Proofs.YtpbgdgjnkmlifaaW.PrintWords Go.Proofs.YtpbgdgjnkmlifaaW.PrintLast Go.Proofs.YtpbgdgjnkmlifaaW.PrintMore Go.Proofs.Ytpbgdgjnkmlifaa.X Go.Proofs.Ytpbgdgjnkmlifaa.XRow Go.Proofs.Ytpbgdgjnkmlifaa.XLim
set_option linter.unusedVariables false
set_option linter.unusedSimpArgs false
instance : ∀ a0, Mono (fun k => impl_IsJobs.f k a0) := fun a0 => ⟨⟨impl_IsJobs.mono a0⟩⟩
instance : ∀ a0 a1 a2 a3, Mono (fun k => impl_IsUndominated.f k a0 a1 a2 a3) := fun a0 a1 a2 a3 => ⟨⟨impl_IsUndominated.mono a0 a1 a2 a3⟩⟩
instance : ∀ a0 a1, Mono (fun k => impl_areDifferent.f k a0 a1) := fun a0 a1 => ⟨⟨impl_areDifferent.mono a0 a1⟩⟩
instance : ∀ a0 a1 a2, Mono (fun k => impl_areTwo.f k a0 a1 a2) := fun a0 a1 a2 => ⟨⟨impl_areTwo.mono a0 a1 a2⟩⟩
instance : ∀ a0 a1, Mono (fun k => impl_endsOf.f k a0 a1) := fun a0 a1 => ⟨⟨impl_endsOf.mono a0 a1⟩⟩
instance : ∀ l0 a1 a2, Mono (fun k => impl_frontOf.f k l0 a1 a2) := fun l0 a1 a2 => ⟨⟨impl_frontOf.mono l0 a1 a2⟩⟩
instance : ∀ a0 a1, Mono (fun k => impl_has.f k a0 a1) := fun a0 a1 => ⟨⟨impl_has.mono a0 a1⟩⟩
instance : ∀ a0 a1, Mono (fun k => impl_isOrder.f k a0 a1) := fun a0 a1 => ⟨⟨impl_isOrder.mono a0 a1⟩⟩
instance : ∀ a0, Mono (fun k => impl_nextOrder.f k a0) := fun a0 => ⟨⟨impl_nextOrder.mono a0⟩⟩
instance : ∀ a0, Mono (fun k => impl_numbersTo.f k a0) := fun a0 => ⟨⟨impl_numbersTo.mono a0⟩⟩
instance : ∀ a0 a1 a2 a3, Mono (fun k => impl_pointOf.f k a0 a1 a2 a3) := fun a0 a1 a2 a3 => ⟨⟨impl_pointOf.mono a0 a1 a2 a3⟩⟩
instance : ∀ a0 a1 a2, Mono (fun k => impl_valueOfEnds.f k a0 a1 a2) := fun a0 a1 a2 => ⟨⟨impl_valueOfEnds.mono a0 a1 a2⟩⟩
instance : ∀ a0 a1 a2 a3, Mono (fun k => laws_FnExactIsUndominated.f k a0 a1 a2 a3) := fun a0 a1 a2 a3 => ⟨⟨laws_FnExactIsUndominated.mono a0 a1 a2 a3⟩⟩
instance : ∀ a0 a1, Mono (fun k => laws_eqIntS.f k a0 a1) := fun a0 a1 => ⟨⟨laws_eqIntS.mono a0 a1⟩⟩
instance : ∀ a0 a1, Mono (fun k => laws_eqJobS.f k a0 a1) := fun a0 a1 => ⟨⟨laws_eqJobS.mono a0 a1⟩⟩
instance : ∀ a0, Mono (fun k => laws_toIntS.f k a0) := fun a0 => ⟨⟨laws_toIntS.mono a0⟩⟩
instance : ∀ a0, Mono (fun k => laws_toJobS.f k a0) := fun a0 => ⟨⟨laws_toJobS.mono a0⟩⟩
instance : ∀ a0 a1 a2 a3, Mono (fun k => spec_IsUndominated.f k a0 a1 a2 a3) := fun a0 a1 a2 a3 => ⟨⟨spec_IsUndominated.mono a0 a1 a2 a3⟩⟩
instance : ∀ a0 a1 a2, Mono (fun k => spec_l11Front.f k a0 a1 a2) := fun a0 a1 a2 => ⟨⟨spec_l11Front.mono a0 a1 a2⟩⟩
instance : ∀ a0 a1 a2, Mono (fun k => spec_l11Has.f k a0 a1 a2) := fun a0 a1 a2 => ⟨⟨spec_l11Has.mono a0 a1 a2⟩⟩
instance : ∀ a0 a1 a2 a3, Mono (fun k => spec_l11Point.f k a0 a1 a2 a3) := fun a0 a1 a2 a3 => ⟨⟨spec_l11Point.mono a0 a1 a2 a3⟩⟩
instance : ∀ a0 a1 a2, Mono (fun k => spec_l11Put.f k a0 a1 a2) := fun a0 a1 a2 => ⟨⟨spec_l11Put.mono a0 a1 a2⟩⟩
instance : ∀ a0 a1 a2 a3 a4, Mono (fun k => spec_l11Try.f k a0 a1 a2 a3 a4) := fun a0 a1 a2 a3 a4 => ⟨⟨spec_l11Try.mono a0 a1 a2 a3 a4⟩⟩
instance : ∀ a0 a1, Mono (fun k => spec_l1Has.f k a0 a1) := fun a0 a1 => ⟨⟨spec_l1Has.mono a0 a1⟩⟩
instance : ∀ a0 a1, Mono (fun k => spec_l2Ends.f k a0 a1) := fun a0 a1 => ⟨⟨spec_l2Ends.mono a0 a1⟩⟩
instance : ∀ a0, Mono (fun k => spec_l2Good.f k a0) := fun a0 => ⟨⟨spec_l2Good.mono a0⟩⟩
instance : ∀ a0 a1 a2, Mono (fun k => spec_l2Of.f k a0 a1 a2) := fun a0 a1 a2 => ⟨⟨spec_l2Of.mono a0 a1 a2⟩⟩
instance : ∀ a0 a1, Mono (fun k => spec_l2Order.f k a0 a1) := fun a0 a1 => ⟨⟨spec_l2Order.mono a0 a1⟩⟩
instance : ∀ a0 a1, Mono (fun k => spec_l2Starts.f k a0 a1) := fun a0 a1 => ⟨⟨spec_l2Starts.mono a0 a1⟩⟩
instance : ∀ a0 a1, Mono (fun k => spec_l2Two.f k a0 a1) := fun a0 a1 => ⟨⟨spec_l2Two.mono a0 a1⟩⟩
theorem lt_mid {α : Type} (pre : List α) (x : α) (r : List α) : ((pre.length : Int) < ((pre ++ x :: r).length : Int)) = True := by
  simp only [List.length_append, List.length_cons]
  exact eq_true (by omega)
theorem not_lt_end {α : Type} (pre : List α) : ((pre.length : Int) < ((pre ++ []).length : Int)) = False := by
  simp
theorem le_nat (n : Nat) : (0 ≤ (n : Int)) = True := eq_true (by omega)
theorem getD_mid {α : Type} (pre : List α) (x : α) (r : List α) (d : α) : (pre ++ x :: r).getD (pre.length : Int).toNat d = x := by
  simp [List.getD_eq_getElem?_getD]
theorem rd_mid (pre : List Int) (x : Int) (r : List Int) : rd (pre ++ x :: r) (pre.length : Int) = x := getD_mid pre x r 0
theorem wrap_mid {α : Type} (pre : List α) (x : α) (h : pre.length < 4611686018427387904) : wrap64 ((pre.length : Int) + 1) = ((pre ++ [x]).length : Int) := by
  rw [wrap_id (by omega) (by omega)]
  simp
theorem set_mid {α β : Type} (a : List α) (y v : α) (b : List α) (pre : List β) (h : pre.length = a.length) : (a ++ y :: b).set (pre.length : Int).toNat v = a ++ v :: b := by
  rw [Int.toNat_natCast, h, List.set_append_right _ _ (Nat.le_refl _)]
  simp
theorem rep_succ {α : Type} (x : α) (r : List α) {β : Type} (z : β) : List.replicate (x :: r).length z = z :: List.replicate r.length z := rfl
theorem app_cons {α : Type} (pre : List α) (x : α) (r : List α) : pre ++ x :: r = (pre ++ [x]) ++ r := by simp
theorem lt0 {a : Int} (h : 0 ≤ a) : (a < 0) = False := eq_false (by omega)
theorem getD_set (out : List Int) (i j : Nat) (v : Int) : (out.set i v).getD j 0 = if i = j ∧ j < out.length then v else out.getD j 0 := by
  simp only [List.getD_eq_getElem?_getD, List.getElem?_set]
  by_cases h : i = j
  · subst h
    by_cases h2 : i < out.length
    · simp [h2]
    · simp [h2]
  · simp [h]
theorem ext_getD {a b : List Int} (hl : a.length = b.length) (h : ∀ j : Nat, j < a.length → a.getD j 0 = b.getD j 0) : a = b := by
  apply List.ext_getElem hl
  intro j h1 h2
  have := h j h1
  rwa [List.getD_eq_getElem?_getD, List.getD_eq_getElem?_getD, List.getElem?_eq_getElem h1, List.getElem?_eq_getElem h2] at this
theorem getD_mem {l : List Int} {j : Nat} (hj : j < l.length) : l.getD j 0 ∈ l := by
  rw [List.getD_eq_getElem?_getD, List.getElem?_eq_getElem hj]
  exact List.getElem_mem _
theorem toIntS_l (r : List Int) : ∀ pre : List Int, (pre ++ r).length < 4611686018427387904 → L (fun k => laws_toIntS.l0 k (pre ++ r) (pre ++ List.replicate r.length 0) (pre.length : Int)) = some (pre ++ r) := by
  induction r with
  | nil =>
    intro pre hb
    rw [L_shift]
    simp only [laws_toIntS.l0, not_lt_end, if_false, L_const, List.length_nil, List.replicate_zero]
  | cons x r ih =>
    intro pre hb
    rw [L_shift]
    have hl : pre.length < 4611686018427387904 := by simp at hb; omega
    simp only [laws_toIntS.l0, lt_mid, le_nat, if_true, rep_succ, rd_mid, wrap_mid pre x hl, set_mid pre _ x _ pre rfl]
    rw [app_cons pre x r, app_cons pre x (List.replicate _ _)]
    exact ih (pre ++ [x]) (by simpa using hb)
theorem toIntS_L (l : List Int) (h : l.length ≤ 1048576) : L (fun k => laws_toIntS.f k l) = some l := by
  simp only [laws_toIntS.f, le_nat, if_true, Int.toNat_natCast, if_pos (show l.length ≤ 35184372088832 by omega)]
  exact toIntS_l l [] (by simp; omega)
theorem eqIntS_l (r : List Int) : ∀ pre : List Int, (pre ++ r).length < 4611686018427387904 → L (fun k => laws_eqIntS.l0 k (pre ++ r) (pre ++ r) (pre.length : Int)) = some true := by
  induction r with
  | nil =>
    intro pre hb
    rw [L_shift]
    simp only [laws_eqIntS.l0, not_lt_end, if_false, L_const]
  | cons x r ih =>
    intro pre hb
    rw [L_shift]
    have hl : pre.length < 4611686018427387904 := by simp at hb; omega
    simp only [laws_eqIntS.l0, lt_mid, le_nat, if_true, rd_mid, wrap_mid pre x hl]
    rw [app_cons pre x r]
    exact ih (pre ++ [x]) (by simpa using hb)
theorem eqIntS_L (l : List Int) (h : l.length ≤ 1048576) : L (fun k => laws_eqIntS.f k l l) = some true := by
  simp only [laws_eqIntS.f, if_true]
  exact eqIntS_l l [] (by simp; omega)
def toJobP (x : S43) : S41 := ⟨x.f0, x.f1, x.f2, x.f3⟩
theorem toJobS_l (r : List S43) : ∀ pre : List S43, (pre ++ r).length < 4611686018427387904 → L (fun k => laws_toJobS.l0 k (pre ++ r) (pre.map toJobP ++ List.replicate r.length z41) (pre.length : Int)) = some ((pre ++ r).map toJobP) := by
  induction r with
  | nil =>
    intro pre hb
    rw [L_shift]
    simp only [laws_toJobS.l0, not_lt_end, if_false, L_const, List.length_nil, List.replicate_zero]
    simp
  | cons x r ih =>
    intro pre hb
    rw [L_shift]
    have hl : pre.length < 4611686018427387904 := by simp at hb; omega
    have e : rd_T43 (pre ++ x :: r) (pre.length : Int) = x := getD_mid pre x r _
    have e2 : ((pre.length : Int) < ((pre.map toJobP ++ z41 :: List.replicate r.length z41).length : Int)) = True := by
      simp only [List.length_append, List.length_cons, List.length_map]
      exact eq_true (by omega)
    simp only [laws_toJobS.l0, laws_toJob.f, lt_mid, le_nat, if_true, rep_succ, e, e2, wrap_mid pre x hl, Option.bind_some, set_mid (pre.map toJobP) _ _ _ pre (by simp)]
    have := ih (pre ++ [x]) (by simpa using hb)
    simpa [toJobP] using this
theorem toJobS_L (l : List S43) (h : l.length ≤ 1048576) : L (fun k => laws_toJobS.f k l) = some (l.map toJobP) := by
  simp only [laws_toJobS.f, le_nat, if_true, Int.toNat_natCast, if_pos (show l.length ≤ 8796093022208 by omega)]
  exact toJobS_l l [] (by simp; omega)
theorem eqJobS_l (r : List S41) : ∀ pre : List S41, (pre ++ r).length < 4611686018427387904 → L (fun k => laws_eqJobS.l0 k (pre ++ r) (pre ++ r) (pre.length : Int)) = some true := by
  induction r with
  | nil =>
    intro pre hb
    rw [L_shift]
    simp only [laws_eqJobS.l0, not_lt_end, if_false, L_const]
  | cons x r ih =>
    intro pre hb
    rw [L_shift]
    have hl : pre.length < 4611686018427387904 := by simp at hb; omega
    simp only [laws_eqJobS.l0, laws_eqJob.f, lt_mid, le_nat, if_true, wrap_mid pre x hl, Option.bind_some]
    rw [app_cons pre x r]
    exact ih (pre ++ [x]) (by simpa using hb)
theorem eqJobS_L (l : List S41) (h : l.length ≤ 1048576) : L (fun k => laws_eqJobS.f k l l) = some true := by
  simp only [laws_eqJobS.f, if_true]
  exact eqJobS_l l [] (by simp; omega)
theorem szJobS_e (l : List S43) (h : l.length ≤ 9223372036854775807) : laws_szJobS.f l 1048576 = if l.length ≤ 1048576 then some (1048576 - (l.length : Int)) else some (-1) := by
  unfold laws_szJobS.f
  have e : wrap64 (1048576 - (l.length : Int)) = 1048576 - (l.length : Int) := wrap_id (by omega) (by omega)
  rw [e]
  by_cases h2 : l.length ≤ 1048576
  · rw [if_neg (by omega), if_pos h2]
  · rw [if_pos (by omega), if_neg h2]
theorem ite_and (b c : Bool) : (if b = true then some c else some false) = some (b && c) := by cases b <;> rfl
theorem ite_not_and (b c : Bool) : (if b = true then some false else some c) = some (!b && c) := by cases b <;> rfl
theorem bind_self {α : Type} (o : Option α) : (o.bind fun t => some t) = o := by cases o <;> rfl
def inB (a lo hi : Int) : Bool := decide (lo ≤ a) && decide (a ≤ hi)
theorem inB_iff {a lo hi : Int} : inB a lo hi = true ↔ lo ≤ a ∧ a ≤ hi := by simp [inB]
theorem within_e (a lo hi : Int) : impl_within.f a lo hi = some (inB a lo hi) := by
  unfold impl_within.f inB
  by_cases h : lo ≤ a <;> simp [h]
theorem l1In_e (a lo hi : Int) : spec_l1In.f a lo hi = some (inB a lo hi) := by
  unfold spec_l1In.f inB
  by_cases h : lo ≤ a <;> simp [h]
theorem mx_e (a b : Int) : mx a b = max a b := by
  unfold mx
  omega
theorem l1Most_e (a b : Int) : spec_l1Most.f a b = some (max a b) := by
  unfold spec_l1Most.f
  by_cases h : a > b
  · rw [if_pos h]
    congr 1
    omega
  · rw [if_neg h]
    congr 1
    omega
theorem l1Has_l (x : Int) (r : List Int) : ∀ pre : List Int, (pre ++ r).length < 4611686018427387904 → L (fun k => spec_l1Has.l0 k (pre ++ r) x (pre.length : Int)) = some (decide (x ∈ r)) := by
  induction r with
  | nil =>
    intro pre hb
    rw [L_shift]
    simp only [spec_l1Has.l0, not_lt_end, if_false, L_const]
    simp
  | cons y r ih =>
    intro pre hb
    rw [L_shift]
    have hl : pre.length < 4611686018427387904 := by simp at hb; omega
    simp only [spec_l1Has.l0, lt_mid, le_nat, if_true, rd_mid, wrap_mid pre y hl, L_ite, L_const]
    rw [app_cons pre y r, ih (pre ++ [y]) (by simpa using hb)]
    by_cases h : y = x
    · subst h
      simp
    · rw [if_neg h]
      have : ¬ x = y := fun e => h e.symm
      simp [this]
theorem l1Has_L (l : List Int) (x : Int) (h : l.length < 4611686018427387904) : L (fun k => spec_l1Has.f k l x) = some (decide (x ∈ l)) := l1Has_l x l [] (by simpa using h)
theorem has_l (x : Int) (r : List Int) : ∀ pre : List Int, (pre ++ r).length < 4611686018427387904 → L (fun k => impl_has.l0 k x (pre ++ r) ((pre ++ r).length : Int) (pre.length : Int)) = some (decide (x ∈ r)) := by
  induction r with
  | nil =>
    intro pre hb
    rw [L_shift]
    simp only [impl_has.l0, not_lt_end, if_false, L_const]
    simp
  | cons y r ih =>
    intro pre hb
    rw [L_shift]
    have hl : pre.length < 4611686018427387904 := by simp at hb; omega
    simp only [impl_has.l0, lt_mid, le_nat, if_true, rd_mid, wrap_mid pre y hl, L_ite, L_const]
    rw [app_cons pre y r, ih (pre ++ [y]) (by simpa using hb)]
    by_cases h : y = x
    · subst h
      simp
    · rw [if_neg h]
      have : ¬ x = y := fun e => h e.symm
      simp [this]
theorem has_L (l : List Int) (x : Int) (h : l.length < 4611686018427387904) : L (fun k => impl_has.f k l x) = some (decide (x ∈ l)) := has_l x l [] (by simpa using h)
theorem perm_of : ∀ (a b : List Int), a.Nodup → (∀ x ∈ a, x ∈ b) → b.length ≤ a.length → a.Perm b
  | [], b, _, _, hl => by
    have : b = [] := List.length_eq_zero_iff.1 (by simpa using hl)
    rw [this]
  | x :: a, b, hn, hs, hl => by
    have hx : x ∈ b := hs x List.mem_cons_self
    have hn' := List.nodup_cons.1 hn
    have hp := List.perm_cons_erase hx
    have h1 : (b.erase x).length ≤ a.length := by
      have := List.length_erase_of_mem hx
      simp at hl
      omega
    have h2 : ∀ y ∈ a, y ∈ b.erase x := fun y hy => (List.mem_erase_of_ne (by rintro rfl; exact hn'.1 hy)).2 (hs y (List.mem_cons_of_mem _ hy))
    exact ((perm_of a (b.erase x) hn'.2 h2 h1).cons x).trans hp.symm
def numsTo (n : Nat) : List Int := (List.range n).map (fun i : Nat => (i : Int))
theorem numsTo_length (n : Nat) : (numsTo n).length = n := by simp [numsTo]
theorem mem_numsTo {n : Nat} {x : Int} : x ∈ numsTo n ↔ 0 ≤ x ∧ x < n := by
  simp only [numsTo, List.mem_map, List.mem_range]
  constructor
  · rintro ⟨i, hi, rfl⟩
    omega
  · intro h
    exact ⟨x.toNat, by omega, by omega⟩
theorem numsTo_nodup (n : Nat) : (numsTo n).Nodup := by
  unfold numsTo
  exact List.Pairwise.map _ (fun a b h => by omega) List.nodup_range
theorem numsTo_succ (n : Nat) : numsTo (n + 1) = numsTo n ++ [(n : Int)] := by
  unfold numsTo
  rw [List.range_succ, List.map_append]
  rfl
/-- Different numbers of n things, none of them in pre. -/
def diffB (n : Int) : List Int → List Int → Bool
  | _, [] => true
  | pre, x :: r => inB x 0 (n - 1) && (!decide (x ∈ pre) && diffB n (pre ++ [x]) r)
theorem diffB_iff (n : Int) : ∀ (r pre : List Int), diffB n pre r = true ↔ (∀ x ∈ r, 0 ≤ x ∧ x < n) ∧ r.Nodup ∧ ∀ x ∈ r, x ∉ pre
  | [], pre => by simp [diffB]
  | x :: r, pre => by
    rw [diffB, Bool.and_eq_true, Bool.and_eq_true, inB_iff, diffB_iff n r (pre ++ [x])]
    simp only [Bool.not_eq_true', decide_eq_false_iff_not, List.mem_cons, List.nodup_cons, List.mem_append, List.not_mem_nil, or_false, not_or]
    constructor
    · rintro ⟨h1, h2, h3, h4, h5⟩
      refine ⟨?_, ⟨fun hx => (h5 x hx).2 rfl, h4⟩, ?_⟩
      · rintro y (rfl | hy)
        · omega
        · exact h3 y hy
      · rintro y (rfl | hy)
        · exact h2
        · exact (h5 y hy).1
    · rintro ⟨h1, ⟨h2, h3⟩, h4⟩
      exact ⟨⟨(h1 x (.inl rfl)).1, by have := (h1 x (.inl rfl)).2; omega⟩, h4 x (.inl rfl), fun y hy => h1 y (.inr hy), h3, fun y hy => ⟨h4 y (.inr hy), fun e => h2 (e ▸ hy)⟩⟩
/-- An order of n jobs. -/
def orderB (n : Nat) (l : List Int) : Bool := decide ((l.length : Int) = n) && diffB n [] l
def IsOrd (n : Nat) (l : List Int) : Prop := l.length = n ∧ (∀ x ∈ l, 0 ≤ x ∧ x < n) ∧ l.Nodup
theorem orderB_iff {n : Nat} {l : List Int} : orderB n l = true ↔ IsOrd n l := by
  simp only [orderB, Bool.and_eq_true, decide_eq_true_eq, diffB_iff, IsOrd]
  constructor
  · rintro ⟨h, h1, h2, _⟩
    exact ⟨by omega, h1, h2⟩
  · rintro ⟨h, h1, h2⟩
    exact ⟨by omega, h1, h2, by simp⟩
theorem IsOrd.perm {n : Nat} {l : List Int} (h : IsOrd n l) : l.Perm (numsTo n) := perm_of l _ h.2.2 (fun x hx => mem_numsTo.2 (h.2.1 x hx)) (by rw [numsTo_length, h.1]; exact Nat.le_refl _)
theorem IsOrd.of_perm {n : Nat} {l : List Int} (h : l.Perm (numsTo n)) : IsOrd n l := ⟨by rw [h.length_eq, numsTo_length], fun x hx => mem_numsTo.1 (h.mem_iff.1 hx), h.nodup_iff.2 (numsTo_nodup n)⟩
theorem IsOrd.mem {n : Nat} {l : List Int} (h : IsOrd n l) {x : Int} : x ∈ l ↔ 0 ≤ x ∧ x < n := by rw [h.perm.mem_iff, mem_numsTo]
theorem isOrd_all {n : Nat} {l : List Int} (hl : l.length = n) (h : ∀ j : Nat, j < n → (j : Int) ∈ l) : IsOrd n l :=
  IsOrd.of_perm (perm_of _ l (numsTo_nodup n) (fun x hx => by
    obtain ⟨h0, h1⟩ := mem_numsTo.1 hx
    have := h x.toNat (by omega)
    rwa [Int.toNat_of_nonneg h0] at this) (by rw [numsTo_length, hl]; exact Nat.le_refl _)).symm
theorem l2Order_l (n : Nat) (l : List Int) (hn : n ≤ 1048576) (hl : l.length < 4611686018427387904) : ∀ (d i : Nat), i + d = n → L (fun k => spec_l2Order.l0 k (n : Int) l (i : Int)) = some (decide (∀ j : Nat, j < n → i ≤ j → (j : Int) ∈ l))
  | 0, i, hi => by
    rw [L_shift]
    simp only [spec_l2Order.l0, if_neg (show ¬ ((i : Int) < (n : Int)) by omega), L_const]
    congr 1
    symm
    rw [decide_eq_true_eq]
    intro j h1 h2
    omega
  | d + 1, i, hi => by
    rw [L_shift]
    have e : wrap64 ((i : Int) + 1) = ((i + 1 : Nat) : Int) := by
      rw [wrap_id (by omega) (by omega)]
      omega
    simp only [spec_l2Order.l0, if_pos (show ((i : Int) < (n : Int)) by omega), L_bind, l1Has_L l _ hl, Option.bind_some, e, L_ite, L_const]
    rw [l2Order_l n l hn hl d (i + 1) (by omega), ite_and]
    congr 1
    rw [← Bool.decide_and]
    apply decide_eq_decide.2
    constructor
    · rintro ⟨h1, h2⟩ j h4 h3
      rcases Nat.eq_or_lt_of_le h3 with rfl | h5
      · exact h1
      · exact h2 j h4 h5
    · intro h
      exact ⟨h i (by omega) (Nat.le_refl _), fun j h4 h3 => h j h4 (by omega)⟩
theorem l2Order_L (n : Nat) (l : List Int) (hn : n ≤ 1048576) (hl : l.length < 4611686018427387904) : L (fun k => spec_l2Order.f k (n : Int) l) = some (decide (n ≤ 8) && orderB n l) := by
  have hj : ∀ b : Bool, L (fun k => spec_l2Order.j0 k (n : Int) l b) = some (!b && decide (∀ j : Nat, j < n → (j : Int) ∈ l)) := by
    intro b
    rw [L_shift]
    simp only [spec_l2Order.j0, L_ite, L_const]
    rw [show ((0 : Int)) = ((0 : Nat) : Int) from rfl]
    rw [l2Order_l n l hn hl n 0 (by omega), ite_not_and]
    simp
  simp only [spec_l2Order.f, l1In_e, Option.bind_some, L_ite, hj]
  by_cases h8 : n ≤ 8
  · rw [if_pos (by rw [inB_iff]; omega)]
    simp only [h8, decide_true, Bool.true_and]
    congr 1
    by_cases hl2 : l.length = n
    · have e : ((l.length : Int) != (n : Int)) = false := by rw [hl2]; simp
      rw [e]
      simp only [Bool.not_false, Bool.true_and]
      by_cases h : ∀ j : Nat, j < n → (j : Int) ∈ l
      · rw [decide_eq_true h, orderB_iff.2 (isOrd_all hl2 h)]
      · rw [decide_eq_false h]
        symm
        rw [Bool.eq_false_iff]
        intro ho
        exact h (fun j hj => (orderB_iff.1 ho).mem.2 (by omega))
    · have e : ((l.length : Int) != (n : Int)) = true := by simp; omega
      rw [e]
      simp only [Bool.not_true, Bool.false_and]
      symm
      rw [Bool.eq_false_iff]
      intro ho
      exact hl2 (orderB_iff.1 ho).1
  · rw [if_neg (by rw [inB_iff]; omega)]
    simp [h8]
theorem isNumber_e (a n : Int) (h0 : -9223372036854775807 ≤ n) (h1 : n ≤ 9223372036854775807) : impl_isNumber.f a n = some (inB a 0 (n - 1)) := by
  simp only [impl_isNumber.f, within_e, Option.bind_some]
  rw [wrap_id (by omega) (by omega)]
theorem take_mid {α : Type} (pre : List α) (r : List α) : (pre ++ r).take (pre.length : Int).toNat = pre := by simp
theorem areDifferent_l (n : Nat) (hn : n ≤ 1048576) (r : List Int) : ∀ pre : List Int, (pre ++ r).length < 4611686018427387904 → L (fun k => impl_areDifferent.l0 k (n : Int) (pre ++ r) (pre ++ r) ((pre ++ r).length : Int) (pre.length : Int)) = some (diffB n pre r) := by
  induction r with
  | nil =>
    intro pre hb
    rw [L_shift]
    simp only [impl_areDifferent.l0, not_lt_end, if_false, L_const]
    simp [diffB]
  | cons x r ih =>
    intro pre hb
    rw [L_shift]
    have hl : pre.length < 4611686018427387904 := by simp at hb; omega
    have e : ((pre.length : Int) ≤ ((pre ++ x :: r).length : Int)) = True := eq_true (by simp; omega)
    simp only [impl_areDifferent.l0, lt_mid, le_nat, if_true, rd_mid, wrap_mid pre x hl, isNumber_e x (n : Int) (by omega) (by omega), Option.bind_some, e, take_mid, L_ite, L_bind, has_L pre x hl, L_const]
    rw [app_cons pre x r, ih (pre ++ [x]) (by simpa using hb), ite_not_and, ite_and]
    rfl
theorem areDifferent_L (n : Nat) (l : List Int) (hn : n ≤ 1048576) (hl : l.length < 4611686018427387904) : L (fun k => impl_areDifferent.f k (n : Int) l) = some (diffB n [] l) := areDifferent_l n hn l [] (by simpa using hl)
theorem isOrder_L (n : Nat) (l : List Int) (hn : n ≤ 1048576) (hl : l.length < 4611686018427387904) : L (fun k => impl_isOrder.f k (n : Int) l) = some (orderB n l) := by
  simp only [impl_isOrder.f, bind_self, L_ite, areDifferent_L n l hn hl, L_const, orderB]
  by_cases h : (l.length : Int) = n <;> simp [h]
def jobB (j : S41) : Bool := inB j.f0 1 50 && (inB j.f1 0 50 && (inB j.f2 0 500 && inB j.f3 0 500))
def goodB (l : List S41) : Bool := l.all jobB && decide ((l.length : Int) ≤ 8)
structure JobOk (j : S41) : Prop where
  t0 : 1 ≤ j.f0
  t1 : j.f0 ≤ 50
  w0 : 0 ≤ j.f1
  w1 : j.f1 ≤ 50
  r0 : 0 ≤ j.f2
  r1 : j.f2 ≤ 500
  d0 : 0 ≤ j.f3
  d1 : j.f3 ≤ 500
def Good (l : List S41) : Prop := l.length ≤ 8 ∧ ∀ j ∈ l, JobOk j
theorem goodB_iff {l : List S41} : goodB l = true ↔ Good l := by
  simp only [goodB, Good, Bool.and_eq_true, List.all_eq_true, decide_eq_true_eq, jobB, inB_iff]
  constructor
  · rintro ⟨h, hl⟩
    exact ⟨by omega, fun j hj => by
      obtain ⟨⟨a, b⟩, ⟨c, d⟩, ⟨e, f⟩, g, i⟩ := h j hj
      exact ⟨a, b, c, d, e, f, g, i⟩⟩
  · rintro ⟨hl, h⟩
    exact ⟨fun j hj => ⟨⟨(h j hj).t0, (h j hj).t1⟩, ⟨(h j hj).w0, (h j hj).w1⟩, ⟨(h j hj).r0, (h j hj).r1⟩, (h j hj).d0, (h j hj).d1⟩, by omega⟩
theorem l2Job_e (j : S41) : spec_l2Job.f j.f0 j.f1 j.f2 j.f3 = some (jobB j) := by
  simp only [spec_l2Job.f, l1In_e, Option.bind_some, ite_and, jobB]
theorem l2Good_l (r : List S41) : ∀ pre : List S41, (pre ++ r).length < 4611686018427387904 → L (fun k => spec_l2Good.l0 k (pre ++ r) (pre.length : Int)) = some (r.all jobB && decide (((pre ++ r).length : Int) ≤ 8)) := by
  induction r with
  | nil =>
    intro pre hb
    rw [L_shift]
    simp only [spec_l2Good.l0, not_lt_end, if_false, L_const]
    simp
  | cons x r ih =>
    intro pre hb
    rw [L_shift]
    have hl : pre.length < 4611686018427387904 := by simp at hb; omega
    have e : rd_T41 (pre ++ x :: r) (pre.length : Int) = x := getD_mid pre x r _
    simp only [spec_l2Good.l0, lt_mid, le_nat, if_true, e, wrap_mid pre x hl, l2Job_e, Option.bind_some, L_ite, L_const]
    rw [app_cons pre x r, ih (pre ++ [x]) (by simpa using hb), ite_and]
    rw [List.all_cons, Bool.and_assoc]
theorem l2Good_L (l : List S41) (h : l.length < 4611686018427387904) : L (fun k => spec_l2Good.f k l) = some (goodB l) := by
  have := l2Good_l l [] (by simpa using h)
  simpa [goodB, spec_l2Good.f] using this
theorem isDate_e (n : Int) : impl_isDate.f n = some (inB n 0 500) := by
  simp only [impl_isDate.f, within_e, Option.bind_some]
theorem IsJobs_l (r : List S41) : ∀ pre : List S41, (pre ++ r).length < 4611686018427387904 → L (fun k => impl_IsJobs.l0 k (pre ++ r) ((pre ++ r).length : Int) (pre.length : Int)) = some (r.all jobB) := by
  induction r with
  | nil =>
    intro pre hb
    rw [L_shift]
    simp only [impl_IsJobs.l0, not_lt_end, if_false, L_const]
    simp
  | cons x r ih =>
    intro pre hb
    rw [L_shift]
    have hl : pre.length < 4611686018427387904 := by simp at hb; omega
    have e : rd_T41 (pre ++ x :: r) (pre.length : Int) = x := getD_mid pre x r _
    simp only [impl_IsJobs.l0, lt_mid, le_nat, if_true, e, wrap_mid pre x hl, within_e, isDate_e, Option.bind_some, L_ite, L_const]
    rw [app_cons pre x r, ih (pre ++ [x]) (by simpa using hb)]
    simp only [ite_and, List.all_cons, jobB, Bool.and_assoc]
theorem IsJobs_L (l : List S41) (h : l.length < 4611686018427387904) : L (fun k => impl_IsJobs.f k l) = some (goodB l) := by
  have := IsJobs_l l [] (by simpa using h)
  simp only [List.nil_append, List.length_nil, Int.natCast_zero] at this
  simp only [impl_IsJobs.f, L_ite, L_const, this, goodB]
  by_cases h8 : (l.length : Int) ≤ 8
  · rw [if_neg (by omega)]
    simp [h8]
  · rw [if_pos (by omega)]
    simp [h8]
/-- Jobs and an order of them. -/
def schedB (l : List S41) (o : List Int) : Bool := goodB l && orderB l.length o
theorem l2Two_L (l : List S41) (o : List Int) (h : l.length ≤ 1048576) (ho : o.length ≤ 1048576) : L (fun k => spec_l2Two.f k l o) = some (schedB l o) := by
  simp only [spec_l2Two.f, bind_self, L_bind, L_ite, L_const, l2Good_L l (by omega), Option.bind_some, l2Order_L l.length o h (by omega), ite_and, schedB]
  cases hg : goodB l with
  | false => rfl
  | true =>
    have := (goodB_iff.1 hg).1
    simp [this]
def jobAt (l : List S41) (x : Int) : S41 := l.getD x.toNat z41
theorem jobAt_mem {l : List S41} {x : Int} (h0 : 0 ≤ x) (h1 : x < l.length) : jobAt l x ∈ l := by
  unfold jobAt
  rw [List.getD_eq_getElem?_getD, List.getElem?_eq_getElem (by omega)]
  exact List.getElem_mem _
/-- The ends, put into out by the jobs' numbers. -/
def endsF (l : List S41) : List Int → List Int → Int → List Int
  | [], out, _ => out
  | x :: r, out, now => endsF l r (out.set x.toNat (max now (jobAt l x).f2 + (jobAt l x).f0)) (max now (jobAt l x).f2 + (jobAt l x).f0)
def startsF (l : List S41) : List Int → List Int → Int → List Int
  | [], out, _ => out
  | x :: r, out, now => startsF l r (out.set x.toNat (max now (jobAt l x).f2)) (max now (jobAt l x).f2 + (jobAt l x).f0)
def endsP (l : List S41) (o : List Int) : List Int := endsF l o (List.replicate l.length 0) 0
def startsP (l : List S41) (o : List Int) : List Int := startsF l o (List.replicate l.length 0) 0
theorem endsF_length (l : List S41) : ∀ (o out : List Int) (now : Int), (endsF l o out now).length = out.length
  | [], out, now => rfl
  | x :: r, out, now => by rw [endsF, endsF_length l r, List.length_set]
theorem startsF_length (l : List S41) : ∀ (o out : List Int) (now : Int), (startsF l o out now).length = out.length
  | [], out, now => rfl
  | x :: r, out, now => by rw [startsF, startsF_length l r, List.length_set]
theorem endsP_length (l : List S41) (o : List Int) : (endsP l o).length = l.length := by rw [endsP, endsF_length, List.length_replicate]
theorem startsP_length (l : List S41) (o : List Int) : (startsP l o).length = l.length := by rw [startsP, startsF_length, List.length_replicate]
theorem ends_starts (l : List S41) : ∀ (o E S : List Int) (now : Int), E.length = l.length → S.length = l.length → (∀ x ∈ o, 0 ≤ x ∧ x < (l.length : Int)) →
    ∀ j : Nat, j < l.length → ((j : Int) ∈ o ∨ E.getD j 0 = S.getD j 0 + (l.getD j z41).f0) → (endsF l o E now).getD j 0 = (startsF l o S now).getD j 0 + (l.getD j z41).f0
  | [], E, S, now, _, _, _, j, _, h => by
    rcases h with h | h
    · cases h
    · exact h
  | x :: r, E, S, now, hE, hS, hx, j, hj, h => by
    rw [endsF, startsF]
    refine ends_starts l r _ _ _ (by rw [List.length_set, hE]) (by rw [List.length_set, hS]) (fun y hy => hx y (List.mem_cons_of_mem _ hy)) j hj ?_
    have hx0 := hx x List.mem_cons_self
    by_cases hr : (j : Int) ∈ r
    · exact .inl hr
    · right
      rw [getD_set, getD_set, hE, hS]
      by_cases e : x.toNat = j
      · rw [if_pos ⟨e, hj⟩, if_pos ⟨e, hj⟩]
        unfold jobAt
        rw [e]
      · rw [if_neg (fun h => e h.1), if_neg (fun h => e h.1)]
        rcases h with h | h
        · rcases List.mem_cons.1 h with h | h
          · exact absurd (by omega) e
          · exact absurd h hr
        · exact h
theorem ends_bounds (l : List S41) (hg : Good l) : ∀ (o E : List Int) (now : Int), 0 ≤ now → now ≤ 500 + 50 * (8 - o.length : Int) → o.length ≤ 8 → (∀ x ∈ o, 0 ≤ x ∧ x < (l.length : Int)) → (∀ v ∈ E, 0 ≤ v ∧ v ≤ 900) → ∀ v ∈ endsF l o E now, 0 ≤ v ∧ v ≤ 900
  | [], E, now, _, _, _, _, hE => hE
  | x :: r, E, now, h0, h1, hl, hx, hE => by
    rw [endsF]
    have hx0 := hx x List.mem_cons_self
    have hj := hg.2 _ (jobAt_mem hx0.1 hx0.2)
    have a0 := hj.t0
    have a1 := hj.t1
    have a2 := hj.r0
    have a3 := hj.r1
    simp only [List.length_cons] at h1 hl
    refine ends_bounds l hg r _ _ (by omega) (by omega) (by omega) (fun y hy => hx y (List.mem_cons_of_mem _ hy)) (fun v hv => ?_)
    rcases List.mem_or_eq_of_mem_set hv with h | h
    · exact hE v h
    · rw [h]
      omega
theorem endsP_bounds {l : List S41} {o : List Int} (hg : Good l) (ho : IsOrd l.length o) : ∀ v ∈ endsP l o, 0 ≤ v ∧ v ≤ 900 :=
  ends_bounds l hg o _ 0 (by omega) (by have := ho.1; have := hg.1; omega) (by have := ho.1; have := hg.1; omega) ho.2.1 (fun v hv => by rw [(List.mem_replicate.1 hv).2]; omega)
theorem endsP_starts {l : List S41} {o : List Int} (ho : IsOrd l.length o) (j : Nat) (hj : j < l.length) : (endsP l o).getD j 0 = (startsP l o).getD j 0 + (l.getD j z41).f0 :=
  ends_starts l o _ _ 0 (by simp) (by simp) ho.2.1 j hj (.inl (ho.mem.2 ⟨by omega, by omega⟩))
theorem endsOf_l (l : List S41) (hg : Good l) (r : List Int) (hx : ∀ x ∈ r, 0 ≤ x ∧ x < (l.length : Int)) : ∀ (pre E : List Int) (now : Int), (pre ++ r).length < 4611686018427387904 → E.length = l.length → 0 ≤ now → now + 50 * r.length ≤ 900 → r.length ≤ 8 →
    L (fun k => impl_endsOf.l0 k l E now (pre ++ r) ((pre ++ r).length : Int) (pre.length : Int)) = some (endsF l r E now) := by
  induction r with
  | nil =>
    intro pre E now hb _ _ _ _
    rw [L_shift]
    simp only [impl_endsOf.l0, not_lt_end, if_false, L_const, endsF]
  | cons x r ih =>
    intro pre E now hb hE h0 h1 h2
    rw [L_shift]
    have hl : pre.length < 4611686018427387904 := by simp at hb; omega
    have hx0 := hx x List.mem_cons_self
    have hj := hg.2 _ (jobAt_mem hx0.1 hx0.2)
    have a0 := hj.t0
    have a1 := hj.t1
    have a2 := hj.r0
    have a3 := hj.r1
    simp only [List.length_cons] at h1 h2
    have e : rd_T41 l x = jobAt l x := rfl
    simp only [impl_endsOf.l0, lt_mid, le_nat, if_true, rd_mid, wrap_mid pre x hl, e, mx_e, if_pos hx0.1, if_pos hx0.2, if_pos (show x < (E.length : Int) by omega), wrap_id (show -9223372036854775808 ≤ max now (jobAt l x).f2 + (jobAt l x).f0 by omega) (show max now (jobAt l x).f2 + (jobAt l x).f0 ≤ 9223372036854775807 by omega)]
    rw [app_cons pre x r, endsF]
    exact ih (fun y hy => hx y (List.mem_cons_of_mem _ hy)) (pre ++ [x]) _ _ (by simpa using hb) (by rw [List.length_set, hE]) (by omega) (by omega) (by omega)
theorem endsOf_L (l : List S41) (o : List Int) (hg : Good l) (ho : IsOrd l.length o) : L (fun k => impl_endsOf.f k l o) = some (endsP l o) := by
  have h8 := hg.1
  have hl := ho.1
  simp only [impl_endsOf.f, le_nat, if_true, Int.toNat_natCast, if_pos (show l.length ≤ 35184372088832 by omega)]
  exact endsOf_l l hg o ho.2.1 [] _ 0 (by simp; omega) (by simp) (by omega) (by omega) (by omega)
theorem l2Starts_l (l : List S41) (hg : Good l) (r : List Int) (hx : ∀ x ∈ r, 0 ≤ x ∧ x < (l.length : Int)) : ∀ (pre E : List Int) (now : Int), (pre ++ r).length < 4611686018427387904 → E.length = l.length → 0 ≤ now → now + 50 * r.length ≤ 900 → r.length ≤ 8 →
    L (fun k => spec_l2Starts.l0 k l (pre ++ r) E now (pre.length : Int)) = some (startsF l r E now) := by
  induction r with
  | nil =>
    intro pre E now hb _ _ _ _
    rw [L_shift]
    simp only [spec_l2Starts.l0, not_lt_end, if_false, L_const, startsF]
  | cons x r ih =>
    intro pre E now hb hE h0 h1 h2
    rw [L_shift]
    have hl : pre.length < 4611686018427387904 := by simp at hb; omega
    have hx0 := hx x List.mem_cons_self
    have hj := hg.2 _ (jobAt_mem hx0.1 hx0.2)
    have a0 := hj.t0
    have a1 := hj.t1
    have a2 := hj.r0
    have a3 := hj.r1
    simp only [List.length_cons] at h1 h2
    have e : rd_T41 l x = jobAt l x := rfl
    have e2 : rd (E.set x.toNat (max now (jobAt l x).f2)) x = max now (jobAt l x).f2 := by
      show (E.set x.toNat (max now (jobAt l x).f2)).getD x.toNat 0 = _
      rw [getD_set, if_pos ⟨rfl, by omega⟩]
    simp only [spec_l2Starts.l0, lt_mid, le_nat, if_true, rd_mid, wrap_mid pre x hl, e, l1Most_e, Option.bind_some, e2, if_pos hx0.1, if_pos hx0.2, if_pos (show x < (E.length : Int) by omega), wrap_id (show -9223372036854775808 ≤ max now (jobAt l x).f2 + (jobAt l x).f0 by omega) (show max now (jobAt l x).f2 + (jobAt l x).f0 ≤ 9223372036854775807 by omega)]
    rw [app_cons pre x r, startsF]
    exact ih (fun y hy => hx y (List.mem_cons_of_mem _ hy)) (pre ++ [x]) _ _ (by simpa using hb) (by rw [List.length_set, hE]) (by omega) (by omega) (by omega)
theorem l2Starts_L (l : List S41) (o : List Int) (hg : Good l) (ho : IsOrd l.length o) : L (fun k => spec_l2Starts.f k l o) = some (startsP l o) := by
  have h8 := hg.1
  have hl := ho.1
  simp only [spec_l2Starts.f, le_nat, if_true, Int.toNat_natCast, if_pos (show l.length ≤ 35184372088832 by omega)]
  exact l2Starts_l l hg o ho.2.1 [] _ 0 (by simp; omega) (by simp) (by omega) (by omega) (by omega)
theorem l2Ends_l (l : List S41) (T : List Int) (hT : T.length = l.length) (hB : ∀ j : Nat, j < l.length → -1000000 ≤ T.getD j 0 + (l.getD j z41).f0 ∧ T.getD j 0 + (l.getD j z41).f0 ≤ 1000000) (h8 : l.length ≤ 8) : ∀ (d i : Nat) (S : List Int), i + d = l.length → S.length = l.length →
    (∀ j : Nat, j < l.length → S.getD j 0 = if j < i then T.getD j 0 + (l.getD j z41).f0 else T.getD j 0) →
    ∃ R : List Int, L (fun k => spec_l2Ends.l0 k l S (i : Int)) = some R ∧ R.length = l.length ∧ ∀ j : Nat, j < l.length → R.getD j 0 = T.getD j 0 + (l.getD j z41).f0
  | 0, i, S, hi, hS, h => by
    refine ⟨S, ?_, hS, fun j hj => by rw [h j hj, if_pos (by omega)]⟩
    rw [L_shift]
    simp only [spec_l2Ends.l0, if_neg (show ¬ (i : Int) < (l.length : Int) by omega), L_const]
  | d + 1, i, S, hi, hS, h => by
    rw [L_shift]
    have hb := hB i (by omega)
    have e1 : rd S (i : Int) = T.getD i 0 := by
      show S.getD (i : Int).toNat 0 = _
      rw [Int.toNat_natCast, h i (by omega), if_neg (by omega)]
    have e2 : rd_T41 l (i : Int) = l.getD i z41 := by
      show l.getD (i : Int).toNat z41 = _
      rw [Int.toNat_natCast]
    have e3 : wrap64 ((i : Int) + 1) = ((i + 1 : Nat) : Int) := by
      rw [wrap_id (by omega) (by omega)]
      omega
    simp only [spec_l2Ends.l0, if_pos (show (i : Int) < (l.length : Int) by omega), if_pos (show (i : Int) < (S.length : Int) by omega), le_nat, if_true, e1, e2, e3, Int.toNat_natCast, wrap_id (show -9223372036854775808 ≤ T.getD i 0 + (l.getD i z41).f0 by omega) (by omega)]
    refine l2Ends_l l T hT hB h8 d (i + 1) _ (by omega) (by rw [List.length_set, hS]) (fun j hj => ?_)
    rw [getD_set]
    by_cases e : i = j
    · subst e
      rw [if_pos ⟨rfl, by omega⟩, if_pos (by omega)]
    · rw [if_neg (fun h => e h.1), h j hj]
      by_cases hji : j < i
      · rw [if_pos hji, if_pos (by omega)]
      · rw [if_neg hji, if_neg (by omega)]
theorem l2Ends_L (l : List S41) (o : List Int) (hg : Good l) (ho : IsOrd l.length o) : L (fun k => spec_l2Ends.f k l o) = some (endsP l o) := by
  simp only [spec_l2Ends.f, L_bind, l2Starts_L l o hg ho, Option.bind_some]
  have hb := endsP_bounds hg ho
  obtain ⟨R, h1, h2, h3⟩ := l2Ends_l l (startsP l o) (startsP_length l o) (fun j hj => by
    rw [← endsP_starts ho j hj]
    have := hb _ (getD_mem (l := endsP l o) (j := j) (by rw [endsP_length]; exact hj))
    omega) hg.1 l.length 0 (startsP l o) (by omega) (startsP_length l o) (fun j hj => by rw [if_neg (by omega)])
  rw [show (0 : Int) = ((0 : Nat) : Int) from rfl, h1]
  congr 1
  refine ext_getD (by rw [h2, endsP_length]) (fun j hj => ?_)
  rw [h3 j (by omega), endsP_starts ho j (by omega)]
def maxTo (v : Int) (l : List Int) : Int := l.foldl max v
theorem mul_bd {w e : Int} (w0 : 0 ≤ w) (w1 : w ≤ 50) (e0 : 0 ≤ e) (e1 : e ≤ 2000) : 0 ≤ w * e ∧ w * e ≤ 100000 := by
  have h1 : w * e ≤ 50 * e := Int.mul_le_mul_of_nonneg_right w1 e0
  have h2 : 0 ≤ w * e := Int.mul_nonneg w0 e0
  omega
/-- What a job with an end adds to a value. -/
def addF (v : Int) (j : S41) (e obj : Int) (first : Bool) : Int :=
  if obj = 1 then max v e else if obj = 2 then v + e else if obj = 3 then v + j.f1 * e else if obj = 4 then (if first = true then e - j.f3 else max v (e - j.f3))
  else if obj = 5 then v + max 0 (e - j.f3) else if obj = 6 then v + j.f1 * max 0 (e - j.f3) else if e - j.f3 ≤ 0 then v else if obj = 7 then v + 1 else v + j.f1
theorem addF_bd (v : Int) (j : S41) (e obj : Int) (first : Bool) (hj : JobOk j) (he0 : 0 ≤ e) (he1 : e ≤ 2000) {B : Int} (hB : 0 ≤ B) (hv0 : -B ≤ v) (hv1 : v ≤ B) : -(B + 100000) ≤ addF v j e obj first ∧ addF v j e obj first ≤ B + 100000 := by
  have a2 := hj.d0
  have a3 := hj.d1
  have m1 := mul_bd hj.w0 hj.w1 he0 he1
  have m2 := mul_bd hj.w0 hj.w1 (show 0 ≤ max 0 (e - j.f3) by omega) (by omega)
  have w0 := hj.w0
  have w1 := hj.w1
  unfold addF
  repeat' split
  all_goals omega
theorem add_e (v : Int) (j : S41) (e obj : Int) (first : Bool) (hj : JobOk j) (he0 : 0 ≤ e) (he1 : e ≤ 2000) (hv0 : -1000000000 ≤ v) (hv1 : v ≤ 1000000000) : impl_add.f v j.f0 j.f1 j.f2 j.f3 e obj first = some (addF v j e obj first) := by
  have a2 := hj.d0
  have a3 := hj.d1
  have m1 := mul_bd hj.w0 hj.w1 he0 he1
  have m2 := mul_bd hj.w0 hj.w1 (show 0 ≤ max 0 (e - j.f3) by omega) (by omega)
  have w0 := hj.w0
  have w1 := hj.w1
  unfold impl_add.f addF
  simp only [mx_e]
  rw [wrap_id (show -9223372036854775808 ≤ e - j.f3 by omega) (by omega), wrap_id (show -9223372036854775808 ≤ v + e by omega) (by omega), wrap_id (show -9223372036854775808 ≤ j.f1 * e by omega) (by omega), wrap_id (show -9223372036854775808 ≤ v + j.f1 * e by omega) (by omega), wrap_id (show -9223372036854775808 ≤ v + max 0 (e - j.f3) by omega) (by omega), wrap_id (show -9223372036854775808 ≤ j.f1 * max 0 (e - j.f3) by omega) (by omega), wrap_id (show -9223372036854775808 ≤ v + j.f1 * max 0 (e - j.f3) by omega) (by omega), wrap_id (show -9223372036854775808 ≤ v + 1 by omega) (by omega), wrap_id (show -9223372036854775808 ≤ v + j.f1 by omega) (by omega)]
  repeat' split
  all_goals first | rfl | contradiction
/-- The value of an objective for ends. -/
def valF (obj : Int) : Int → Bool → List S41 → List Int → Int
  | v, _, [], _ => v
  | v, _, _, [] => v
  | v, first, j :: js, e :: es => valF obj (addF v j e obj first) false js es
def valP (obj : Int) (l : List S41) (es : List Int) : Int := valF obj 0 true l es
theorem valueOfEnds_l (obj : Int) (r : List S41) (hr : ∀ j ∈ r, JobOk j) : ∀ (pre : List S41) (pe es : List Int) (v : Int), (pre ++ r).length < 4611686018427387904 → pe.length = pre.length → es.length = r.length → (∀ e ∈ es, 0 ≤ e ∧ e ≤ 2000) → -(100000 * (1000 - r.length : Int)) ≤ v → v ≤ 100000 * (1000 - r.length : Int) → r.length ≤ 100 →
    L (fun k => impl_valueOfEnds.l0 k (pe ++ es) obj v (pre ++ r) ((pre ++ r).length : Int) (pre.length : Int)) = some (valF obj v (decide (pre.length = 0)) r es) := by
  induction r with
  | nil =>
    intro pre pe es v hb hpe hes _ _ _ _
    rw [L_shift]
    simp only [impl_valueOfEnds.l0, not_lt_end, if_false, L_const, valF]
  | cons x r ih =>
    intro pre pe es v hb hpe hes he h0 h1 h2
    match es, hes with
    | y :: es, hes =>
      rw [L_shift]
      have hl : pre.length < 4611686018427387904 := by simp at hb; omega
      have e : rd_T41 (pre ++ x :: r) (pre.length : Int) = x := getD_mid pre x r _
      have e1 : rd (pe ++ y :: es) (pre.length : Int) = y := by rw [← hpe]; exact rd_mid pe y es
      have e2 : ((pre.length : Int) < ((pe ++ y :: es).length : Int)) = True := by rw [← hpe]; exact lt_mid pe y es
      have e3 : ((pre.length : Int) == 0) = decide (pre.length = 0) := by
        by_cases h : pre.length = 0
        · rw [h]; rfl
        · rw [decide_eq_false h]
          simp
          exact fun e => h (by rw [e]; rfl)
      have hx := hr x List.mem_cons_self
      have hy := he y List.mem_cons_self
      simp only [List.length_cons] at h0 h1 h2 hes
      have hbd := addF_bd v x y obj (decide (pre.length = 0)) hx hy.1 hy.2 (B := 100000 * (1000 - (r.length + 1 : Nat) : Int)) (by omega) (by omega) (by omega)
      simp only [impl_valueOfEnds.l0, lt_mid, le_nat, if_true, e, e1, e2, e3, wrap_mid pre x hl, add_e v x y obj _ hx hy.1 hy.2 (by omega) (by omega), Option.bind_some]
      rw [app_cons pre x r, app_cons pe y es, ih (fun j hj => hr j (List.mem_cons_of_mem _ hj)) (pre ++ [x]) (pe ++ [y]) es _ (by simpa using hb) (by simp [hpe]) (by omega) (fun e he' => he e (List.mem_cons_of_mem _ he')) (by omega) (by omega) (by omega), valF]
      simp
theorem valueOfEnds_L (l : List S41) (hg : Good l) (es : List Int) (hes : es.length = l.length) (he : ∀ e ∈ es, 0 ≤ e ∧ e ≤ 2000) (obj : Int) : L (fun k => impl_valueOfEnds.f k l es obj) = some (valP obj l es) := by
  have h8 := hg.1
  have := valueOfEnds_l obj l hg.2 [] [] es 0 (by simp; omega) rfl hes he (by omega) (by omega) (by omega)
  simpa [impl_valueOfEnds.f, valP] using this
def objB (obj : Int) : Bool := inB obj 1 8
theorem isObjective_e (n : Int) : impl_isObjective.f n = some (objB n) := by
  simp only [impl_isObjective.f, within_e, Option.bind_some, objB]
theorem objB_iff {n : Int} : objB n = true ↔ n = 1 ∨ n = 2 ∨ n = 3 ∨ n = 4 ∨ n = 5 ∨ n = 6 ∨ n = 7 ∨ n = 8 := by
  rw [objB, inB_iff]
  omega
theorem l2Objective_e (n : Int) : spec_l2Objective.f n = some (objB n) := by
  simp only [spec_l2Objective.f, l1In_e, Option.bind_some, objB]
theorem l2Cost_e (v : Int) (j : S41) (e obj : Int) (first : Bool) (hj : JobOk j) (he0 : 0 ≤ e) (he1 : e ≤ 2000) (ho : objB obj = true) (h1 : obj ≠ 1) (h4 : obj ≠ 4) : ∃ c, spec_l2Cost.f j.f0 j.f1 j.f2 j.f3 e obj = some c ∧ v + c = addF v j e obj first := by
  have a2 := hj.d0
  have a3 := hj.d1
  have m1 := mul_bd hj.w0 hj.w1 he0 he1
  have m2 := mul_bd hj.w0 hj.w1 (show 0 ≤ max (e - j.f3) 0 by omega) (by omega)
  have em : max (e - j.f3) 0 = max 0 (e - j.f3) := by omega
  simp only [spec_l2Cost.f, l1Most_e, Option.bind_some, wrap_id (show -9223372036854775808 ≤ e - j.f3 by omega) (show e - j.f3 ≤ 9223372036854775807 by omega), wrap_id (show -9223372036854775808 ≤ j.f1 * e by omega) (by omega), wrap_id (show -9223372036854775808 ≤ j.f1 * max (e - j.f3) 0 by omega) (by omega)]
  rcases objB_iff.1 ho with rfl | rfl | rfl | rfl | rfl | rfl | rfl | rfl
  · exact absurd rfl h1
  · exact ⟨_, rfl, rfl⟩
  · exact ⟨_, rfl, rfl⟩
  · exact absurd rfl h4
  · exact ⟨_, rfl, by rw [em]; rfl⟩
  · exact ⟨_, rfl, by rw [em]; rfl⟩
  · by_cases h : e - j.f3 ≤ 0
    · exact ⟨0, by simp; omega, by simp [addF, h]⟩
    · exact ⟨1, by simp; omega, by simp [addF, h]⟩
  · by_cases h : e - j.f3 ≤ 0
    · exact ⟨0, by simp; omega, by simp [addF, h]⟩
    · exact ⟨j.f1, by simp; omega, by simp [addF, h]⟩
theorem l2Of_l (obj : Int) (hobj : objB obj = true) (r : List S41) (hr : ∀ j ∈ r, JobOk j) : ∀ (pre : List S41) (pe es : List Int) (v : Int), (pre ++ r).length < 4611686018427387904 → pe.length = pre.length → es.length = r.length → (∀ e ∈ es, 0 ≤ e ∧ e ≤ 2000) → -(100000 * (1000 - r.length : Int)) ≤ v → v ≤ 100000 * (1000 - r.length : Int) → r.length ≤ 100 → (pre.length = 0 → v = 0) →
    L (fun k => spec_l2Of.l0 k (pre ++ r) (pe ++ es) obj v (pre.length : Int)) = some (valF obj v (decide (pre.length = 0)) r es) := by
  induction r with
  | nil =>
    intro pre pe es v hb hpe hes _ _ _ _ _
    rw [L_shift]
    simp only [spec_l2Of.l0, not_lt_end, if_false, L_const, valF]
  | cons x r ih =>
    intro pre pe es v hb hpe hes he h0 h1 h2 hv
    match es, hes with
    | y :: es, hes =>
      have hl : pre.length < 4611686018427387904 := by simp at hb; omega
      have e : rd_T41 (pre ++ x :: r) (pre.length : Int) = x := getD_mid pre x r _
      have e1 : rd (pe ++ y :: es) (pre.length : Int) = y := by rw [← hpe]; exact rd_mid pe y es
      have e2 : ((pre.length : Int) < ((pe ++ y :: es).length : Int)) = True := by rw [← hpe]; exact lt_mid pe y es
      have hx := hr x List.mem_cons_self
      have hy := he y List.mem_cons_self
      simp only [List.length_cons] at h0 h1 h2 hes
      have hbd := addF_bd v x y obj (decide (pre.length = 0)) hx hy.1 hy.2 (B := 100000 * (1000 - (r.length + 1 : Nat) : Int)) (by omega) (by omega) (by omega)
      have a2 := hx.d0
      have a3 := hx.d1
      have hstep : L (fun k => spec_l2Of.l0 k (pre ++ x :: r) (pe ++ y :: es) obj v (pre.length : Int)) = L (fun k => spec_l2Of.l0 k (pre ++ x :: r) (pe ++ y :: es) obj (addF v x y obj (decide (pre.length = 0))) ((pre ++ [x]).length : Int)) := by
        rw [L_shift]
        simp only [spec_l2Of.l0, lt_mid, le_nat, if_true, e, e1, e2, wrap_mid pre x hl]
        by_cases h4 : obj = 4
        · subst h4
          simp only [spec_l2Greatest.f, Option.bind_some, wrap_id (show -9223372036854775808 ≤ y - x.f3 by omega) (show y - x.f3 ≤ 9223372036854775807 by omega)]
          by_cases hp : pre.length = 0
          · simp [hp, addF]
          · have hp2 : ¬ pre = [] := fun h => hp (by rw [h]; rfl)
            by_cases hc : y - x.f3 > v
            · have : max v (y - x.f3) = y - x.f3 := by omega
              simp [hp2, addF, hc, this]
            · have : max v (y - x.f3) = v := by omega
              simp [hp2, addF, hc, this]
        · by_cases h1' : obj = 1
          · subst h1'
            simp only [spec_l2Greatest.f, Option.bind_some]
            by_cases hp : pre.length = 0
            · have : max v y = y := by have := hv hp; omega
              simp [hp, addF, this]
            · have hp2 : ¬ pre = [] := fun h => hp (by rw [h]; rfl)
              by_cases hc : y > v
              · have : max v y = y := by omega
                simp [hp2, addF, hc, this]
              · have : max v y = v := by omega
                simp [hp2, addF, hc, this]
          · obtain ⟨c, hc, hv2⟩ := l2Cost_e v x y obj (decide (pre.length = 0)) hx hy.1 hy.2 hobj h1' h4
            have hg : spec_l2Greatest.f obj = some false := by simp [spec_l2Greatest.f, h1', h4]
            simp only [hg, Option.bind_some, hc, hv2, wrap_id (show -9223372036854775808 ≤ addF v x y obj (decide (pre.length = 0)) by omega) (show addF v x y obj (decide (pre.length = 0)) ≤ 9223372036854775807 by omega)]
            simp
      rw [hstep, app_cons pre x r, app_cons pe y es, ih (fun j hj => hr j (List.mem_cons_of_mem _ hj)) (pre ++ [x]) (pe ++ [y]) es _ (by simpa using hb) (by simp [hpe]) (by omega) (fun e he' => he e (List.mem_cons_of_mem _ he')) (by omega) (by omega) (by omega) (by simp), valF]
      simp
theorem l2Of_L (l : List S41) (hg : Good l) (es : List Int) (hes : es.length = l.length) (he : ∀ e ∈ es, 0 ≤ e ∧ e ≤ 2000) (obj : Int) (hobj : objB obj = true) : L (fun k => spec_l2Of.f k l es obj) = some (valP obj l es) := by
  have h8 := hg.1
  have := l2Of_l obj hobj l hg.2 [] [] es 0 (by simp; omega) rfl hes he (by omega) (by omega) (by omega) (fun _ => rfl)
  simpa [spec_l2Of.f, valP] using this
/-- The rule difference of two jobs. -/
def gapJ (obj : Int) (a b : S41) : Int := if obj = 1 then a.f2 - b.f2 else if obj = 2 then a.f0 - b.f0 else if obj = 3 then a.f0 * b.f1 - b.f0 * a.f1 else a.f3 - b.f3
/-- The rule difference by the jobs' numbers. -/
def gapI (l : List S41) (obj x y : Int) : Int := gapJ obj (jobAt l x) (jobAt l y)
theorem l1Own_e (l : List Int) (h : l.length ≤ 1048576) : spec_l1Own.f l = some l := by
  simp only [spec_l1Own.f, Option.bind_some, List.length_nil, List.nil_append]
  rw [if_pos (by omega)]
/-- Sooner: by date, then by number. -/
def dueQ (l : List S41) (a b : Int) : Bool := decide ((jobAt l a).f3 < (jobAt l b).f3) || (decide ((jobAt l a).f3 = (jobAt l b).f3) && decide (a < b))
theorem numsTo_asc (n : Nat) : (numsTo n).Pairwise (· < ·) := by
  rw [numsTo, List.pairwise_map]
  exact List.pairwise_lt_range.imp (fun h => by omega)
theorem ruled_l (n : Nat) (hn : n ≤ 1000) : ∀ (d : Nat) (i : Nat), i + d = n → L (fun k => impl_numbersTo.l0 k (n : Int) (numsTo i) (i : Int)) = some (numsTo n)
  | 0, i, hd => by
    rw [L_shift]
    have : i = n := by omega
    subst this
    simp only [impl_numbersTo.l0, Int.lt_irrefl, if_false, L_const]
  | d + 1, i, hd => by
    rw [L_shift]
    have ih := ruled_l n hn d (i + 1) (by omega)
    rw [numsTo_succ] at ih
    simp only [impl_numbersTo.l0, if_pos (show (i : Int) < (n : Int) by omega), if_pos (show (numsTo i).length < 17592186044416 by rw [numsTo_length]; omega), wrap_id (show -9223372036854775808 ≤ (i : Int) + 1 by omega) (show (i : Int) + 1 ≤ 9223372036854775807 by omega)]
    exact ih
/-- All orders of a list: by the first, in the list's order. -/
def permsN : Nat → List Int → List (List Int)
  | 0, _ => [[]]
  | n + 1, s => s.flatMap (fun y => (permsN n (s.filter (· ≠ y))).map (y :: ·))
/-- Each of a list's orders leads to the next one. -/
def RunL (N : List Int → List Int → Prop) : List (List Int) → Prop
  | [] => True
  | [_] => True
  | a :: b :: r => N a b ∧ RunL N (b :: r)
theorem RunL_app {N : List Int → List Int → Prop} {a b : List Int} : ∀ {p : List (List Int)} {q : List (List Int)}, RunL N (p ++ [a]) → RunL N (b :: q) → N a b → RunL N (p ++ a :: b :: q)
  | [], q, _, h2, h3 => ⟨h3, h2⟩
  | [x], q, h1, h2, h3 => ⟨h1.1, h3, h2⟩
  | x :: y :: p, q, h1, h2, h3 => ⟨h1.1, RunL_app (p := y :: p) h1.2 h2 h3⟩
/-- A run from one order to another one. -/
def RunFT (N : List Int → List Int → Prop) (os : List (List Int)) (a b : List Int) : Prop := RunL N os ∧ (∃ r, os = a :: r) ∧ (∃ p, os = p ++ [b])
theorem RunFT_app {N : List Int → List Int → Prop} {p q : List (List Int)} {a b c d : List Int} (h1 : RunFT N p a b) (h2 : RunFT N q c d) (h : N b c) : RunFT N (p ++ q) a d := by
  obtain ⟨r1, ⟨p1, e1⟩, ⟨p2, e2⟩⟩ := h1
  obtain ⟨r2, ⟨q1, f1⟩, ⟨q2, f2⟩⟩ := h2
  refine ⟨?_, ⟨p1 ++ q, by rw [e1]; rfl⟩, ⟨p ++ q2, by rw [f2, List.append_assoc]⟩⟩
  rw [e2, f1, List.append_assoc]
  rw [e2] at r1
  rw [f1] at r2
  exact RunL_app r1 r2 h
theorem filter_ne_mid {P Q : List Int} {y : Int} (h : (P ++ y :: Q).Pairwise (· < ·)) : (P ++ y :: Q).filter (· ≠ y) = P ++ Q := by
  rw [List.pairwise_append] at h
  obtain ⟨_, h2, h3⟩ := h
  rw [List.pairwise_cons] at h2
  rw [List.filter_append, List.filter_cons_of_neg (by simp), List.filter_eq_self.2, List.filter_eq_self.2]
  · intro a ha
    have := h2.1 a ha
    simp; omega
  · intro a ha
    have := h3 a ha y (by simp)
    simp; omega
theorem pairwise_mid {P Q : List Int} {y : Int} (h : (P ++ y :: Q).Pairwise (· < ·)) : (P ++ Q).Pairwise (· < ·) :=
  h.sublist (List.Sublist.append_left (List.sublist_cons_self y Q) P)
theorem perms_run {N : List Int → List Int → Prop} (hN : ∀ (A P Q : List Int) (y z : Int), (P ++ y :: z :: Q).Pairwise (· < ·) → N (A ++ y :: (Q.reverse ++ z :: P.reverse)) (A ++ z :: (P ++ y :: Q))) :
    ∀ (n : Nat) (A s : List Int), s.length = n → s.Pairwise (· < ·) → RunFT N ((permsN n s).map (A ++ ·)) (A ++ s) (A ++ s.reverse)
  | 0, A, s, hl, _ => by
    cases List.eq_nil_of_length_eq_zero hl
    exact ⟨trivial, ⟨[], by simp [permsN]⟩, ⟨[], by simp [permsN]⟩⟩
  | n + 1, A, s, hl, hs => by
    have key : ∀ (Q P : List Int) (y : Int), s = P ++ y :: Q → RunFT N (((y :: Q).flatMap (fun y => (permsN n (s.filter (· ≠ y))).map (y :: ·))).map (A ++ ·)) (A ++ y :: (P ++ Q)) (A ++ s.reverse) := by
      intro Q
      induction Q with
      | nil =>
        intro P y e
        subst e
        have h1 := perms_run hN n (A ++ [y]) (P ++ []) (by simp at hl ⊢; omega) (pairwise_mid hs)
        rw [List.flatMap_cons, List.flatMap_nil, List.append_nil, filter_ne_mid hs, List.map_map]
        have e2 : ((fun x => A ++ x) ∘ fun x => y :: x) = fun x => A ++ [y] ++ x := by
          funext x
          simp
        rw [e2]
        simpa using h1
      | cons z Q ih =>
        intro P y e
        have h2 := ih (P ++ [y]) z (by rw [e]; simp)
        have hs2 := hs
        rw [e] at hs2
        have h1 := perms_run hN n (A ++ [y]) (P ++ z :: Q) (by rw [e] at hl; simp at hl ⊢; omega) (pairwise_mid hs2)
        have e2 : ((fun x => A ++ x) ∘ fun x => y :: x) = fun x => A ++ [y] ++ x := by
          funext x
          simp
        have e3 : s.filter (· ≠ y) = P ++ z :: Q := by rw [e]; exact filter_ne_mid hs2
        rw [List.flatMap_cons, List.map_append, List.map_map, e2, e3]
        refine RunFT_app (b := A ++ y :: (Q.reverse ++ z :: P.reverse)) (c := A ++ z :: (P ++ y :: Q)) ?_ ?_ (hN A P Q y z hs2)
        · simpa using h1
        · simpa using h2
    cases s with
    | nil => simp at hl
    | cons y Q => exact key Q [] y rfl
theorem rd_far (pre : List Int) (x : Int) (mid : List Int) (y : Int) (post : List Int) (n : Int) (h : n = pre.length + 1 + mid.length) : rd (pre ++ x :: (mid ++ y :: post)) n = y := by
  have e1 : pre ++ x :: (mid ++ y :: post) = (pre ++ x :: mid) ++ y :: post := by simp
  have e2 : n = ((pre ++ x :: mid).length : Int) := by rw [h]; simp; omega
  rw [e1, e2]
  exact rd_mid _ _ _
theorem set_far (pre : List Int) (x : Int) (mid : List Int) (y : Int) (post : List Int) (n : Int) (h : n = pre.length + 1 + mid.length) : ((pre ++ x :: (mid ++ y :: post)).set (pre.length : Int).toNat y).set n.toNat x = pre ++ y :: (mid ++ x :: post) := by
  rw [set_mid pre x y _ pre rfl]
  have e1 : pre ++ y :: (mid ++ y :: post) = (pre ++ y :: mid) ++ y :: post := by simp
  have e2 : n = ((pre ++ y :: mid).length : Int) := by rw [h]; simp; omega
  rw [e1, e2, set_mid (pre ++ y :: mid) y x post (pre ++ y :: mid) rfl]
  simp
theorem rd_app (A D : List Int) (j : Nat) (h1 : A.length ≤ j) (h2 : j < (A ++ D).length) : ∃ h : j - A.length < D.length, rd (A ++ D) (j : Int) = D[j - A.length] := by
  rw [List.length_append] at h2
  refine ⟨by omega, ?_⟩
  show (A ++ D).getD (j : Int).toNat 0 = _
  rw [Int.toNat_natCast, List.getD_eq_getElem?_getD, List.getElem?_append_right h1, List.getElem?_eq_getElem (by omega)]
  rfl
theorem rd_desc (A D : List Int) (hD : D.Pairwise (· > ·)) (j : Nat) (h1 : A.length ≤ j) (h2 : j + 1 < (A ++ D).length) : rd (A ++ D) (j : Int) > rd (A ++ D) ((j : Int) + 1) := by
  obtain ⟨a1, e1⟩ := rd_app A D j h1 (by omega)
  obtain ⟨a2, e2⟩ := rd_app A D (j + 1) (by omega) h2
  have e3 : ((j + 1 : Nat) : Int) = (j : Int) + 1 := by omega
  rw [e3] at e2
  rw [e1, e2]
  exact (List.pairwise_iff_getElem.1 hD) _ _ a1 a2 (by omega)
theorem next_scan (o : List Int) (hl : o.length ≤ 1048576) (i : Nat) : ∀ d : Nat, i + d < o.length → (∀ j : Nat, i ≤ j → j < i + d → rd o (j : Int) > rd o ((j : Int) + 1)) → L (fun k => impl_nextOrder.l0 k o (((i + d : Nat) : Int) - 1)) = L (fun k => impl_nextOrder.l0 k o ((i : Int) - 1))
  | 0, _, _ => rfl
  | d + 1, h, hj => by
    have e0 : (((i + (d + 1) : Nat) : Int) - 1) = ((i + d : Nat) : Int) := by omega
    have h1 := hj (i + d) (by omega) (by omega)
    rw [e0, L_shift]
    simp only [impl_nextOrder.l0, wrap_id (show -9223372036854775808 ≤ ((i + d : Nat) : Int) + 1 by omega) (show ((i + d : Nat) : Int) + 1 ≤ 9223372036854775807 by omega), wrap_id (show -9223372036854775808 ≤ ((i + d : Nat) : Int) - 1 by omega) (show ((i + d : Nat) : Int) - 1 ≤ 9223372036854775807 by omega)]
    simp only [if_pos (show ((i + d : Nat) : Int) ≥ 0 by omega), if_pos (show (0 : Int) ≤ ((i + d : Nat) : Int) by omega), if_pos (show ((i + d : Nat) : Int) < (o.length : Int) by omega), if_pos (show (0 : Int) ≤ ((i + d : Nat) : Int) + 1 by omega), if_pos (show ((i + d : Nat) : Int) + 1 < (o.length : Int) by omega), if_pos h1]
    exact next_scan o hl i d (by omega) (fun j a b => hj j a (by omega))
theorem next_scan1 (o : List Int) (hl : o.length ≤ 1048576) (p : Nat) (hp : p < o.length) (i : Nat) : ∀ d : Nat, i + d ≤ o.length → (∀ j : Nat, i ≤ j → j < i + d → rd o (j : Int) < rd o (p : Int)) → L (fun k => impl_nextOrder.l1 k o (p : Int) (((i + d : Nat) : Int) - 1)) = L (fun k => impl_nextOrder.l1 k o (p : Int) ((i : Int) - 1))
  | 0, _, _ => rfl
  | d + 1, h, hj => by
    have e0 : (((i + (d + 1) : Nat) : Int) - 1) = ((i + d : Nat) : Int) := by omega
    have h1 := hj (i + d) (by omega) (by omega)
    rw [e0, L_shift]
    simp only [impl_nextOrder.l1, wrap_id (show -9223372036854775808 ≤ ((i + d : Nat) : Int) - 1 by omega) (show ((i + d : Nat) : Int) - 1 ≤ 9223372036854775807 by omega)]
    simp only [if_pos (show (0 : Int) ≤ ((i + d : Nat) : Int) by omega), if_pos (show ((i + d : Nat) : Int) < (o.length : Int) by omega), if_pos (show (0 : Int) ≤ (p : Int) by omega), if_pos (show (p : Int) < (o.length : Int) by omega), if_pos h1]
    exact next_scan1 o hl p hp i d (by omega) (fun j a b => hj j a (by omega))
theorem next_rev : ∀ (n : Nat) (A M B : List Int), M.length ≤ n → (A ++ (M ++ B)).length ≤ 1048576 → L (fun k => impl_nextOrder.l2 k (A ++ (M ++ B)) (A.length : Int) ((A.length : Int) + M.length - 1)) = some (true, A ++ (M.reverse ++ B))
  | n, A, [], B, h, hl => by
    rw [L_shift]
    simp only [impl_nextOrder.l2, List.length_nil, if_neg (show ¬ ((A.length : Int) < (A.length : Int) + ((0 : Nat) : Int) - 1) by omega), L_const, List.reverse_nil]
  | 0, A, x :: M, B, h, hl => by simp at h
  | n + 1, A, x :: M, B, h, hl => by
    rcases List.eq_nil_or_concat M with rfl | ⟨M, y, rfl⟩
    · rw [L_shift]
      have e : ¬ ((A.length : Int) < (A.length : Int) + (([x] : List Int).length : Int) - 1) := by simp
      simp only [impl_nextOrder.l2, if_neg e, L_const, List.reverse_singleton]
    · have hlen : (A ++ (x :: (M.concat y) ++ B)).length = A.length + 1 + M.length + 1 + B.length := by simp; omega
      have e0 : A ++ (x :: (M.concat y) ++ B) = A ++ x :: (M ++ y :: B) := by simp
      have e1 : (A.length : Int) + ((x :: M.concat y).length : Int) - 1 = (A.length : Int) + 1 + M.length := by simp; omega
      have hlen2 : (A ++ x :: (M ++ y :: B)).length = A.length + 1 + M.length + 1 + B.length := by rw [← e0]; exact hlen
      have ih := next_rev n (A ++ [y]) M (x :: B) (by simp at h; omega) (by simp at hlen2 hl ⊢; omega)
      have e2 : ((A ++ [y]).length : Int) = (A.length : Int) + 1 := by simp
      rw [e2] at ih
      have e3 : (A ++ [y]) ++ (M ++ x :: B) = A ++ y :: (M ++ x :: B) := by simp
      rw [e3] at ih
      rw [e0, e1, L_shift]
      rw [hlen] at hl
      simp only [impl_nextOrder.l2, rd_far A x M y B _ rfl, rd_mid, set_far A x M y B _ rfl, wrap_id (show -9223372036854775808 ≤ (A.length : Int) + 1 + M.length - 1 by omega) (show (A.length : Int) + 1 + M.length - 1 ≤ 9223372036854775807 by omega), wrap_id (show -9223372036854775808 ≤ (A.length : Int) + 1 by omega) (show (A.length : Int) + 1 ≤ 9223372036854775807 by omega)]
      simp only [if_pos (show (A.length : Int) < (A.length : Int) + 1 + M.length by omega), if_pos (show (0 : Int) ≤ (A.length : Int) + 1 + M.length by omega), if_pos (show (A.length : Int) + 1 + M.length < ((A ++ x :: (M ++ y :: B)).length : Int) by omega), if_pos (show (0 : Int) ≤ (A.length : Int) by omega), if_pos (show (A.length : Int) < ((A ++ x :: (M ++ y :: B)).length : Int) by omega)]
      rw [ih]
      simp
theorem next_step (A P Q : List Int) (y z : Int) (hs : (P ++ y :: z :: Q).Pairwise (· < ·)) (hl : (A ++ y :: (Q.reverse ++ z :: P.reverse)).length ≤ 1048576) : L (fun k => impl_nextOrder.f k (A ++ y :: (Q.reverse ++ z :: P.reverse))) = some (true, A ++ z :: (P ++ y :: Q)) := by
  rw [List.pairwise_append, List.pairwise_cons, List.pairwise_cons] at hs
  obtain ⟨hP, ⟨hy, hz, hQ⟩, hPy⟩ := hs
  have hD : (Q.reverse ++ z :: P.reverse).Pairwise (· > ·) := by
    have e : Q.reverse ++ z :: P.reverse = (P ++ z :: Q).reverse := by simp
    rw [e, List.pairwise_reverse, List.pairwise_append, List.pairwise_cons]
    exact ⟨hP, ⟨hz, hQ⟩, fun a ha b hb => hPy a ha b (List.mem_cons_of_mem _ hb)⟩
  have hlen : (A ++ y :: (Q.reverse ++ z :: P.reverse)).length = A.length + 1 + Q.length + 1 + P.length := by simp; omega
  generalize ho : A ++ y :: (Q.reverse ++ z :: P.reverse) = o at *
  have ho1 : o = (A ++ [y]) ++ (Q.reverse ++ z :: P.reverse) := by rw [← ho]; simp
  have ho2 : o = (A ++ y :: (Q.reverse ++ [z])) ++ P.reverse := by rw [← ho]; simp
  have hry : rd o (A.length : Int) = y := by rw [← ho]; exact rd_mid _ _ _
  have hrz : rd o ((A.length : Int) + 1 + (Q.reverse.length : Int)) = z := by rw [← ho]; exact rd_far A y Q.reverse z P.reverse _ rfl
  have e0 : (o.length : Int) - 2 = ((A.length + 1 + (Q.length + P.length) : Nat) : Int) - 1 := by omega
  simp only [impl_nextOrder.f, wrap_id (show -9223372036854775808 ≤ (o.length : Int) - 2 by omega) (show (o.length : Int) - 2 ≤ 9223372036854775807 by omega)]
  rw [e0, next_scan o hl (A.length + 1) (Q.length + P.length) (by omega) (fun j h1 h2 => by
    have := rd_desc (A ++ [y]) _ hD j (by simp; omega) (by rw [← ho1]; omega)
    rwa [← ho1] at this)]
  have e1 : (((A.length + 1 : Nat) : Int) - 1) = (A.length : Int) := by omega
  rw [e1, L_shift]
  have hfirst : ¬ (rd o (A.length : Int) > rd o ((A.length : Int) + 1)) := by
    obtain ⟨a1, a2⟩ := rd_app (A ++ [y]) (Q.reverse ++ z :: P.reverse) (A.length + 1) (by simp) (by rw [← ho1]; omega)
    rw [← ho1] at a2
    have e3 : ((A.length + 1 : Nat) : Int) = (A.length : Int) + 1 := by omega
    rw [e3] at a2
    rw [hry, a2]
    have h5 : A.length + 1 - (A ++ [y]).length = 0 := by simp
    simp only [h5]
    have : ∀ (l : List Int) (h : 0 < (l ++ z :: P.reverse).length), (∀ q ∈ l, y < q) → y < (l ++ z :: P.reverse)[0] := by
      intro l h hq
      cases l with
      | nil => exact hy z (by simp)
      | cons q l => exact hq q (by simp)
    have := this Q.reverse (by simp; omega) (fun q hq => hy q (by simp at hq; simp [hq]))
    omega
  simp only [impl_nextOrder.l0, wrap_id (show -9223372036854775808 ≤ (A.length : Int) + 1 by omega) (show (A.length : Int) + 1 ≤ 9223372036854775807 by omega)]
  simp only [if_pos (show (A.length : Int) ≥ 0 by omega), if_pos (show (0 : Int) ≤ (A.length : Int) by omega), if_pos (show (A.length : Int) < (o.length : Int) by omega), if_pos (show (0 : Int) ≤ (A.length : Int) + 1 by omega), if_pos (show (A.length : Int) + 1 < (o.length : Int) by omega), if_neg hfirst]
  rw [L_shift]
  have e4 : (o.length : Int) - 1 = ((A.length + 1 + Q.length + 1 + P.length : Nat) : Int) - 1 := by omega
  simp only [impl_nextOrder.j1, if_neg (show ¬ (A.length : Int) < 0 by omega), wrap_id (show -9223372036854775808 ≤ (o.length : Int) - 1 by omega) (show (o.length : Int) - 1 ≤ 9223372036854775807 by omega)]
  rw [e4, next_scan1 o hl A.length (by omega) (A.length + 1 + Q.length + 1) P.length (by omega) (fun j h1 h2 => by
    obtain ⟨a1, a2⟩ := rd_app (A ++ y :: (Q.reverse ++ [z])) P.reverse j (by simp; omega) (by rw [← ho2]; omega)
    rw [← ho2] at a2
    rw [a2, hry]
    have hm : P.reverse[j - (A ++ y :: (Q.reverse ++ [z])).length] ∈ P := List.mem_reverse.1 (List.getElem_mem a1)
    exact hPy _ hm y List.mem_cons_self)]
  have e5 : (((A.length + 1 + Q.length + 1 : Nat) : Int) - 1) = (A.length : Int) + 1 + (Q.reverse.length : Int) := by rw [List.length_reverse]; omega
  have e6 : (Q.reverse.length : Int) = (Q.length : Int) := by simp
  rw [e5, L_shift]
  have hyz := hy z List.mem_cons_self
  simp only [impl_nextOrder.l1, hrz, hry, wrap_id (show -9223372036854775808 ≤ (A.length : Int) + 1 by omega) (show (A.length : Int) + 1 ≤ 9223372036854775807 by omega)]
  simp only [if_pos (show (0 : Int) ≤ (A.length : Int) + 1 + (Q.reverse.length : Int) by omega), if_pos (show (A.length : Int) + 1 + (Q.reverse.length : Int) < (o.length : Int) by omega), if_pos (show (0 : Int) ≤ (A.length : Int) by omega), if_pos (show (A.length : Int) < (o.length : Int) by omega), if_neg (show ¬ z < y by omega), wrap_id (show -9223372036854775808 ≤ (o.length : Int) - 1 by omega) (show (o.length : Int) - 1 ≤ 9223372036854775807 by omega)]
  have hset := set_far A y Q.reverse z P.reverse ((A.length : Int) + 1 + (Q.reverse.length : Int)) rfl
  rw [ho] at hset
  rw [hset]
  have e7 : A ++ z :: (Q.reverse ++ y :: P.reverse) = (A ++ [z]) ++ ((Q.reverse ++ y :: P.reverse) ++ []) := by simp
  have e8 : (A.length : Int) + 1 = ((A ++ [z]).length : Int) := by simp
  have e9 : (o.length : Int) - 1 = ((A ++ [z]).length : Int) + (Q.reverse ++ y :: P.reverse).length - 1 := by simp; omega
  rw [e7, e8, e9, next_rev _ _ _ _ (Nat.le_refl _) (by rw [← e7]; simp; omega)]
  simp
theorem next_last (s : List Int) (hs : s.Pairwise (· < ·)) (hl : s.length ≤ 1048576) : L (fun k => impl_nextOrder.f k s.reverse) = some (false, s.reverse) := by
  have hD : s.reverse.Pairwise (· > ·) := List.pairwise_reverse.2 hs
  have hlen : s.reverse.length = s.length := by simp
  generalize s.reverse = o at *
  have hend : ∀ x : Int, x < 0 → L (fun k => impl_nextOrder.l0 k o x) = some (false, o) := by
    intro x hx
    rw [L_shift]
    simp only [impl_nextOrder.l0, if_neg (show ¬ x ≥ 0 by omega)]
    rw [L_shift]
    simp only [impl_nextOrder.j1, if_pos hx, L_const]
  simp only [impl_nextOrder.f, wrap_id (show -9223372036854775808 ≤ (o.length : Int) - 2 by omega) (show (o.length : Int) - 2 ≤ 9223372036854775807 by omega)]
  by_cases h : o.length ≤ 1
  · exact hend _ (by omega)
  · have e0 : (o.length : Int) - 2 = ((0 + (o.length - 1) : Nat) : Int) - 1 := by omega
    rw [e0, next_scan o (by omega) 0 (o.length - 1) (by omega) (fun j h1 h2 => by
      have := rd_desc [] o hD j (by simp) (by simp; omega)
      simpa using this)]
    exact hend _ (by omega)
theorem permsN_perm : ∀ (n : Nat) (s : List Int), s.length = n → s.Nodup → ∀ q ∈ permsN n s, q.Perm s
  | 0, s, hl, _, q, hq => by
    cases List.eq_nil_of_length_eq_zero hl
    simp only [permsN, List.mem_singleton] at hq
    rw [hq]
  | n + 1, s, hl, hs, q, hq => by
    simp only [permsN, List.mem_flatMap, List.mem_map] at hq
    obtain ⟨y, hy, p, hp, rfl⟩ := hq
    have e := hs.erase_eq_filter y
    have h1 : (s.filter (· ≠ y)).length = n := by
      have h2 := List.length_erase_of_mem hy
      rw [e] at h2
      simp only [bne] at h2
      have h3 : (s.filter (fun x => !x == y)) = s.filter (· ≠ y) := by
        apply List.filter_congr
        intro a _
        by_cases h : a = y <;> simp [h]
      rw [h3] at h2
      omega
    have ih := permsN_perm n _ h1 (hs.filter _) p hp
    refine (ih.cons y).trans ?_
    have h3 : (s.filter (fun x => x != y)) = s.filter (· ≠ y) := by
      apply List.filter_congr
      intro a _
      by_cases h : a = y <;> simp [h]
    rw [← h3, ← e]
    exact (List.perm_cons_erase hy).symm
/-- One order leads to the next one. -/
def NextL (a b : List Int) : Prop := L (fun k => impl_nextOrder.f k a) = some (true, b)
/-- What one order does to the best so far: the first best order, its value, and how many there are. -/
def bestS (V : List Int → Int) (s : List Int × Int × Int) (o : List Int) : List Int × Int × Int :=
  if s.2.2 = 0 ∨ V o < s.2.1 then (o, V o, 1) else if V o = s.2.1 then (s.1, s.2.1, wrap64 (s.2.2 + 1)) else s
/-- The best of all orders. -/
def bestP (l : List S41) (obj : Int) : List Int × Int × Int := (permsN l.length (numsTo l.length)).foldl (bestS (fun o => valP obj l (endsP l o))) ([], 0, 0)
def numsFrom (i d : Nat) : List Int := (List.range' i d).map (fun j : Nat => (j : Int))
theorem numsFrom_all (n : Nat) : numsFrom 0 n = numsTo n := by
  unfold numsFrom numsTo
  rw [List.range_eq_range']
theorem numsFrom_cons (i d : Nat) : numsFrom i (d + 1) = (i : Int) :: numsFrom (i + 1) d := by
  unfold numsFrom
  rw [List.range'_succ]
  rfl
def domB (a b : S38) : Bool := decide (a.f0 ≤ b.f0) && (decide (a.f1 ≤ b.f1) && !(decide (a.f0 = b.f0) && decide (a.f1 = b.f1)))
def eqPB (a b : S38) : Bool := decide (a.f0 = b.f0) && decide (a.f1 = b.f1)
theorem l11Dominates_e (a0 a1 b0 b1 : Int) : spec_l11Dominates.f a0 a1 b0 b1 = some (domB ⟨a0, a1⟩ ⟨b0, b1⟩) := by
  simp only [spec_l11Dominates.f, domB]
  by_cases h1 : a0 ≤ b0
  · by_cases h2 : a1 ≤ b1
    · by_cases h3 : a0 = b0
      · by_cases h4 : a1 = b1 <;> simp [h3, h4, h1, h2]
      · simp [h3, h1, h2]
    · simp [h1, h2]
  · simp [h1]
theorem dominates_e (a0 a1 b0 b1 : Int) : impl_dominates.f a0 a1 b0 b1 = some (domB ⟨a0, a1⟩ ⟨b0, b1⟩) := by
  simp only [impl_dominates.f, domB]
  by_cases h3 : a0 = b0
  · by_cases h4 : a1 = b1
    · simp [h3, h4]
    · simp [h3, h4]
  · by_cases h1 : a0 ≤ b0
    · simp [h3, h1]
    · simp [h3, h1]
def insF (p : S38) : List S38 → List S38
  | [] => [p]
  | q :: r => if q.f0 ≤ p.f0 then q :: insF p r else p :: q :: r
/-- A front with one point more. -/
def putF (p : S38) (s : List S38) : List S38 := if s.any (fun q => eqPB q p || domB q p) = true then s else insF p (s.filter (fun q => !domB p q))
def IncF (s : List S38) : Prop := s.Pairwise (fun a b => a.f0 < b.f0)
/-- A front: ascending, and of numbers that are small. -/
def SortF (s : List S38) : Prop := IncF s ∧ ∀ q ∈ s, -1000000 ≤ q.f0 ∧ q.f0 ≤ 1000000
theorem mem_insF (p x : S38) : ∀ s, x ∈ insF p s ↔ x = p ∨ x ∈ s
  | [] => by simp [insF]
  | q :: r => by
    rw [insF]
    split
    · rw [List.mem_cons, mem_insF p x r, List.mem_cons]
      constructor
      · rintro (h | h | h)
        · exact .inr (.inl h)
        · exact .inl h
        · exact .inr (.inr h)
      · rintro (h | h | h)
        · exact .inr (.inl h)
        · exact .inl h
        · exact .inr (.inr h)
    · rw [List.mem_cons]
theorem incF_ins (p : S38) : ∀ s, IncF s → (∀ q ∈ s, q.f0 ≠ p.f0) → IncF (insF p s)
  | [], _, _ => by simp [insF, IncF]
  | q :: r, hs, hn => by
    have hs' := List.pairwise_cons.1 hs
    have hq := hn q List.mem_cons_self
    rw [insF]
    split
    · refine List.pairwise_cons.2 ⟨fun x hx => ?_, incF_ins p r hs'.2 (fun z hz => hn z (List.mem_cons_of_mem _ hz))⟩
      rcases (mem_insF p x r).1 hx with rfl | hx
      · omega
      · exact hs'.1 x hx
    · refine List.pairwise_cons.2 ⟨fun x hx => ?_, hs⟩
      rcases List.mem_cons.1 hx with rfl | hx
      · omega
      · have := hs'.1 x hx
        omega
theorem sortF_put (p : S38) (s : List S38) (hs : SortF s) (hp : -1000000 ≤ p.f0 ∧ p.f0 ≤ 1000000) : SortF (putF p s) := by
  unfold putF
  split
  · exact hs
  · rename_i ha
    have hf : IncF (s.filter (fun q => !domB p q)) := List.Pairwise.sublist List.filter_sublist hs.1
    refine ⟨incF_ins p _ hf (fun q hq he => ?_), fun q hq => ?_⟩
    · rw [List.mem_filter] at hq
      apply ha
      rw [List.any_eq_true]
      refine ⟨q, hq.1, ?_⟩
      have h2 := hq.2
      simp only [domB, eqPB, he, Bool.not_eq_true', Bool.and_eq_false_iff, Bool.or_eq_true, Bool.and_eq_true, Bool.not_eq_true, decide_eq_true_eq, decide_eq_false_iff_not] at h2 ⊢
      simp at h2 ⊢
      omega
    · rcases (mem_insF p q _).1 hq with rfl | hq
      · exact hp
      · exact hs.2 q (List.mem_filter.1 hq).1
theorem incF_len : ∀ (s : List S38) (a b : Int), IncF s → (∀ q ∈ s, a ≤ q.f0 ∧ q.f0 ≤ b) → (s.length : Int) ≤ max 0 (b - a + 1)
  | [], a, b, _, _ => by simp; omega
  | q :: r, a, b, hs, hb => by
    have hs' := List.pairwise_cons.1 hs
    have h1 := hb q List.mem_cons_self
    have h2 := incF_len r (q.f0 + 1) b hs'.2 (fun x hx => ⟨by have := hs'.1 x hx; omega, (hb x (List.mem_cons_of_mem _ hx)).2⟩)
    simp only [List.length_cons]
    omega
theorem sortF_len {s : List S38} (hs : SortF s) : s.length ≤ 2000001 := by
  have := incF_len s (-1000000) 1000000 hs.1 hs.2
  omega
theorem l11Put_l1 (p : S38) (s : List S38) (hl : s.length ≤ 2000001) : ∀ (r pre out : List S38) (b : Bool), pre ++ r = s → out.length ≤ pre.length + b.toNat → L (fun k => spec_l11Put.l1 k s out b (pre.length : Int) p.f0 p.f1) = some (if b = true then out ++ r.filter (fun q => !domB p q) else out ++ insF p (r.filter (fun q => !domB p q)))
  | [], pre, out, b, e, ho => by
    rw [List.append_nil] at e
    subst e
    have hb1 : b.toNat ≤ 1 := by cases b <;> decide
    rw [L_shift]
    simp only [spec_l11Put.l1, if_neg (show ¬ ((pre.length : Int) < (pre.length : Int)) by omega), L_ite, L_const, if_pos (show out.length < 8796093022208 by omega)]
    cases b <;> simp [insF]
  | q :: r, pre, out, b, e, ho => by
    have hlen : s.length = pre.length + (r.length + 1) := by rw [← e]; simp
    have er : rd_T38 s (pre.length : Int) = q := by rw [← e]; exact getD_mid pre q r z38
    have ew : wrap64 ((pre.length : Int) + 1) = ((pre ++ [q]).length : Int) := wrap_mid pre q (by omega)
    have e2 : (pre ++ [q]) ++ r = s := by rw [← e]; simp
    have hq : (⟨q.f0, q.f1⟩ : S38) = q := rfl
    have hpp : (⟨p.f0, p.f1⟩ : S38) = p := rfl
    have hb1 : b.toNat ≤ 1 := by cases b <;> decide
    rw [L_shift]
    simp only [spec_l11Put.l1, if_pos (show (pre.length : Int) < (s.length : Int) by omega), if_pos (show (0 : Int) ≤ (pre.length : Int) by omega), er, ew, l11Dominates_e, hq, hpp, Option.bind_some, L_ite, L_const, List.length_append, List.length_singleton, if_pos (show out.length < 8796093022208 by omega), if_pos (show out.length + 1 < 8796093022208 by omega)]
    have h1 := fun o b h => l11Put_l1 p s hl r (pre ++ [q]) o b e2 h
    simp only [List.length_append, List.length_singleton] at h1
    cases hd : domB p q with
    | true =>
      rw [if_pos rfl, h1 out b (by omega), List.filter_cons_of_neg (by simp [hd])]
    | false =>
      rw [if_neg (by decide), List.filter_cons_of_pos (by simp [hd])]
      cases b with
      | true =>
        rw [if_pos rfl, h1 _ true (by simp only [List.length_append, List.length_singleton, Bool.toNat_true] at ho ⊢; omega)]
        simp
      | false =>
        rw [if_neg (by decide), insF]
        by_cases hc : q.f0 > p.f0
        · rw [if_pos hc, h1 _ true (by simp only [List.length_append, List.length_singleton, Bool.toNat_true, Bool.toNat_false] at ho ⊢; omega), if_neg (show ¬ q.f0 ≤ p.f0 by omega)]
          simp
        · rw [if_neg hc, h1 _ false (by simp only [List.length_append, List.length_singleton, Bool.toNat_false] at ho ⊢; omega), if_pos (show q.f0 ≤ p.f0 by omega)]
          simp
theorem l11Put_l0 (p : S38) (s : List S38) (hl : s.length ≤ 2000001) : ∀ (r pre : List S38), pre ++ r = s → L (fun k => spec_l11Put.l0 k s [] (pre.length : Int) p.f0 p.f1) = some (if r.any (fun q => eqPB q p || domB q p) = true then s else insF p (s.filter (fun q => !domB p q)))
  | [], pre, e => by
    rw [List.append_nil] at e
    rw [L_shift]
    have := l11Put_l1 p s hl s [] [] false rfl (by simp)
    simp only [List.length_nil, Int.natCast_zero, Bool.false_eq_true, if_false, List.nil_append] at this
    simp only [spec_l11Put.l0, if_neg (show ¬ ((pre.length : Int) < (s.length : Int)) by rw [e]; omega), this, List.any_nil, Bool.false_eq_true, if_false]
  | q :: r, pre, e => by
    have hlen : s.length = pre.length + (r.length + 1) := by rw [← e]; simp
    have er : rd_T38 s (pre.length : Int) = q := by rw [← e]; exact getD_mid pre q r z38
    have ew : wrap64 ((pre.length : Int) + 1) = ((pre ++ [q]).length : Int) := wrap_mid pre q (by omega)
    have e2 : (pre ++ [q]) ++ r = s := by rw [← e]; simp
    have hq : (⟨q.f0, q.f1⟩ : S38) = q := rfl
    have hpp : (⟨p.f0, p.f1⟩ : S38) = p := rfl
    have ih := l11Put_l0 p s hl r (pre ++ [q]) e2
    rw [L_shift]
    simp only [spec_l11Put.l0, if_pos (show (pre.length : Int) < (s.length : Int) by omega), if_pos (show (0 : Int) ≤ (pre.length : Int) by omega), er, ew, l11Dominates_e, hq, hpp, Option.bind_some, L_ite, L_const, ih, List.any_cons]
    by_cases h1 : q.f0 = p.f0
    · by_cases h2 : q.f1 = p.f1
      · simp [eqPB, h1, h2]
      · have h3 : eqPB q p = false := by simp [eqPB, h2]
        rw [if_pos h1, if_neg h2]
        by_cases hdq : domB q p = true <;> simp [h3, hdq]
    · have h3 : eqPB q p = false := by simp [eqPB, h1]
      rw [if_neg h1]
      by_cases hdq : domB q p = true <;> simp [h3, hdq]
theorem l11Put_L (p : S38) (s : List S38) (hs : SortF s) : L (fun k => spec_l11Put.f k s p.f0 p.f1) = some (putF p s) := by
  have := l11Put_l0 p s (sortF_len hs) s [] rfl
  simpa [spec_l11Put.f, putF] using this
theorem scan_e (p : S38) : ∀ (r nx : List S38), impl_frontOf_1.scan p r nx = some (if r.any (fun q => eqPB q p || domB q p) = true then none else some (nx ++ r.filter (fun q => !domB p q)))
  | [], nx => by simp [impl_frontOf_1.scan]
  | q :: r, nx => by
    have hq : (⟨q.f0, q.f1⟩ : S38) = q := rfl
    have hpp : (⟨p.f0, p.f1⟩ : S38) = p := rfl
    simp only [impl_frontOf_1.scan, dominates_e, hq, hpp, Option.bind_some, scan_e p r, List.any_cons]
    by_cases h1 : q.f0 = p.f0 ∧ q.f1 = p.f1
    · simp [eqPB, h1.1, h1.2]
    · have h3 : eqPB q p = false := by simpa [eqPB] using h1
      rw [if_neg h1]
      by_cases hdq : domB q p = true
      · simp [h3, hdq]
      · by_cases hd : domB p q = true
        · simp [h3, hdq, hd]
        · simp [h3, hdq, hd]
def posF (p : S38) : List S38 → Nat
  | [] => 0
  | q :: r => if q.f0 ≤ p.f0 then posF p r + 1 else 0
theorem insF_pos (p : S38) : ∀ s, insF p s = s.take (posF p s) ++ p :: s.drop (posF p s)
  | [] => rfl
  | q :: r => by
    rw [insF, posF]
    split
    · rw [insF_pos p r]
      rfl
    · rfl
theorem posF_le (p : S38) : ∀ s, posF p s ≤ s.length
  | [] => Nat.le_refl _
  | q :: r => by
    rw [posF]
    have := posF_le p r
    split
    · simp; omega
    · simp
theorem posF_hi (p : S38) : ∀ s, IncF s → ∀ j, posF p s ≤ j → j < s.length → (s.getD j z38).f0 > p.f0
  | [], _, j, _, h => by simp at h
  | q :: r, hs, j, h1, h2 => by
    have hs' := List.pairwise_cons.1 hs
    rw [posF] at h1
    split at h1
    · cases j with
      | zero => omega
      | succ j => simpa using posF_hi p r hs'.2 j (by omega) (by simpa using h2)
    · rename_i hc
      cases j with
      | zero => simpa using hc
      | succ j =>
        have hj : j < r.length := by simpa using h2
        have h3 : (r.getD j z38) ∈ r := by
          rw [List.getD_eq_getElem?_getD, List.getElem?_eq_getElem hj]
          exact List.getElem_mem _
        have := hs'.1 _ h3
        simp only [List.getD_cons_succ]
        omega
theorem posF_lo (p : S38) : ∀ s j, j < posF p s → (s.getD j z38).f0 ≤ p.f0
  | [], j, h => by simp [posF] at h
  | q :: r, j, h => by
    rw [posF] at h
    split at h
    · cases j with
      | zero => simpa
      | succ j => simpa using posF_lo p r j (by omega)
    · omega
theorem bk_e (p : S38) (s : List S38) (hs : IncF s) : ∀ d, posF p s + d ≤ s.length → impl_frontOf_1.bk p s (posF p s + d) = posF p s
  | 0, _ => by
    rw [Nat.add_zero]
    obtain ⟨c, hc⟩ : ∃ c, c = posF p s := ⟨_, rfl⟩
    rw [← hc]
    cases c with
    | zero => rfl
    | succ c =>
      have h1 := posF_lo p s c (by omega)
      have e : rd_T38 s (c : Int) = s.getD c z38 := by
        show s.getD (c : Int).toNat z38 = _
        rw [Int.toNat_natCast]
      rw [impl_frontOf_1.bk, e, if_neg (by omega)]
  | d + 1, h => by
    have h1 := posF_hi p s hs (posF p s + d) (by omega) (by omega)
    have e : rd_T38 s ((posF p s + d : Nat) : Int) = s.getD (posF p s + d) z38 := by
      show s.getD ((posF p s + d : Nat) : Int).toNat z38 = _
      rw [Int.toNat_natCast]
    rw [← Nat.add_assoc, impl_frontOf_1.bk, e, if_pos h1]
    exact bk_e p s hs d (by omega)
theorem ins_e (p : S38) (s : List S38) (hs : IncF s) : impl_frontOf_1.ins p s = insF p s := by
  have h1 := posF_le p s
  have h2 := bk_e p s hs (s.length - posF p s) (by omega)
  rw [show posF p s + (s.length - posF p s) = s.length by omega] at h2
  rw [impl_frontOf_1.ins, h2, insF_pos]
theorem frnext_e (p : S38) (s : List S38) (hs : SortF s) : (impl_frontOf_1.scan p s []).bind (fun z => some (impl_frontOf_1.next p s z)) = some (putF p s) := by
  rw [scan_e, Option.bind_some]
  unfold putF
  split
  · rfl
  · show some (impl_frontOf_1.ins p ([] ++ s.filter (fun q => !domB p q))) = _
    rw [List.nil_append, ins_e p _ (List.Pairwise.sublist List.filter_sublist hs.1)]
theorem each_runP {σ : Type} {step : Nat → List Int → σ → Option σ} {F : σ → List Int → σ} (Inv : σ → Prop) (hm : ∀ o s, Mono (fun k => step k o s)) : ∀ (r : List (List Int)) (o : List Int) (s : σ), Inv s → (∀ q ∈ o :: r, ∀ s, Inv s → L (fun k => step k q s) = some (F s q) ∧ Inv (F s q)) → RunL NextL (o :: r) → (∀ (p : List (List Int)) (b : List Int), o :: r = p ++ [b] → ∃ c, L (fun k => impl_nextOrder.f k b) = some (false, c)) → L (fun k => impl_eachOrder.run step k o s) = some ((o :: r).foldl F s)
  | [], o, s, hi, h1, h2, h3 => by
    obtain ⟨c, hc⟩ := h3 [] o rfl
    rw [L_shift]
    simp only [impl_eachOrder.run, L_bind, (h1 o List.mem_cons_self s hi).1, hc, Option.bind_some, Bool.false_eq_true, if_false, L_const]
    rfl
  | b :: r, o, s, hi, h1, h2, h3 => by
    have h4 := h2.1
    unfold NextL at h4
    have h5 := h1 o List.mem_cons_self s hi
    rw [L_shift]
    simp only [impl_eachOrder.run, L_bind, h5.1, h4, Option.bind_some, if_true]
    exact each_runP Inv hm r b _ h5.2 (fun q hq => h1 q (List.mem_cons_of_mem _ hq)) h2.2 (fun p c e => h3 (o :: p) c (by rw [e]; rfl))
/-- A walk over all orders of n things, told by a fold over them, with what holds all the way. -/
theorem each_LP {σ : Type} {step : Nat → List Int → σ → Option σ} {F : σ → List Int → σ} (Inv : σ → Prop) (hm : ∀ o s, Mono (fun k => step k o s)) (n : Nat) (hn : n ≤ 8) (s : σ) (hs : Inv s) (h : ∀ q, IsOrd n q → ∀ s, Inv s → L (fun k => step k q s) = some (F s q) ∧ Inv (F s q)) : L (fun k => impl_eachOrder.run step k (numsTo n) s) = some ((permsN n (numsTo n)).foldl F s) := by
  have hrun := perms_run (N := fun a b => a.length ≤ 1048576 → NextL a b) (fun A P Q y z hs hl => next_step A P Q y z hs hl) n [] (numsTo n) (numsTo_length n) (numsTo_asc n)
  have e : (permsN n (numsTo n)).map (fun x => [] ++ x) = permsN n (numsTo n) := by simp
  rw [e] at hrun
  obtain ⟨h1, ⟨r, h2⟩, ⟨p, h3⟩⟩ := hrun
  rw [List.nil_append] at h2 h3
  have hall : ∀ q ∈ permsN n (numsTo n), IsOrd n q := fun q hq => IsOrd.of_perm (permsN_perm n (numsTo n) (numsTo_length n) (numsTo_nodup n) q hq)
  rw [h2] at hall h1 h3 ⊢
  refine each_runP Inv hm r (numsTo n) s hs (fun q hq => h q (hall q hq)) ?_ (fun p' b hb => ?_)
  · have : ∀ os : List (List Int), (∀ q ∈ os, IsOrd n q) → RunL (fun a b => a.length ≤ 1048576 → NextL a b) os → RunL NextL os := by
      intro os
      induction os with
      | nil => exact fun _ _ => trivial
      | cons a os ih =>
        cases os with
        | nil => exact fun _ _ => trivial
        | cons b os => exact fun ha hr => ⟨hr.1 (by rw [(ha a List.mem_cons_self).1]; omega), ih (fun q hq => ha q (List.mem_cons_of_mem _ hq)) hr.2⟩
    exact this _ hall h1
  · rw [h3] at hb
    have hb2 : b = (numsTo n).reverse := by
      have := congrArg List.getLast? hb
      simpa using this.symm
    exact ⟨_, by rw [hb2]; exact next_last _ (numsTo_asc n) (by rw [numsTo_length]; omega)⟩
theorem frvalF_bd (obj : Int) : ∀ (l : List S41) (es : List Int) (v : Int) (b : Bool) (B : Int), (∀ j ∈ l, JobOk j) → (∀ e ∈ es, 0 ≤ e ∧ e ≤ 2000) → 0 ≤ B → -B ≤ v → v ≤ B → -(B + 100000 * (l.length : Int)) ≤ valF obj v b l es ∧ valF obj v b l es ≤ B + 100000 * (l.length : Int)
  | [], es, v, b, B, _, _, _, h0, h1 => by simp [valF]; omega
  | j :: l, [], v, b, B, _, _, hB, h0, h1 => by
    simp only [valF, List.length_cons]
    omega
  | j :: l, e :: es, v, b, B, hj, he, hB, h0, h1 => by
    have he' := he e List.mem_cons_self
    have h2 := addF_bd v j e obj b (hj j List.mem_cons_self) he'.1 he'.2 hB h0 h1
    have h3 := frvalF_bd obj l es (addF v j e obj b) false (B + 100000) (fun x hx => hj x (List.mem_cons_of_mem _ hx)) (fun x hx => he x (List.mem_cons_of_mem _ hx)) (by omega) h2.1 h2.2
    simp only [valF, List.length_cons]
    omega
theorem frvalP_bd (l : List S41) (hg : Good l) (o : List Int) (ho : IsOrd l.length o) (obj : Int) : -1000000 ≤ valP obj l (endsP l o) ∧ valP obj l (endsP l o) ≤ 1000000 := by
  have h := frvalF_bd obj l (endsP l o) 0 true 0 hg.2 (fun e he => by have := endsP_bounds hg ho e he; omega) (by omega) (by omega) (by omega)
  have := hg.1
  unfold valP
  omega
def ptF (l : List S41) (f g : Int) (o : List Int) : S38 := ⟨valP f l (endsP l o), valP g l (endsP l o)⟩
def stepF (l : List S41) (f g : Int) (s : List S38) (o : List Int) : List S38 := putF (ptF l f g o) s
def frontP (l : List S41) (f g : Int) : List S38 := (permsN l.length (numsTo l.length)).foldl (stepF l f g) []
theorem point_both (l : List S41) (hg : Good l) (f g : Int) (hf : objB f = true) (hgg : objB g = true) (o : List Int) (ho : IsOrd l.length o) : L (fun k => spec_l11Point.f k l o f g) = some (valP f l (endsP l o), valP g l (endsP l o)) ∧ L (fun k => impl_pointOf.f k l o f g) = some (valP f l (endsP l o), valP g l (endsP l o)) := by
  have hb : ∀ e ∈ endsP l o, 0 ≤ e ∧ e ≤ 2000 := fun e he => by have := endsP_bounds hg ho e he; omega
  constructor
  · simp only [spec_l11Point.f, L_bind, l2Ends_L l o hg ho, Option.bind_some, l2Of_L l hg _ (endsP_length l o) hb f hf, l2Of_L l hg _ (endsP_length l o) hb g hgg, L_const]
  · simp only [impl_pointOf.f, L_bind, endsOf_L l o hg ho, Option.bind_some, valueOfEnds_L l hg _ (endsP_length l o) hb, L_const]
theorem stepF_sort (l : List S41) (hg : Good l) (f g : Int) (o : List Int) (ho : IsOrd l.length o) (s : List S38) (hs : SortF s) : SortF (stepF l f g s o) := sortF_put _ s hs (frvalP_bd l hg o ho f)
theorem frontOf_L (l : List S41) (hg : Good l) (f g : Int) (hf : objB f = true) (hgg : objB g = true) : L (fun k => impl_frontOf.f k l f g) = some (frontP l f g) := by
  have h8 := hg.1
  have hn := ruled_l l.length (by omega) l.length 0 (by omega)
  have hn2 : L (fun k => impl_numbersTo.f k (l.length : Int)) = some (numsTo l.length) := by
    simp only [impl_numbersTo.f]
    exact hn
  simp only [impl_frontOf.f, L_bind, hn2, Option.bind_some]
  refine each_LP SortF (fun o s => ⟨⟨fun k => impl_frontOf_1.step_mono l f g k o s⟩⟩) l.length h8 [] ⟨List.Pairwise.nil, by simp⟩ (fun q hq s hs => ⟨?_, stepF_sort l hg f g q hq s hs⟩)
  have hln := sortF_len hs
  simp only [impl_frontOf_1.step, L_bind, (point_both l hg f g hf hgg q hq).2, Option.bind_some, if_pos (show s.length ≤ 100000000 by omega), L_const]
  exact frnext_e (ptF l f g q) s hs
theorem l11Try_leaf (l : List S41) (hg : Good l) (f g : Int) (hf : objB f = true) (hgg : objB g = true) (b : List Int) (hb : IsOrd l.length b) (s : List S38) (hs : SortF s) : L (fun k => spec_l11Try.f k l b f g s) = some (stepF l f g s b) := by
  have hb1 := hb.1
  have h := l11Put_L (ptF l f g b) s hs
  rw [L_shift]
  simp only [spec_l11Try.f, if_pos (show (b.length : Int) = (l.length : Int) by omega), L_bind, (point_both l hg f g hf hgg b hb).1, Option.bind_some, L_const]
  simp only [ptF] at h
  rw [h]
  rfl
theorem l11Try_L (l : List S41) (hg : Good l) (f g : Int) (hf : objB f = true) (hgg : objB g = true) : ∀ (n : Nat) (b : List Int), b.Nodup → (∀ x ∈ b, 0 ≤ x ∧ x < (l.length : Int)) → b.length + n = l.length → ∀ s, SortF s → L (fun k => spec_l11Try.f k l b f g s) = some (((permsN n ((numsTo l.length).filter (fun x => decide (x ∉ b)))).map (fun q => b ++ q)).foldl (stepF l f g) s) ∧ SortF (((permsN n ((numsTo l.length).filter (fun x => decide (x ∉ b)))).map (fun q => b ++ q)).foldl (stepF l f g) s)
  | 0, b, hn, hx, hl, s, hs => by
    have ho : IsOrd l.length b := ⟨by omega, hx, hn⟩
    constructor
    · rw [l11Try_leaf l hg f g hf hgg b ho s hs]
      simp [permsN]
    · have := stepF_sort l hg f g b ho s hs
      simpa [permsN] using this
  | n + 1, b, hn, hx, hl, s, hs => by
    have h8 := hg.1
    have hloop : ∀ (d i : Nat) (s : List S38), SortF s → i + d = l.length → L (fun k => spec_l11Try.l0 k l b f g s (i : Int)) = some ((((numsFrom i d).filter (fun x => decide (x ∉ b))).flatMap (fun y => (permsN n ((numsTo l.length).filter (fun x => decide (x ∉ b ++ [y])))).map (fun q => (b ++ [y]) ++ q))).foldl (stepF l f g) s) ∧ SortF ((((numsFrom i d).filter (fun x => decide (x ∉ b))).flatMap (fun y => (permsN n ((numsTo l.length).filter (fun x => decide (x ∉ b ++ [y])))).map (fun q => (b ++ [y]) ++ q))).foldl (stepF l f g) s) := by
      intro d
      induction d with
      | zero =>
        intro i s hs hi
        refine ⟨?_, hs⟩
        rw [L_shift]
        simp only [spec_l11Try.l0, if_neg (show ¬ ((i : Int) < (l.length : Int)) by omega), L_const]
        rfl
      | succ d ih =>
        intro i s hs hi
        have e : wrap64 ((i : Int) + 1) = ((i + 1 : Nat) : Int) := by
          rw [wrap_id (by omega) (by omega)]
          omega
        rw [L_shift]
        simp only [spec_l11Try.l0, if_pos (show ((i : Int) < (l.length : Int)) by omega), L_bind, l1Has_L b _ (show b.length < 4611686018427387904 by omega), Option.bind_some, e, L_ite, L_const, l1Own_e b (by omega), if_pos (show b.length < 17592186044416 by omega)]
        rw [numsFrom_cons]
        by_cases hm : (i : Int) ∈ b
        · simp only [hm, decide_true, if_true]
          rw [List.filter_cons_of_neg (by simp [hm])]
          exact ih (i + 1) s hs (by omega)
        · rw [if_neg (by simp [hm])]
          have hrec := l11Try_L l hg f g hf hgg n (b ++ [(i : Int)]) (by
            rw [List.nodup_append]
            exact ⟨hn, by simp, fun a ha c hc => by
              rw [List.mem_singleton] at hc
              rintro rfl
              exact hm (hc ▸ ha)⟩) (fun x h => by
            rcases List.mem_append.1 h with h | h
            · exact hx x h
            · rw [List.mem_singleton] at h
              omega) (by simp; omega) s hs
          have h5 := ih (i + 1) _ hrec.2 (by omega)
          rw [hrec.1, Option.bind_some, List.filter_cons_of_pos (by simp [hm]), List.flatMap_cons, List.foldl_append]
          exact h5
    have := hloop l.length 0 s hs (by omega)
    rw [numsFrom_all] at this
    have e2 : ((numsTo l.length).filter (fun x => decide (x ∉ b))).flatMap (fun y => (permsN n ((numsTo l.length).filter (fun x => decide (x ∉ b ++ [y])))).map (fun q => (b ++ [y]) ++ q)) = (permsN (n + 1) ((numsTo l.length).filter (fun x => decide (x ∉ b)))).map (fun q => b ++ q) := by
      rw [permsN, List.map_flatMap]
      congr 1
      funext y
      rw [List.map_map]
      have e1 : (fun q => b ++ q) ∘ (fun q => y :: q) = fun q => (b ++ [y]) ++ q := by
        funext q
        simp
      rw [e1, List.filter_filter]
      congr 2
      apply List.filter_congr
      intro a _
      by_cases h1 : a = y
      · simp [h1]
      · simp [h1]
    rw [e2] at this
    refine ⟨?_, this.2⟩
    rw [L_shift]
    simp only [spec_l11Try.f, if_neg (show ¬ (b.length : Int) = (l.length : Int) by omega)]
    exact this.1
theorem l11Front_L (l : List S41) (hg : Good l) (f g : Int) (hf : objB f = true) (hgg : objB g = true) : L (fun k => spec_l11Front.f k l f g) = some (frontP l f g) ∧ SortF (frontP l f g) := by
  have h := l11Try_L l hg f g hf hgg l.length [] List.nodup_nil (by simp) (by simp) [] ⟨List.Pairwise.nil, by simp⟩
  have e : (numsTo l.length).filter (fun x => decide (x ∉ ([] : List Int))) = numsTo l.length := by simp
  rw [e] at h
  simp only [List.nil_append, List.map_id'] at h
  refine ⟨?_, h.2⟩
  simp only [spec_l11Front.f, L_bind, h.1, Option.bind_some, L_const]
  rfl

theorem l11Has_l (p : S38) (s : List S38) (hl : s.length ≤ 2000001) : ∀ (r pre : List S38), pre ++ r = s → L (fun k => spec_l11Has.l0 k s (pre.length : Int) p.f0 p.f1) = some (r.any (fun q => eqPB q p))
  | [], pre, e => by
    rw [List.append_nil] at e
    rw [L_shift]
    simp only [spec_l11Has.l0, if_neg (show ¬ ((pre.length : Int) < (s.length : Int)) by rw [e]; omega), L_const, List.any_nil]
  | q :: r, pre, e => by
    have hlen : s.length = pre.length + (r.length + 1) := by rw [← e]; simp
    have er : rd_T38 s (pre.length : Int) = q := by rw [← e]; exact getD_mid pre q r z38
    have ew : wrap64 ((pre.length : Int) + 1) = ((pre ++ [q]).length : Int) := wrap_mid pre q (by omega)
    have ih := l11Has_l p s hl r (pre ++ [q]) (by rw [← e]; simp)
    rw [L_shift]
    simp only [spec_l11Has.l0, if_pos (show (pre.length : Int) < (s.length : Int) by omega), if_pos (show (0 : Int) ≤ (pre.length : Int) by omega), er, ew, L_ite, L_const, ih, List.any_cons]
    by_cases h1 : q.f0 = p.f0
    · by_cases h2 : q.f1 = p.f1
      · simp [eqPB, h1, h2]
      · simp [eqPB, h1, h2]
    · simp [eqPB, h1]
theorem isUn_l (p : S38) (s : List S38) (hl : s.length ≤ 2000001) : ∀ (r pre : List S38), pre ++ r = s → L (fun k => impl_IsUndominated.l0 k s (s.length : Int) (pre.length : Int) p.f0 p.f1) = some (r.any (fun q => eqPB q p), true)
  | [], pre, e => by
    rw [List.append_nil] at e
    rw [L_shift]
    simp only [impl_IsUndominated.l0, if_neg (show ¬ ((pre.length : Int) < (s.length : Int)) by rw [e]; omega), L_const, List.any_nil]
  | q :: r, pre, e => by
    have hlen : s.length = pre.length + (r.length + 1) := by rw [← e]; simp
    have er : rd_T38 s (pre.length : Int) = q := by rw [← e]; exact getD_mid pre q r z38
    have ew : wrap64 ((pre.length : Int) + 1) = ((pre ++ [q]).length : Int) := wrap_mid pre q (by omega)
    have ih := isUn_l p s hl r (pre ++ [q]) (by rw [← e]; simp)
    rw [L_shift]
    simp only [impl_IsUndominated.l0, if_pos (show (pre.length : Int) < (s.length : Int) by omega), if_pos (show (0 : Int) ≤ (pre.length : Int) by omega), er, ew, L_ite, L_const, ih, List.any_cons]
    by_cases h1 : p.f0 = q.f0
    · by_cases h2 : p.f1 = q.f1
      · simp [eqPB, h1, h2]
      · have h3 : ¬ q.f1 = p.f1 := fun h => h2 h.symm
        simp [eqPB, h1, h2, h3]
    · have h3 : ¬ q.f0 = p.f0 := fun h => h1 h.symm
      simp [eqPB, h1, h3]
theorem IsUndominated_both (l : List S41) (o : List Int) (f g : Int) (h : l.length ≤ 1048576) (ho : o.length ≤ 1048576) :
    ∃ (a ok : Bool), L (fun k => spec_IsUndominated.f k l o f g) = some (a, ok) ∧ L (fun k => impl_IsUndominated.f k l o f g) = some (a, ok) := by
  have hno1 : ∀ z, L (fun k => spec_IsUndominated.j0 k l o f g true) = z ↔ some (false, false) = z := fun z => by rw [L_shift]; simp only [spec_IsUndominated.j0, if_true, L_const]
  have hno2 : ∀ z, L (fun k => impl_IsUndominated.j0 k l o f g true) = z ↔ some (false, false) = z := fun z => by rw [L_shift]; simp only [impl_IsUndominated.j0, if_true, L_const]
  simp only [spec_IsUndominated.f, impl_IsUndominated.f, spec_l11Two.f, impl_areTwo.f, bind_self, L_bind, L_ite, L_const, l2Two_L l o h ho, IsJobs_L l (by omega), isOrder_L l.length o h (by omega), isObjective_e, l2Objective_e, Option.bind_some, ite_and]
  cases hgd : goodB l with
  | false => exact ⟨false, false, by simp [schedB, hgd, hno1], by simp [hno2]⟩
  | true =>
    cases hf : objB f with
    | false => exact ⟨false, false, by simp [hno1], by simp [hno2]⟩
    | true =>
      cases hg : objB g with
      | false => exact ⟨false, false, by simp [hno1], by simp [hno2]⟩
      | true =>
        cases hi : orderB l.length o with
        | false => exact ⟨false, false, by simp [schedB, hgd, hi, hno1], by simp [hno2]⟩
        | true =>
          have hgo := goodB_iff.1 hgd
          have hio := orderB_iff.1 hi
          obtain ⟨p1, p2⟩ := point_both l hgo f g hf hg o hio
          obtain ⟨f1, f2⟩ := l11Front_L l hgo f g hf hg
          have f3 := frontOf_L l hgo f g hf hg
          have hlen := sortF_len f2
          have h1 := l11Has_l (ptF l f g o) (frontP l f g) hlen (frontP l f g) [] rfl
          have h2 := isUn_l (ptF l f g o) (frontP l f g) hlen (frontP l f g) [] rfl
          simp only [List.length_nil, Int.natCast_zero, ptF] at h1 h2
          have h3 : L (fun k => spec_l11Has.f k (frontP l f g) (valP f l (endsP l o)) (valP g l (endsP l o))) = some ((frontP l f g).any (fun q => eqPB q ⟨valP f l (endsP l o), valP g l (endsP l o)⟩)) := h1
          have e1 : L (fun k => spec_IsUndominated.j0 k l o f g false) = some ((frontP l f g).any (fun q => eqPB q ⟨valP f l (endsP l o), valP g l (endsP l o)⟩), true) := by
            rw [L_shift]
            simp only [spec_IsUndominated.j0, Bool.false_eq_true, if_false, L_bind, f1, p1, Option.bind_some, h3, L_const]
          have e2 : L (fun k => impl_IsUndominated.j0 k l o f g false) = some ((frontP l f g).any (fun q => eqPB q ⟨valP f l (endsP l o), valP g l (endsP l o)⟩), true) := by
            rw [L_shift]
            simp only [impl_IsUndominated.j0, Bool.false_eq_true, if_false, L_bind, f3, p2, Option.bind_some, h2]
          refine ⟨(frontP l f g).any (fun q => eqPB q ⟨valP f l (endsP l o), valP g l (endsP l o)⟩), true, ?_, ?_⟩
          · simp only [schedB, hgd, hi, Bool.and_self, if_true, Bool.not_true]
            exact e1
          · simp only [Bool.and_self, if_true, Bool.not_true]
            exact e2
theorem laws_FnExactIsUndominated_j0f (x0 : List (S43)) (x1 : List Int) (x12 : List (S41)) (x13 : List Int) : L (fun k => laws_FnExactIsUndominated.j0 k x0 x1 x12 x13 false) = L (fun k => (laws_toJobS.f k x0).bind fun t324 => ((laws_eqJobS.f k x12 t324).bind fun t327 => (if t327 = true then ((laws_toIntS.f k x1).bind fun t328 => ((laws_eqIntS.f k x13 t328).bind fun t331 => (if t331 = true then (some true) else (some false)))) else (some false)))) := by
  rw [L_shift]
  simp only [laws_FnExactIsUndominated.j0, Bool.false_eq_true, if_false]
theorem FnExactIsUndominated : laws_FnExactIsUndominated.Pure := by
  intro l o f g h1 _ h2 _ _ _
  have e1 : maxLen = 9223372036854775807 := rfl
  refine rounds_of_L ?_
  simp only [laws_FnExactIsUndominated.f, L_ite, L_const, szJobS_e l (by omega)]
  by_cases ho : o.length ≤ 1048576
  · rw [if_neg (by omega)]
    by_cases hl : l.length ≤ 1048576
    · have hl2 : (l.map toJobP).length ≤ 1048576 := by simpa using hl
      obtain ⟨a, ok, hs, hi⟩ := IsUndominated_both (l.map toJobP) o f g hl2 ho
      rw [if_pos hl]
      simp (disch := omega) only [lt0, Option.bind_some, L_bind, L_ite, L_const, toJobS_L l hl, toIntS_L o ho, hs, hi, eqJobS_L _ hl2, eqIntS_L o ho, laws_FnExactIsUndominated_j0f, if_true, Bool.false_eq_true, if_false, bne_self_eq_false]
    · rw [if_neg hl]
      simp only [Option.bind_some, if_pos (show (-1 : Int) < 0 by decide), L_const]
  · rw [if_pos (by omega)]

end Go.Proofs.Ytpbgdgjnkmlifaa.Pure
