/- If all ends from a place on grow by its slack, no job from there on is too late, but by one more there is one; and stretching keeps ruled orders: for all codes that the jobs are drawn from. -/
import Derived.Test.YtnghgpceaahkaaaXSFnSlacks
import Derived.Test.YtnghgpceaahkaaaXLim
namespace Go.Proofs.Ytnghgpceaahkaaa.Pure
open Go.RowKit Go.Proofs.YtnghgpceaahkaaaW.PrintWords Go.Proofs.YtnghgpceaahkaaaW.PrintLast Go.Proofs.YtnghgpceaahkaaaW.PrintMore Go.Proofs.Ytnghgpceaahkaaa.X Go.Proofs.Ytnghgpceaahkaaa.XRow Go.Proofs.Ytnghgpceaahkaaa.XLim
set_option linter.unusedVariables false
set_option linter.unusedSimpArgs false
instance : ∀ a0 a1, Mono (fun k => impl_EndsOf.f k a0 a1) := fun a0 a1 => ⟨⟨impl_EndsOf.mono a0 a1⟩⟩
instance : ∀ a0, Mono (fun k => impl_IsJobs.f k a0) := fun a0 => ⟨⟨impl_IsJobs.mono a0⟩⟩
instance : ∀ a0, Mono (fun k => impl_IsPlain.f k a0) := fun a0 => ⟨⟨impl_IsPlain.mono a0⟩⟩
instance : ∀ a0 a1, Mono (fun k => impl_RuledOrder.f k a0 a1) := fun a0 a1 => ⟨⟨impl_RuledOrder.mono a0 a1⟩⟩
instance : ∀ a0 a1 a2, Mono (fun k => impl_SlacksOf.f k a0 a1 a2) := fun a0 a1 a2 => ⟨⟨impl_SlacksOf.mono a0 a1 a2⟩⟩
instance : ∀ a0 a1, Mono (fun k => impl_StretchedJobs.f k a0 a1) := fun a0 a1 => ⟨⟨impl_StretchedJobs.mono a0 a1⟩⟩
instance : ∀ a0 a1, Mono (fun k => impl_areDifferent.f k a0 a1) := fun a0 a1 => ⟨⟨impl_areDifferent.mono a0 a1⟩⟩
instance : ∀ a0 a1, Mono (fun k => impl_endsOf.f k a0 a1) := fun a0 a1 => ⟨⟨impl_endsOf.mono a0 a1⟩⟩
instance : ∀ a0 a1, Mono (fun k => impl_has.f k a0 a1) := fun a0 a1 => ⟨⟨impl_has.mono a0 a1⟩⟩
instance : ∀ a0 a1, Mono (fun k => impl_isOrder.f k a0 a1) := fun a0 a1 => ⟨⟨impl_isOrder.mono a0 a1⟩⟩
instance : ∀ a0, Mono (fun k => impl_isPlain.f k a0) := fun a0 => ⟨⟨impl_isPlain.mono a0⟩⟩
instance : ∀ a0 a1, Mono (fun k => impl_isRuled.f k a0 a1) := fun a0 a1 => ⟨⟨impl_isRuled.mono a0 a1⟩⟩
instance : ∀ a0 a1, Mono (fun k => impl_isScheduled.f k a0 a1) := fun a0 a1 => ⟨⟨impl_isScheduled.mono a0 a1⟩⟩
instance : ∀ a0, Mono (fun k => impl_numbersTo.f k a0) := fun a0 => ⟨⟨impl_numbersTo.mono a0⟩⟩
instance : ∀ l0 a1, Mono (fun k => impl_ruledOrder.f k l0 a1) := fun l0 a1 => ⟨⟨impl_ruledOrder.mono l0 a1⟩⟩
instance : ∀ a0, Mono (fun k => laws_FnSlacks.f k a0) := fun a0 => ⟨⟨laws_FnSlacks.mono a0⟩⟩
instance : ∀ a0 a1, Mono (fun k => laws_vInts.f k a0 a1) := fun a0 a1 => ⟨⟨laws_vInts.mono a0 a1⟩⟩
instance : ∀ a0 a1, Mono (fun k => laws_vJobs.f k a0 a1) := fun a0 a1 => ⟨⟨laws_vJobs.mono a0 a1⟩⟩
instance : ∀ l0, Mono (fun k => spec_DrawSlacksOf.f k l0) := fun l0 => ⟨⟨spec_DrawSlacksOf.mono l0⟩⟩
instance : ∀ l0, Mono (fun k => spec_DrawStretchedJobs.f k l0) := fun l0 => ⟨⟨spec_DrawStretchedJobs.mono l0⟩⟩
instance : ∀ a0, Mono (fun k => spec_IsPlain.f k a0) := fun a0 => ⟨⟨spec_IsPlain.mono a0⟩⟩
instance : ∀ a0 a1 a2, Mono (fun k => spec_SlacksOf.f k a0 a1 a2) := fun a0 a1 a2 => ⟨⟨spec_SlacksOf.mono a0 a1 a2⟩⟩
instance : ∀ a0 a1, Mono (fun k => spec_StretchedJobs.f k a0 a1) := fun a0 a1 => ⟨⟨spec_StretchedJobs.mono a0 a1⟩⟩
instance : ∀ a0 a1 a2, Mono (fun k => spec_l1Cur_jobs.f k a0 a1 a2) := fun a0 a1 a2 => ⟨⟨spec_l1Cur_jobs.mono a0 a1 a2⟩⟩
instance : ∀ a0 a1 a2, Mono (fun k => spec_l1Cur_plain3.f k a0 a1 a2) := fun a0 a1 a2 => ⟨⟨spec_l1Cur_plain3.mono a0 a1 a2⟩⟩
instance : ∀ a0 a1 a2 a3 a4, Mono (fun k => spec_l1Cur_someJobs.f k a0 a1 a2 a3 a4) := fun a0 a1 a2 a3 a4 => ⟨⟨spec_l1Cur_someJobs.mono a0 a1 a2 a3 a4⟩⟩
instance : ∀ a0 a1 a2, Mono (fun k => spec_l1Cur_tight3.f k a0 a1 a2) := fun a0 a1 a2 => ⟨⟨spec_l1Cur_tight3.mono a0 a1 a2⟩⟩
instance : ∀ a0 a1, Mono (fun k => spec_l1Has.f k a0 a1) := fun a0 a1 => ⟨⟨spec_l1Has.mono a0 a1⟩⟩
instance : ∀ a0 a1, Mono (fun k => spec_l2Ends.f k a0 a1) := fun a0 a1 => ⟨⟨spec_l2Ends.mono a0 a1⟩⟩
instance : ∀ a0, Mono (fun k => spec_l2Good.f k a0) := fun a0 => ⟨⟨spec_l2Good.mono a0⟩⟩
instance : ∀ a0 a1, Mono (fun k => spec_l2Order.f k a0 a1) := fun a0 a1 => ⟨⟨spec_l2Order.mono a0 a1⟩⟩
instance : ∀ a0 a1, Mono (fun k => spec_l2Starts.f k a0 a1) := fun a0 a1 => ⟨⟨spec_l2Starts.mono a0 a1⟩⟩
instance : ∀ a0, Mono (fun k => spec_l3Plain.f k a0) := fun a0 => ⟨⟨spec_l3Plain.mono a0⟩⟩
theorem lt_mid {α : Type} (pre : List α) (x : α) (r : List α) : ((pre.length : Int) < ((pre ++ x :: r).length : Int)) = True := by
  simp only [List.length_append, List.length_cons]
  exact eq_true (by omega)
theorem not_lt_end {α : Type} (pre : List α) : ((pre.length : Int) < ((pre ++ []).length : Int)) = False := by
  simp
theorem le_nat (n : Nat) : (0 ≤ (n : Int)) = True := eq_true (by omega)
theorem getD_mid {α : Type} (pre : List α) (x : α) (r : List α) (d : α) : (pre ++ x :: r).getD (pre.length : Int).toNat d = x := by
  simp [List.getD_eq_getElem?_getD]
theorem rd_mid (pre : List Int) (x : Int) (r : List Int) : rd (pre ++ x :: r) (pre.length : Int) = x := getD_mid pre x r 0
theorem wrap_mid {α : Type} (pre : List α) (x : α) (h : pre.length < 4611686018427387904) : wrap64 ((pre.length : Int) + 1) = ((pre ++ [x]).length : Int) := by
  rw [wrap_id (by omega) (by omega)]
  simp
theorem app_cons {α : Type} (pre : List α) (x : α) (r : List α) : pre ++ x :: r = (pre ++ [x]) ++ r := by simp
theorem getD_set (out : List Int) (i j : Nat) (v : Int) : (out.set i v).getD j 0 = if i = j ∧ j < out.length then v else out.getD j 0 := by
  simp only [List.getD_eq_getElem?_getD, List.getElem?_set]
  by_cases h : i = j
  · subst h
    by_cases h2 : i < out.length
    · simp [h2]
    · simp [h2]
  · simp [h]
theorem ext_getD {a b : List Int} (hl : a.length = b.length) (h : ∀ j : Nat, j < a.length → a.getD j 0 = b.getD j 0) : a = b := by
  apply List.ext_getElem hl
  intro j h1 h2
  have := h j h1
  rwa [List.getD_eq_getElem?_getD, List.getD_eq_getElem?_getD, List.getElem?_eq_getElem h1, List.getElem?_eq_getElem h2] at this
theorem getD_mem {l : List Int} {j : Nat} (hj : j < l.length) : l.getD j 0 ∈ l := by
  rw [List.getD_eq_getElem?_getD, List.getElem?_eq_getElem hj]
  exact List.getElem_mem _
theorem ite_and (b c : Bool) : (if b = true then some c else some false) = some (b && c) := by cases b <;> rfl
theorem ite_not_and (b c : Bool) : (if b = true then some false else some c) = some (!b && c) := by cases b <;> rfl
theorem bind_self {α : Type} (o : Option α) : (o.bind fun t => some t) = o := by cases o <;> rfl
def inB (a lo hi : Int) : Bool := decide (lo ≤ a) && decide (a ≤ hi)
theorem inB_iff {a lo hi : Int} : inB a lo hi = true ↔ lo ≤ a ∧ a ≤ hi := by simp [inB]
theorem within_e (a lo hi : Int) : impl_within.f a lo hi = some (inB a lo hi) := by
  unfold impl_within.f inB
  by_cases h : lo ≤ a <;> simp [h]
theorem l1In_e (a lo hi : Int) : spec_l1In.f a lo hi = some (inB a lo hi) := by
  unfold spec_l1In.f inB
  by_cases h : lo ≤ a <;> simp [h]
theorem mx_e (a b : Int) : mx a b = max a b := by
  unfold mx
  omega
theorem l1Most_e (a b : Int) : spec_l1Most.f a b = some (max a b) := by
  unfold spec_l1Most.f
  by_cases h : a > b
  · rw [if_pos h]
    congr 1
    omega
  · rw [if_neg h]
    congr 1
    omega
theorem l1Has_l (x : Int) (r : List Int) : ∀ pre : List Int, (pre ++ r).length < 4611686018427387904 → L (fun k => spec_l1Has.l0 k (pre ++ r) x (pre.length : Int)) = some (decide (x ∈ r)) := by
  induction r with
  | nil =>
    intro pre hb
    rw [L_shift]
    simp only [spec_l1Has.l0, not_lt_end, if_false, L_const]
    simp
  | cons y r ih =>
    intro pre hb
    rw [L_shift]
    have hl : pre.length < 4611686018427387904 := by simp at hb; omega
    simp only [spec_l1Has.l0, lt_mid, le_nat, if_true, rd_mid, wrap_mid pre y hl, L_ite, L_const]
    rw [app_cons pre y r, ih (pre ++ [y]) (by simpa using hb)]
    by_cases h : y = x
    · subst h
      simp
    · rw [if_neg h]
      have : ¬ x = y := fun e => h e.symm
      simp [this]
theorem l1Has_L (l : List Int) (x : Int) (h : l.length < 4611686018427387904) : L (fun k => spec_l1Has.f k l x) = some (decide (x ∈ l)) := l1Has_l x l [] (by simpa using h)
theorem has_l (x : Int) (r : List Int) : ∀ pre : List Int, (pre ++ r).length < 4611686018427387904 → L (fun k => impl_has.l0 k x (pre ++ r) ((pre ++ r).length : Int) (pre.length : Int)) = some (decide (x ∈ r)) := by
  induction r with
  | nil =>
    intro pre hb
    rw [L_shift]
    simp only [impl_has.l0, not_lt_end, if_false, L_const]
    simp
  | cons y r ih =>
    intro pre hb
    rw [L_shift]
    have hl : pre.length < 4611686018427387904 := by simp at hb; omega
    simp only [impl_has.l0, lt_mid, le_nat, if_true, rd_mid, wrap_mid pre y hl, L_ite, L_const]
    rw [app_cons pre y r, ih (pre ++ [y]) (by simpa using hb)]
    by_cases h : y = x
    · subst h
      simp
    · rw [if_neg h]
      have : ¬ x = y := fun e => h e.symm
      simp [this]
theorem has_L (l : List Int) (x : Int) (h : l.length < 4611686018427387904) : L (fun k => impl_has.f k l x) = some (decide (x ∈ l)) := has_l x l [] (by simpa using h)
theorem perm_of : ∀ (a b : List Int), a.Nodup → (∀ x ∈ a, x ∈ b) → b.length ≤ a.length → a.Perm b
  | [], b, _, _, hl => by
    have : b = [] := List.length_eq_zero_iff.1 (by simpa using hl)
    rw [this]
  | x :: a, b, hn, hs, hl => by
    have hx : x ∈ b := hs x List.mem_cons_self
    have hn' := List.nodup_cons.1 hn
    have hp := List.perm_cons_erase hx
    have h1 : (b.erase x).length ≤ a.length := by
      have := List.length_erase_of_mem hx
      simp at hl
      omega
    have h2 : ∀ y ∈ a, y ∈ b.erase x := fun y hy => (List.mem_erase_of_ne (by rintro rfl; exact hn'.1 hy)).2 (hs y (List.mem_cons_of_mem _ hy))
    exact ((perm_of a (b.erase x) hn'.2 h2 h1).cons x).trans hp.symm
def numsTo (n : Nat) : List Int := (List.range n).map (fun i : Nat => (i : Int))
theorem numsTo_length (n : Nat) : (numsTo n).length = n := by simp [numsTo]
theorem mem_numsTo {n : Nat} {x : Int} : x ∈ numsTo n ↔ 0 ≤ x ∧ x < n := by
  simp only [numsTo, List.mem_map, List.mem_range]
  constructor
  · rintro ⟨i, hi, rfl⟩
    omega
  · intro h
    exact ⟨x.toNat, by omega, by omega⟩
theorem numsTo_nodup (n : Nat) : (numsTo n).Nodup := by
  unfold numsTo
  exact List.Pairwise.map _ (fun a b h => by omega) List.nodup_range
theorem numsTo_succ (n : Nat) : numsTo (n + 1) = numsTo n ++ [(n : Int)] := by
  unfold numsTo
  rw [List.range_succ, List.map_append]
  rfl
/-- Different numbers of n things, none of them in pre. -/
def diffB (n : Int) : List Int → List Int → Bool
  | _, [] => true
  | pre, x :: r => inB x 0 (n - 1) && (!decide (x ∈ pre) && diffB n (pre ++ [x]) r)
theorem diffB_iff (n : Int) : ∀ (r pre : List Int), diffB n pre r = true ↔ (∀ x ∈ r, 0 ≤ x ∧ x < n) ∧ r.Nodup ∧ ∀ x ∈ r, x ∉ pre
  | [], pre => by simp [diffB]
  | x :: r, pre => by
    rw [diffB, Bool.and_eq_true, Bool.and_eq_true, inB_iff, diffB_iff n r (pre ++ [x])]
    simp only [Bool.not_eq_true', decide_eq_false_iff_not, List.mem_cons, List.nodup_cons, List.mem_append, List.not_mem_nil, or_false, not_or]
    constructor
    · rintro ⟨h1, h2, h3, h4, h5⟩
      refine ⟨?_, ⟨fun hx => (h5 x hx).2 rfl, h4⟩, ?_⟩
      · rintro y (rfl | hy)
        · omega
        · exact h3 y hy
      · rintro y (rfl | hy)
        · exact h2
        · exact (h5 y hy).1
    · rintro ⟨h1, ⟨h2, h3⟩, h4⟩
      exact ⟨⟨(h1 x (.inl rfl)).1, by have := (h1 x (.inl rfl)).2; omega⟩, h4 x (.inl rfl), fun y hy => h1 y (.inr hy), h3, fun y hy => ⟨h4 y (.inr hy), fun e => h2 (e ▸ hy)⟩⟩
/-- An order of n jobs. -/
def orderB (n : Nat) (l : List Int) : Bool := decide ((l.length : Int) = n) && diffB n [] l
def IsOrd (n : Nat) (l : List Int) : Prop := l.length = n ∧ (∀ x ∈ l, 0 ≤ x ∧ x < n) ∧ l.Nodup
theorem orderB_iff {n : Nat} {l : List Int} : orderB n l = true ↔ IsOrd n l := by
  simp only [orderB, Bool.and_eq_true, decide_eq_true_eq, diffB_iff, IsOrd]
  constructor
  · rintro ⟨h, h1, h2, _⟩
    exact ⟨by omega, h1, h2⟩
  · rintro ⟨h, h1, h2⟩
    exact ⟨by omega, h1, h2, by simp⟩
theorem IsOrd.perm {n : Nat} {l : List Int} (h : IsOrd n l) : l.Perm (numsTo n) := perm_of l _ h.2.2 (fun x hx => mem_numsTo.2 (h.2.1 x hx)) (by rw [numsTo_length, h.1]; exact Nat.le_refl _)
theorem IsOrd.of_perm {n : Nat} {l : List Int} (h : l.Perm (numsTo n)) : IsOrd n l := ⟨by rw [h.length_eq, numsTo_length], fun x hx => mem_numsTo.1 (h.mem_iff.1 hx), h.nodup_iff.2 (numsTo_nodup n)⟩
theorem IsOrd.mem {n : Nat} {l : List Int} (h : IsOrd n l) {x : Int} : x ∈ l ↔ 0 ≤ x ∧ x < n := by rw [h.perm.mem_iff, mem_numsTo]
theorem isOrd_all {n : Nat} {l : List Int} (hl : l.length = n) (h : ∀ j : Nat, j < n → (j : Int) ∈ l) : IsOrd n l :=
  IsOrd.of_perm (perm_of _ l (numsTo_nodup n) (fun x hx => by
    obtain ⟨h0, h1⟩ := mem_numsTo.1 hx
    have := h x.toNat (by omega)
    rwa [Int.toNat_of_nonneg h0] at this) (by rw [numsTo_length, hl]; exact Nat.le_refl _)).symm
theorem l2Order_l (n : Nat) (l : List Int) (hn : n ≤ 1048576) (hl : l.length < 4611686018427387904) : ∀ (d i : Nat), i + d = n → L (fun k => spec_l2Order.l0 k (n : Int) l (i : Int)) = some (decide (∀ j : Nat, j < n → i ≤ j → (j : Int) ∈ l))
  | 0, i, hi => by
    rw [L_shift]
    simp only [spec_l2Order.l0, if_neg (show ¬ ((i : Int) < (n : Int)) by omega), L_const]
    congr 1
    symm
    rw [decide_eq_true_eq]
    intro j h1 h2
    omega
  | d + 1, i, hi => by
    rw [L_shift]
    have e : wrap64 ((i : Int) + 1) = ((i + 1 : Nat) : Int) := by
      rw [wrap_id (by omega) (by omega)]
      omega
    simp only [spec_l2Order.l0, if_pos (show ((i : Int) < (n : Int)) by omega), L_bind, l1Has_L l _ hl, Option.bind_some, e, L_ite, L_const]
    rw [l2Order_l n l hn hl d (i + 1) (by omega), ite_and]
    congr 1
    rw [← Bool.decide_and]
    apply decide_eq_decide.2
    constructor
    · rintro ⟨h1, h2⟩ j h4 h3
      rcases Nat.eq_or_lt_of_le h3 with rfl | h5
      · exact h1
      · exact h2 j h4 h5
    · intro h
      exact ⟨h i (by omega) (Nat.le_refl _), fun j h4 h3 => h j h4 (by omega)⟩
theorem l2Order_L (n : Nat) (l : List Int) (hn : n ≤ 1048576) (hl : l.length < 4611686018427387904) : L (fun k => spec_l2Order.f k (n : Int) l) = some (decide (n ≤ 8) && orderB n l) := by
  have hj : ∀ b : Bool, L (fun k => spec_l2Order.j0 k (n : Int) l b) = some (!b && decide (∀ j : Nat, j < n → (j : Int) ∈ l)) := by
    intro b
    rw [L_shift]
    simp only [spec_l2Order.j0, L_ite, L_const]
    rw [show ((0 : Int)) = ((0 : Nat) : Int) from rfl]
    rw [l2Order_l n l hn hl n 0 (by omega), ite_not_and]
    simp
  simp only [spec_l2Order.f, l1In_e, Option.bind_some, L_ite, hj]
  by_cases h8 : n ≤ 8
  · rw [if_pos (by rw [inB_iff]; omega)]
    simp only [h8, decide_true, Bool.true_and]
    congr 1
    by_cases hl2 : l.length = n
    · have e : ((l.length : Int) != (n : Int)) = false := by rw [hl2]; simp
      rw [e]
      simp only [Bool.not_false, Bool.true_and]
      by_cases h : ∀ j : Nat, j < n → (j : Int) ∈ l
      · rw [decide_eq_true h, orderB_iff.2 (isOrd_all hl2 h)]
      · rw [decide_eq_false h]
        symm
        rw [Bool.eq_false_iff]
        intro ho
        exact h (fun j hj => (orderB_iff.1 ho).mem.2 (by omega))
    · have e : ((l.length : Int) != (n : Int)) = true := by simp; omega
      rw [e]
      simp only [Bool.not_true, Bool.false_and]
      symm
      rw [Bool.eq_false_iff]
      intro ho
      exact hl2 (orderB_iff.1 ho).1
  · rw [if_neg (by rw [inB_iff]; omega)]
    simp [h8]
theorem isNumber_e (a n : Int) (h0 : -9223372036854775807 ≤ n) (h1 : n ≤ 9223372036854775807) : impl_isNumber.f a n = some (inB a 0 (n - 1)) := by
  simp only [impl_isNumber.f, within_e, Option.bind_some]
  rw [wrap_id (by omega) (by omega)]
theorem take_mid {α : Type} (pre : List α) (r : List α) : (pre ++ r).take (pre.length : Int).toNat = pre := by simp
theorem areDifferent_l (n : Nat) (hn : n ≤ 1048576) (r : List Int) : ∀ pre : List Int, (pre ++ r).length < 4611686018427387904 → L (fun k => impl_areDifferent.l0 k (n : Int) (pre ++ r) (pre ++ r) ((pre ++ r).length : Int) (pre.length : Int)) = some (diffB n pre r) := by
  induction r with
  | nil =>
    intro pre hb
    rw [L_shift]
    simp only [impl_areDifferent.l0, not_lt_end, if_false, L_const]
    simp [diffB]
  | cons x r ih =>
    intro pre hb
    rw [L_shift]
    have hl : pre.length < 4611686018427387904 := by simp at hb; omega
    have e : ((pre.length : Int) ≤ ((pre ++ x :: r).length : Int)) = True := eq_true (by simp; omega)
    simp only [impl_areDifferent.l0, lt_mid, le_nat, if_true, rd_mid, wrap_mid pre x hl, isNumber_e x (n : Int) (by omega) (by omega), Option.bind_some, e, take_mid, L_ite, L_bind, has_L pre x hl, L_const]
    rw [app_cons pre x r, ih (pre ++ [x]) (by simpa using hb), ite_not_and, ite_and]
    rfl
theorem areDifferent_L (n : Nat) (l : List Int) (hn : n ≤ 1048576) (hl : l.length < 4611686018427387904) : L (fun k => impl_areDifferent.f k (n : Int) l) = some (diffB n [] l) := areDifferent_l n hn l [] (by simpa using hl)
theorem isOrder_L (n : Nat) (l : List Int) (hn : n ≤ 1048576) (hl : l.length < 4611686018427387904) : L (fun k => impl_isOrder.f k (n : Int) l) = some (orderB n l) := by
  simp only [impl_isOrder.f, bind_self, L_ite, areDifferent_L n l hn hl, L_const, orderB]
  by_cases h : (l.length : Int) = n <;> simp [h]
def jobB (j : S38) : Bool := inB j.f0 1 50 && (inB j.f1 0 50 && (inB j.f2 0 500 && inB j.f3 0 500))
def goodB (l : List S38) : Bool := l.all jobB && decide ((l.length : Int) ≤ 8)
structure JobOk (j : S38) : Prop where
  t0 : 1 ≤ j.f0
  t1 : j.f0 ≤ 50
  w0 : 0 ≤ j.f1
  w1 : j.f1 ≤ 50
  r0 : 0 ≤ j.f2
  r1 : j.f2 ≤ 500
  d0 : 0 ≤ j.f3
  d1 : j.f3 ≤ 500
def Good (l : List S38) : Prop := l.length ≤ 8 ∧ ∀ j ∈ l, JobOk j
theorem goodB_iff {l : List S38} : goodB l = true ↔ Good l := by
  simp only [goodB, Good, Bool.and_eq_true, List.all_eq_true, decide_eq_true_eq, jobB, inB_iff]
  constructor
  · rintro ⟨h, hl⟩
    exact ⟨by omega, fun j hj => by
      obtain ⟨⟨a, b⟩, ⟨c, d⟩, ⟨e, f⟩, g, i⟩ := h j hj
      exact ⟨a, b, c, d, e, f, g, i⟩⟩
  · rintro ⟨hl, h⟩
    exact ⟨fun j hj => ⟨⟨(h j hj).t0, (h j hj).t1⟩, ⟨(h j hj).w0, (h j hj).w1⟩, ⟨(h j hj).r0, (h j hj).r1⟩, (h j hj).d0, (h j hj).d1⟩, by omega⟩
theorem l2Job_e (j : S38) : spec_l2Job.f j.f0 j.f1 j.f2 j.f3 = some (jobB j) := by
  simp only [spec_l2Job.f, l1In_e, Option.bind_some, ite_and, jobB]
theorem l2Good_l (r : List S38) : ∀ pre : List S38, (pre ++ r).length < 4611686018427387904 → L (fun k => spec_l2Good.l0 k (pre ++ r) (pre.length : Int)) = some (r.all jobB && decide (((pre ++ r).length : Int) ≤ 8)) := by
  induction r with
  | nil =>
    intro pre hb
    rw [L_shift]
    simp only [spec_l2Good.l0, not_lt_end, if_false, L_const]
    simp
  | cons x r ih =>
    intro pre hb
    rw [L_shift]
    have hl : pre.length < 4611686018427387904 := by simp at hb; omega
    have e : rd_T38 (pre ++ x :: r) (pre.length : Int) = x := getD_mid pre x r _
    simp only [spec_l2Good.l0, lt_mid, le_nat, if_true, e, wrap_mid pre x hl, l2Job_e, Option.bind_some, L_ite, L_const]
    rw [app_cons pre x r, ih (pre ++ [x]) (by simpa using hb), ite_and]
    rw [List.all_cons, Bool.and_assoc]
theorem l2Good_L (l : List S38) (h : l.length < 4611686018427387904) : L (fun k => spec_l2Good.f k l) = some (goodB l) := by
  have := l2Good_l l [] (by simpa using h)
  simpa [goodB, spec_l2Good.f] using this
theorem isDate_e (n : Int) : impl_isDate.f n = some (inB n 0 500) := by
  simp only [impl_isDate.f, within_e, Option.bind_some]
theorem IsJobs_l (r : List S38) : ∀ pre : List S38, (pre ++ r).length < 4611686018427387904 → L (fun k => impl_IsJobs.l0 k (pre ++ r) ((pre ++ r).length : Int) (pre.length : Int)) = some (r.all jobB) := by
  induction r with
  | nil =>
    intro pre hb
    rw [L_shift]
    simp only [impl_IsJobs.l0, not_lt_end, if_false, L_const]
    simp
  | cons x r ih =>
    intro pre hb
    rw [L_shift]
    have hl : pre.length < 4611686018427387904 := by simp at hb; omega
    have e : rd_T38 (pre ++ x :: r) (pre.length : Int) = x := getD_mid pre x r _
    simp only [impl_IsJobs.l0, lt_mid, le_nat, if_true, e, wrap_mid pre x hl, within_e, isDate_e, Option.bind_some, L_ite, L_const]
    rw [app_cons pre x r, ih (pre ++ [x]) (by simpa using hb)]
    simp only [ite_and, List.all_cons, jobB, Bool.and_assoc]
theorem IsJobs_L (l : List S38) (h : l.length < 4611686018427387904) : L (fun k => impl_IsJobs.f k l) = some (goodB l) := by
  have := IsJobs_l l [] (by simpa using h)
  simp only [List.nil_append, List.length_nil, Int.natCast_zero] at this
  simp only [impl_IsJobs.f, L_ite, L_const, this, goodB]
  by_cases h8 : (l.length : Int) ≤ 8
  · rw [if_neg (by omega)]
    simp [h8]
  · rw [if_pos (by omega)]
    simp [h8]
/-- Jobs and an order of them. -/
def schedB (l : List S38) (o : List Int) : Bool := goodB l && orderB l.length o
theorem isScheduled_L (l : List S38) (o : List Int) (h : l.length ≤ 1048576) (ho : o.length ≤ 1048576) : L (fun k => impl_isScheduled.f k l o) = some (schedB l o) := by
  simp only [impl_isScheduled.f, bind_self, L_bind, L_ite, L_const, IsJobs_L l (by omega), Option.bind_some, isOrder_L l.length o h (by omega), ite_and, schedB]
def jobAt (l : List S38) (x : Int) : S38 := l.getD x.toNat z38
theorem jobAt_mem {l : List S38} {x : Int} (h0 : 0 ≤ x) (h1 : x < l.length) : jobAt l x ∈ l := by
  unfold jobAt
  rw [List.getD_eq_getElem?_getD, List.getElem?_eq_getElem (by omega)]
  exact List.getElem_mem _
/-- The ends, put into out by the jobs' numbers. -/
def endsF (l : List S38) : List Int → List Int → Int → List Int
  | [], out, _ => out
  | x :: r, out, now => endsF l r (out.set x.toNat (max now (jobAt l x).f2 + (jobAt l x).f0)) (max now (jobAt l x).f2 + (jobAt l x).f0)
def startsF (l : List S38) : List Int → List Int → Int → List Int
  | [], out, _ => out
  | x :: r, out, now => startsF l r (out.set x.toNat (max now (jobAt l x).f2)) (max now (jobAt l x).f2 + (jobAt l x).f0)
def endsP (l : List S38) (o : List Int) : List Int := endsF l o (List.replicate l.length 0) 0
def startsP (l : List S38) (o : List Int) : List Int := startsF l o (List.replicate l.length 0) 0
theorem endsF_length (l : List S38) : ∀ (o out : List Int) (now : Int), (endsF l o out now).length = out.length
  | [], out, now => rfl
  | x :: r, out, now => by rw [endsF, endsF_length l r, List.length_set]
theorem startsF_length (l : List S38) : ∀ (o out : List Int) (now : Int), (startsF l o out now).length = out.length
  | [], out, now => rfl
  | x :: r, out, now => by rw [startsF, startsF_length l r, List.length_set]
theorem endsP_length (l : List S38) (o : List Int) : (endsP l o).length = l.length := by rw [endsP, endsF_length, List.length_replicate]
theorem startsP_length (l : List S38) (o : List Int) : (startsP l o).length = l.length := by rw [startsP, startsF_length, List.length_replicate]
theorem ends_starts (l : List S38) : ∀ (o E S : List Int) (now : Int), E.length = l.length → S.length = l.length → (∀ x ∈ o, 0 ≤ x ∧ x < (l.length : Int)) →
    ∀ j : Nat, j < l.length → ((j : Int) ∈ o ∨ E.getD j 0 = S.getD j 0 + (l.getD j z38).f0) → (endsF l o E now).getD j 0 = (startsF l o S now).getD j 0 + (l.getD j z38).f0
  | [], E, S, now, _, _, _, j, _, h => by
    rcases h with h | h
    · cases h
    · exact h
  | x :: r, E, S, now, hE, hS, hx, j, hj, h => by
    rw [endsF, startsF]
    refine ends_starts l r _ _ _ (by rw [List.length_set, hE]) (by rw [List.length_set, hS]) (fun y hy => hx y (List.mem_cons_of_mem _ hy)) j hj ?_
    have hx0 := hx x List.mem_cons_self
    by_cases hr : (j : Int) ∈ r
    · exact .inl hr
    · right
      rw [getD_set, getD_set, hE, hS]
      by_cases e : x.toNat = j
      · rw [if_pos ⟨e, hj⟩, if_pos ⟨e, hj⟩]
        unfold jobAt
        rw [e]
      · rw [if_neg (fun h => e h.1), if_neg (fun h => e h.1)]
        rcases h with h | h
        · rcases List.mem_cons.1 h with h | h
          · exact absurd (by omega) e
          · exact absurd h hr
        · exact h
theorem ends_bounds (l : List S38) (hg : Good l) : ∀ (o E : List Int) (now : Int), 0 ≤ now → now ≤ 500 + 50 * (8 - o.length : Int) → o.length ≤ 8 → (∀ x ∈ o, 0 ≤ x ∧ x < (l.length : Int)) → (∀ v ∈ E, 0 ≤ v ∧ v ≤ 900) → ∀ v ∈ endsF l o E now, 0 ≤ v ∧ v ≤ 900
  | [], E, now, _, _, _, _, hE => hE
  | x :: r, E, now, h0, h1, hl, hx, hE => by
    rw [endsF]
    have hx0 := hx x List.mem_cons_self
    have hj := hg.2 _ (jobAt_mem hx0.1 hx0.2)
    have a0 := hj.t0
    have a1 := hj.t1
    have a2 := hj.r0
    have a3 := hj.r1
    simp only [List.length_cons] at h1 hl
    refine ends_bounds l hg r _ _ (by omega) (by omega) (by omega) (fun y hy => hx y (List.mem_cons_of_mem _ hy)) (fun v hv => ?_)
    rcases List.mem_or_eq_of_mem_set hv with h | h
    · exact hE v h
    · rw [h]
      omega
theorem endsP_bounds {l : List S38} {o : List Int} (hg : Good l) (ho : IsOrd l.length o) : ∀ v ∈ endsP l o, 0 ≤ v ∧ v ≤ 900 :=
  ends_bounds l hg o _ 0 (by omega) (by have := ho.1; have := hg.1; omega) (by have := ho.1; have := hg.1; omega) ho.2.1 (fun v hv => by rw [(List.mem_replicate.1 hv).2]; omega)
theorem endsP_starts {l : List S38} {o : List Int} (ho : IsOrd l.length o) (j : Nat) (hj : j < l.length) : (endsP l o).getD j 0 = (startsP l o).getD j 0 + (l.getD j z38).f0 :=
  ends_starts l o _ _ 0 (by simp) (by simp) ho.2.1 j hj (.inl (ho.mem.2 ⟨by omega, by omega⟩))
theorem endsOf_l (l : List S38) (hg : Good l) (r : List Int) (hx : ∀ x ∈ r, 0 ≤ x ∧ x < (l.length : Int)) : ∀ (pre E : List Int) (now : Int), (pre ++ r).length < 4611686018427387904 → E.length = l.length → 0 ≤ now → now + 50 * r.length ≤ 900 → r.length ≤ 8 →
    L (fun k => impl_endsOf.l0 k l E now (pre ++ r) ((pre ++ r).length : Int) (pre.length : Int)) = some (endsF l r E now) := by
  induction r with
  | nil =>
    intro pre E now hb _ _ _ _
    rw [L_shift]
    simp only [impl_endsOf.l0, not_lt_end, if_false, L_const, endsF]
  | cons x r ih =>
    intro pre E now hb hE h0 h1 h2
    rw [L_shift]
    have hl : pre.length < 4611686018427387904 := by simp at hb; omega
    have hx0 := hx x List.mem_cons_self
    have hj := hg.2 _ (jobAt_mem hx0.1 hx0.2)
    have a0 := hj.t0
    have a1 := hj.t1
    have a2 := hj.r0
    have a3 := hj.r1
    simp only [List.length_cons] at h1 h2
    have e : rd_T38 l x = jobAt l x := rfl
    simp only [impl_endsOf.l0, lt_mid, le_nat, if_true, rd_mid, wrap_mid pre x hl, e, mx_e, if_pos hx0.1, if_pos hx0.2, if_pos (show x < (E.length : Int) by omega), wrap_id (show -9223372036854775808 ≤ max now (jobAt l x).f2 + (jobAt l x).f0 by omega) (show max now (jobAt l x).f2 + (jobAt l x).f0 ≤ 9223372036854775807 by omega)]
    rw [app_cons pre x r, endsF]
    exact ih (fun y hy => hx y (List.mem_cons_of_mem _ hy)) (pre ++ [x]) _ _ (by simpa using hb) (by rw [List.length_set, hE]) (by omega) (by omega) (by omega)
theorem endsOf_L (l : List S38) (o : List Int) (hg : Good l) (ho : IsOrd l.length o) : L (fun k => impl_endsOf.f k l o) = some (endsP l o) := by
  have h8 := hg.1
  have hl := ho.1
  simp only [impl_endsOf.f, le_nat, if_true, Int.toNat_natCast, if_pos (show l.length ≤ 35184372088832 by omega)]
  exact endsOf_l l hg o ho.2.1 [] _ 0 (by simp; omega) (by simp) (by omega) (by omega) (by omega)
theorem l2Starts_l (l : List S38) (hg : Good l) (r : List Int) (hx : ∀ x ∈ r, 0 ≤ x ∧ x < (l.length : Int)) : ∀ (pre E : List Int) (now : Int), (pre ++ r).length < 4611686018427387904 → E.length = l.length → 0 ≤ now → now + 50 * r.length ≤ 900 → r.length ≤ 8 →
    L (fun k => spec_l2Starts.l0 k l (pre ++ r) E now (pre.length : Int)) = some (startsF l r E now) := by
  induction r with
  | nil =>
    intro pre E now hb _ _ _ _
    rw [L_shift]
    simp only [spec_l2Starts.l0, not_lt_end, if_false, L_const, startsF]
  | cons x r ih =>
    intro pre E now hb hE h0 h1 h2
    rw [L_shift]
    have hl : pre.length < 4611686018427387904 := by simp at hb; omega
    have hx0 := hx x List.mem_cons_self
    have hj := hg.2 _ (jobAt_mem hx0.1 hx0.2)
    have a0 := hj.t0
    have a1 := hj.t1
    have a2 := hj.r0
    have a3 := hj.r1
    simp only [List.length_cons] at h1 h2
    have e : rd_T38 l x = jobAt l x := rfl
    have e2 : rd (E.set x.toNat (max now (jobAt l x).f2)) x = max now (jobAt l x).f2 := by
      show (E.set x.toNat (max now (jobAt l x).f2)).getD x.toNat 0 = _
      rw [getD_set, if_pos ⟨rfl, by omega⟩]
    simp only [spec_l2Starts.l0, lt_mid, le_nat, if_true, rd_mid, wrap_mid pre x hl, e, l1Most_e, Option.bind_some, e2, if_pos hx0.1, if_pos hx0.2, if_pos (show x < (E.length : Int) by omega), wrap_id (show -9223372036854775808 ≤ max now (jobAt l x).f2 + (jobAt l x).f0 by omega) (show max now (jobAt l x).f2 + (jobAt l x).f0 ≤ 9223372036854775807 by omega)]
    rw [app_cons pre x r, startsF]
    exact ih (fun y hy => hx y (List.mem_cons_of_mem _ hy)) (pre ++ [x]) _ _ (by simpa using hb) (by rw [List.length_set, hE]) (by omega) (by omega) (by omega)
theorem l2Starts_L (l : List S38) (o : List Int) (hg : Good l) (ho : IsOrd l.length o) : L (fun k => spec_l2Starts.f k l o) = some (startsP l o) := by
  have h8 := hg.1
  have hl := ho.1
  simp only [spec_l2Starts.f, le_nat, if_true, Int.toNat_natCast, if_pos (show l.length ≤ 35184372088832 by omega)]
  exact l2Starts_l l hg o ho.2.1 [] _ 0 (by simp; omega) (by simp) (by omega) (by omega) (by omega)
theorem l2Ends_l (l : List S38) (T : List Int) (hT : T.length = l.length) (hB : ∀ j : Nat, j < l.length → -1000000 ≤ T.getD j 0 + (l.getD j z38).f0 ∧ T.getD j 0 + (l.getD j z38).f0 ≤ 1000000) (h8 : l.length ≤ 8) : ∀ (d i : Nat) (S : List Int), i + d = l.length → S.length = l.length →
    (∀ j : Nat, j < l.length → S.getD j 0 = if j < i then T.getD j 0 + (l.getD j z38).f0 else T.getD j 0) →
    ∃ R : List Int, L (fun k => spec_l2Ends.l0 k l S (i : Int)) = some R ∧ R.length = l.length ∧ ∀ j : Nat, j < l.length → R.getD j 0 = T.getD j 0 + (l.getD j z38).f0
  | 0, i, S, hi, hS, h => by
    refine ⟨S, ?_, hS, fun j hj => by rw [h j hj, if_pos (by omega)]⟩
    rw [L_shift]
    simp only [spec_l2Ends.l0, if_neg (show ¬ (i : Int) < (l.length : Int) by omega), L_const]
  | d + 1, i, S, hi, hS, h => by
    rw [L_shift]
    have hb := hB i (by omega)
    have e1 : rd S (i : Int) = T.getD i 0 := by
      show S.getD (i : Int).toNat 0 = _
      rw [Int.toNat_natCast, h i (by omega), if_neg (by omega)]
    have e2 : rd_T38 l (i : Int) = l.getD i z38 := by
      show l.getD (i : Int).toNat z38 = _
      rw [Int.toNat_natCast]
    have e3 : wrap64 ((i : Int) + 1) = ((i + 1 : Nat) : Int) := by
      rw [wrap_id (by omega) (by omega)]
      omega
    simp only [spec_l2Ends.l0, if_pos (show (i : Int) < (l.length : Int) by omega), if_pos (show (i : Int) < (S.length : Int) by omega), le_nat, if_true, e1, e2, e3, Int.toNat_natCast, wrap_id (show -9223372036854775808 ≤ T.getD i 0 + (l.getD i z38).f0 by omega) (by omega)]
    refine l2Ends_l l T hT hB h8 d (i + 1) _ (by omega) (by rw [List.length_set, hS]) (fun j hj => ?_)
    rw [getD_set]
    by_cases e : i = j
    · subst e
      rw [if_pos ⟨rfl, by omega⟩, if_pos (by omega)]
    · rw [if_neg (fun h => e h.1), h j hj]
      by_cases hji : j < i
      · rw [if_pos hji, if_pos (by omega)]
      · rw [if_neg hji, if_neg (by omega)]
theorem l2Ends_L (l : List S38) (o : List Int) (hg : Good l) (ho : IsOrd l.length o) : L (fun k => spec_l2Ends.f k l o) = some (endsP l o) := by
  simp only [spec_l2Ends.f, L_bind, l2Starts_L l o hg ho, Option.bind_some]
  have hb := endsP_bounds hg ho
  obtain ⟨R, h1, h2, h3⟩ := l2Ends_l l (startsP l o) (startsP_length l o) (fun j hj => by
    rw [← endsP_starts ho j hj]
    have := hb _ (getD_mem (l := endsP l o) (j := j) (by rw [endsP_length]; exact hj))
    omega) hg.1 l.length 0 (startsP l o) (by omega) (startsP_length l o) (fun j hj => by rw [if_neg (by omega)])
  rw [show (0 : Int) = ((0 : Nat) : Int) from rfl, h1]
  congr 1
  refine ext_getD (by rw [h2, endsP_length]) (fun j hj => ?_)
  rw [h3 j (by omega), endsP_starts ho j (by omega)]
theorem mul_bd {w e : Int} (w0 : 0 ≤ w) (w1 : w ≤ 50) (e0 : 0 ≤ e) (e1 : e ≤ 2000) : 0 ≤ w * e ∧ w * e ≤ 100000 := by
  have h1 : w * e ≤ 50 * e := Int.mul_le_mul_of_nonneg_right w1 e0
  have h2 : 0 ≤ w * e := Int.mul_nonneg w0 e0
  omega
def plainB (l : List S38) : Bool := l.all (fun j => decide (j.f2 = 0))
theorem plainB_iff {l : List S38} : plainB l = true ↔ ∀ j ∈ l, j.f2 = 0 := by simp [plainB]
theorem isPlain_l (r : List S38) : ∀ pre : List S38, (pre ++ r).length < 4611686018427387904 → L (fun k => impl_isPlain.l0 k (pre ++ r) ((pre ++ r).length : Int) (pre.length : Int)) = some (plainB r) := by
  induction r with
  | nil =>
    intro pre hb
    rw [L_shift]
    simp only [impl_isPlain.l0, not_lt_end, if_false, L_const]
    rfl
  | cons x r ih =>
    intro pre hb
    rw [L_shift]
    have hl : pre.length < 4611686018427387904 := by simp at hb; omega
    have e : rd_T38 (pre ++ x :: r) (pre.length : Int) = x := getD_mid pre x r _
    simp only [impl_isPlain.l0, lt_mid, le_nat, if_true, e, wrap_mid pre x hl, L_ite, L_const]
    rw [app_cons pre x r, ih (pre ++ [x]) (by simpa using hb)]
    by_cases h : x.f2 = 0 <;> simp [h, plainB]
theorem isPlain_L (l : List S38) (h : l.length < 4611686018427387904) : L (fun k => impl_isPlain.f k l) = some (plainB l) := by
  have := isPlain_l l [] (by simpa using h)
  simpa [impl_isPlain.f] using this
theorem IsPlain_L (l : List S38) (h : l.length < 4611686018427387904) : L (fun k => impl_IsPlain.f k l) = some (goodB l && plainB l) := by
  simp only [impl_IsPlain.f, bind_self, L_bind, IsJobs_L l h, Option.bind_some, L_ite, isPlain_L l h, L_const, ite_and]
theorem l3Plain_l (r : List S38) : ∀ pre : List S38, (pre ++ r).length < 4611686018427387904 → L (fun k => spec_l3Plain.l0 k (pre ++ r) (pre.length : Int)) = some (plainB r) := by
  induction r with
  | nil =>
    intro pre hb
    rw [L_shift]
    simp only [spec_l3Plain.l0, not_lt_end, if_false, L_const]
    rfl
  | cons x r ih =>
    intro pre hb
    rw [L_shift]
    have hl : pre.length < 4611686018427387904 := by simp at hb; omega
    have e : rd_T38 (pre ++ x :: r) (pre.length : Int) = x := getD_mid pre x r _
    simp only [spec_l3Plain.l0, lt_mid, le_nat, if_true, e, wrap_mid pre x hl, L_ite, L_const]
    rw [app_cons pre x r, ih (pre ++ [x]) (by simpa using hb)]
    by_cases h : x.f2 = 0 <;> simp [h, plainB]
theorem l3Plain_L (l : List S38) (h : l.length < 4611686018427387904) : L (fun k => spec_l3Plain.f k l) = some (plainB l) := by
  have := l3Plain_l l [] (by simpa using h)
  simpa [spec_l3Plain.f] using this
theorem specIsPlain_L (l : List S38) (h : l.length < 4611686018427387904) : L (fun k => spec_IsPlain.f k l) = some (goodB l && plainB l) := by
  simp only [spec_IsPlain.f, bind_self, L_bind, l2Good_L l h, Option.bind_some, L_ite, l3Plain_L l h, L_const, ite_and]
theorem l1Least_e (a b : Int) : spec_l1Least.f a b = some (mn a b) := by
  unfold spec_l1Least.f mn
  by_cases h : a < b
  · rw [if_pos h, if_neg (by omega)]
  · rw [if_neg h]
    by_cases h2 : b < a
    · rw [if_pos h2]
    · rw [if_neg h2]
      congr 1
      omega
/-- The rule difference of two jobs. -/
def gapJ (obj : Int) (a b : S38) : Int := if obj = 1 then a.f2 - b.f2 else if obj = 2 then a.f0 - b.f0 else if obj = 3 then a.f0 * b.f1 - b.f0 * a.f1 else a.f3 - b.f3
/-- The rule difference by the jobs' numbers. -/
def gapI (l : List S38) (obj x y : Int) : Int := gapJ obj (jobAt l x) (jobAt l y)
theorem insL_perm (out : List Int) (k : Nat) (x : Int) : (impl_sortedBy.insL out k x).Perm (x :: out) := by
  unfold impl_sortedBy.insL
  have h : (out.take k ++ x :: out.drop k).Perm (x :: (out.take k ++ out.drop k)) := List.perm_middle
  rwa [List.take_append_drop] at h
/-- Sooner: by date, then by number. -/
def dueQ (l : List S38) (a b : Int) : Bool := decide ((jobAt l a).f3 < (jobAt l b).f3) || (decide ((jobAt l a).f3 = (jobAt l b).f3) && decide (a < b))
theorem ruled_l (n : Nat) (hn : n ≤ 1000) : ∀ (d : Nat) (i : Nat), i + d = n → L (fun k => impl_numbersTo.l0 k (n : Int) (numsTo i) (i : Int)) = some (numsTo n)
  | 0, i, hd => by
    rw [L_shift]
    have : i = n := by omega
    subst this
    simp only [impl_numbersTo.l0, Int.lt_irrefl, if_false, L_const]
  | d + 1, i, hd => by
    rw [L_shift]
    have ih := ruled_l n hn d (i + 1) (by omega)
    rw [numsTo_succ] at ih
    simp only [impl_numbersTo.l0, if_pos (show (i : Int) < (n : Int) by omega), if_pos (show (numsTo i).length < 17592186044416 by rw [numsTo_length]; omega), wrap_id (show -9223372036854775808 ≤ (i : Int) + 1 by omega) (show (i : Int) + 1 ≤ 9223372036854775807 by omega)]
    exact ih
theorem wf_u8 {y : Int} (h : (Lit.int .u8 y).wf = true) : 0 ≤ y ∧ y < 256 := by
  have h1 : (decide (IntKind.u8.min ≤ y) && decide (y ≤ IntKind.u8.max)) = true := h
  rw [Bool.and_eq_true, decide_eq_true_eq, decide_eq_true_eq] at h1
  have e1 : IntKind.u8.min = 0 := rfl
  have e2 : IntKind.u8.max = 255 := rfl
  omega
theorem u64_rng (n : Int) : 0 ≤ IntKind.u64.wrap n ∧ IntKind.u64.wrap n < 18446744073709551616 := by
  rw [IntKind.wrap_u64]
  omega
theorem u64_255 (x : Int) (h0 : 0 ≤ x) (h1 : x < 18446744073709551616) : Go.bits .and .u64 x 255 = x % 256 :=
  bits_mask .u64 64 (by decide) (fun n h0 h1 => by rw [IntKind.wrap_u64]; have : (2 : Int) ^ 64 = 18446744073709551616 := rfl; omega) 8 (by decide) x h0 (by have : (2 : Int) ^ 64 = 18446744073709551616 := rfl; omega)
theorem curByte (X : Int) : ∃ v, wrap64 (Go.bits .and .u64 (IntKind.u64.wrap X / 1099511627776) 255) = v ∧ 0 ≤ v ∧ v ≤ 255 := by
  have h := u64_rng X
  generalize IntKind.u64.wrap X = Y at h
  rw [u64_255 (Y / 1099511627776) (by omega) (by omega)]
  exact ⟨(Y / 1099511627776) % 256, wrap_id (by omega) (by omega), by omega, by omega⟩
/-- Bytes. -/
def Byt (c : List Int) : Prop := c.length ≤ 100000 ∧ ∀ y ∈ c, 0 ≤ y ∧ y < 256
theorem cur_next (c : List Int) (hc : Byt c) (a s : Int) (h0 : 0 ≤ a) (h1 : a ≤ 1000000000) : ∃ v s', spec_l1Cur_next.f c a s = some (v, a + 1, s') ∧ 0 ≤ v ∧ v ≤ 255 := by
  have e1 : wrap64 (a + 1) = a + 1 := wrap_id (by omega) (by omega)
  by_cases hl : a < (c.length : Int)
  · have hm : rd c a ∈ c := getD_mem (by omega)
    have hv := hc.2 _ hm
    have e2 : wrap64 (rd c a) = rd c a := wrap_id (by omega) (by omega)
    obtain ⟨s', hs'⟩ : ∃ s', spec_l1Cur_next.f c a s = some (rd c a, a + 1, s') := by
      rw [spec_l1Cur_next.f, if_pos hl, if_pos h0, e1, if_pos (show a + 1 ≤ (c.length : Int) by omega), e2]
      exact ⟨_, rfl⟩
    exact ⟨rd c a, s', hs', hv.1, by omega⟩
  · obtain ⟨v, e, v0, v1⟩ := curByte (IntKind.u64.wrap ((IntKind.u64.wrap (s * 6364136223846793005)) + 0) + 462197)
    obtain ⟨s', hs'⟩ : ∃ s', spec_l1Cur_next.f c a s = some (v, a + 1, s') := by
      rw [spec_l1Cur_next.f, if_neg hl, e1, if_neg (show ¬ a + 1 ≤ (c.length : Int) by omega), e]
      exact ⟨_, rfl⟩
    exact ⟨v, s', hs', v0, v1⟩
theorem cur_pick (c : List Int) (hc : Byt c) (a s n : Int) (h0 : 0 ≤ a) (h1 : a ≤ 900000000) : ∃ r a' s', spec_l1Cur_pick.f c a s n = some (r, a', s') ∧ 0 ≤ r ∧ (r < n ∨ r = 0 ∧ n ≤ 1) ∧ a ≤ a' ∧ a' ≤ a + 2 := by
  by_cases hn : n ≤ 1
  · exact ⟨0, a, s, by rw [spec_l1Cur_pick.f, if_pos hn], by omega, .inr ⟨rfl, hn⟩, by omega, by omega⟩
  · obtain ⟨v, s1, e1, v0, v1⟩ := cur_next c hc a s h0 (by omega)
    by_cases hb : n > 200
    · obtain ⟨u, s2, e2, u0, u1⟩ := cur_next c hc (a + 1) s1 (by omega) (by omega)
      have e3 : wrap64 (wrap64 (v * 256) + u) = v * 256 + u := by rw [wrap_id (n := v * 256) (by omega) (by omega), wrap_id (by omega) (by omega)]
      refine ⟨Int.tmod (v * 256 + u) n, a + 1 + 1, s2, ?_, Int.tmod_nonneg _ (by omega), .inl (Int.tmod_lt_of_pos _ (by omega)), by omega, by omega⟩
      rw [spec_l1Cur_pick.f, if_neg hn, e1, Option.bind_some]
      simp only [if_pos hb, e2, Option.bind_some, if_neg (show ¬ n = 0 by omega), e3]
    · refine ⟨Int.tmod v n, a + 1, s1, ?_, Int.tmod_nonneg _ v0, .inl (Int.tmod_lt_of_pos _ (by omega)), by omega, by omega⟩
      rw [spec_l1Cur_pick.f, if_neg hn, e1, Option.bind_some]
      simp only [if_neg hb, if_neg (show ¬ n = 0 by omega)]
theorem cur_one (c : List Int) (hc : Byt c) (a s n : Int) (h0 : 0 ≤ a) (h1 : a ≤ 900000000) : ∃ b a' s', spec_l1Cur_one.f c a s n = some (b, a', s') ∧ a ≤ a' ∧ a' ≤ a + 2 := by
  obtain ⟨r, a', s', e, _, _, h2, h3⟩ := cur_pick c hc a s n h0 h1
  exact ⟨r == 0, a', s', by rw [spec_l1Cur_one.f, e, Option.bind_some], h2, h3⟩
theorem cur_among (c : List Int) (hc : Byt c) (l : List Int) (hl : 0 < l.length) (a s : Int) (h0 : 0 ≤ a) (h1 : a ≤ 900000000) : ∃ z a' s', spec_l1Cur_among.f c a s l = some (z, a', s') ∧ z ∈ l ∧ a ≤ a' ∧ a' ≤ a + 2 := by
  obtain ⟨r, a', s', e, r0, r1, h2, h3⟩ := cur_pick c hc a s (l.length : Int) h0 h1
  have hr : r < (l.length : Int) := by omega
  refine ⟨rd l r, a', s', ?_, getD_mem (by omega), h2, h3⟩
  rw [spec_l1Cur_among.f, e, Option.bind_some]
  simp only [if_pos r0, if_pos hr]
theorem cur_job (c : List Int) (hc : Byt c) (a s : Int) (b : Bool) (h0 : 0 ≤ a) (h1 : a ≤ 800000000) : ∃ t w r d a' s', spec_l1Cur_job.f c a s b = some (t, w, r, d, a', s') ∧ a ≤ a' ∧ a' ≤ a + 8 := by
  obtain ⟨t, a1, s1, e1, _, p1, q1⟩ := cur_among c hc [1, 2, 3, 4, 5, 7, 9] (by decide) a s h0 (by omega)
  obtain ⟨w, a2, s2, e2, _, p2, q2⟩ := cur_among c hc [0, 1, 1, 2, 3, 5, 8] (by decide) a1 s1 (by omega) (by omega)
  obtain ⟨d, a3, s3, e3, _, _, p3, q3⟩ := cur_pick c hc a2 s2 24 (by omega) (by omega)
  cases b with
  | false =>
    refine ⟨t, w, 0, d, a3, s3, ?_, by omega, by omega⟩
    simp only [spec_l1Cur_job.f, e1, e2, e3, Option.bind_some, Bool.false_eq_true, if_false]
  | true =>
    obtain ⟨r, a4, s4, e4, _, _, p4, q4⟩ := cur_pick c hc a3 s3 12 (by omega) (by omega)
    refine ⟨t, w, r, d, a4, s4, ?_, by omega, by omega⟩
    simp only [spec_l1Cur_job.f, e1, e2, e3, e4, Option.bind_some, if_true]
theorem cur_spoilt (c : List Int) (hc : Byt c) (a s : Int) (x0 x1 x2 x3 : Int) (h0 : 0 ≤ a) (h1 : a ≤ 800000000) : ∃ t w r d a' s', spec_l1Cur_spoiltJob.f c a s x0 x1 x2 x3 = some (t, w, r, d, a', s') ∧ a ≤ a' ∧ a' ≤ a + 4 := by
  obtain ⟨p, a1, s1, e1, _, _, p1, q1⟩ := cur_pick c hc a s 4 h0 (by omega)
  obtain ⟨z1, b1, t1, f1, _, g1, k1⟩ := cur_among c hc [0, 50, 51, (-1), 4611686018427387904] (by decide) a1 s1 (by omega) (by omega)
  obtain ⟨z2, b2, t2, f2, _, g2, k2⟩ := cur_among c hc [(-1), 50, 51] (by decide) a1 s1 (by omega) (by omega)
  obtain ⟨z3, b3, t3, f3, _, g3, k3⟩ := cur_among c hc [(-1), 500, 501] (by decide) a1 s1 (by omega) (by omega)
  obtain ⟨z4, b4, t4, f4, _, g4, k4⟩ := cur_among c hc [(-1), 500, 501, (-9223372036854775808)] (by decide) a1 s1 (by omega) (by omega)
  by_cases c0 : p = 0
  · exact ⟨z1, x1, x2, x3, b1, t1, by rw [spec_l1Cur_spoiltJob.f, e1, Option.bind_some]; simp only [if_pos c0, f1, Option.bind_some], by omega, by omega⟩
  · by_cases c1 : p = 1
    · exact ⟨x0, z2, x2, x3, b2, t2, by rw [spec_l1Cur_spoiltJob.f, e1, Option.bind_some]; simp only [if_neg c0, if_pos c1, f2, Option.bind_some], by omega, by omega⟩
    · by_cases c2 : p = 2
      · exact ⟨x0, x1, z3, x3, b3, t3, by rw [spec_l1Cur_spoiltJob.f, e1, Option.bind_some]; simp only [if_neg c0, if_neg c1, if_pos c2, f3, Option.bind_some], by omega, by omega⟩
      · exact ⟨x0, x1, x2, z4, b4, t4, by rw [spec_l1Cur_spoiltJob.f, e1, Option.bind_some]; simp only [if_neg c0, if_neg c1, if_neg c2, f4, Option.bind_some], by omega, by omega⟩
theorem cur_sj_l1 (c : List Int) (hc : Byt c) (b : Bool) : ∀ (d : Nat) (J : List S38) (a s : Int), J.length + d = 9 → 0 ≤ a → a + 8 * (d : Int) ≤ 800000000 → ∃ J' a' s', L (fun k => spec_l1Cur_someJobs.l1 k b J c a s) = some (J', a', s') ∧ J'.length = 9 ∧ a ≤ a' ∧ a' ≤ a + 8 * (d : Int)
  | 0, J, a, s, hd, h0, h1 => by
    refine ⟨J, a, s, ?_, by omega, by omega, by omega⟩
    rw [L_shift]
    simp only [spec_l1Cur_someJobs.l1, if_neg (show ¬ ((J.length : Int) < 9) by omega), L_const]
  | d + 1, J, a, s, hd, h0, h1 => by
    obtain ⟨t, w, r, u, a1, s1, e1, p1, q1⟩ := cur_job c hc a s b h0 (by omega)
    obtain ⟨J', a2, s2, e2, l2, p2, q2⟩ := cur_sj_l1 c hc b d (J ++ [⟨t, w, r, u⟩]) a1 s1 (by simp; omega) (by omega) (by omega)
    refine ⟨J', a2, s2, ?_, l2, by omega, by omega⟩
    rw [L_shift]
    simp only [spec_l1Cur_someJobs.l1, if_pos (show (J.length : Int) < 9 by omega), e1, Option.bind_some, if_pos (show J.length < 4398046511104 by omega), e2]
theorem cur_sj_j5 (c : List Int) (hc : Byt c) (b : Bool) (J : List S38) (a s : Int) (hJ : J.length ≤ 9) (h0 : 0 ≤ a) (h1 : a ≤ 700000000) : ∃ J' a' s', L (fun k => spec_l1Cur_someJobs.j5 k b J c a s) = some (J', a', s') ∧ J'.length ≤ 9 ∧ a ≤ a' ∧ a' ≤ a + 80 := by
  obtain ⟨x, a1, s1, e1, p1, q1⟩ := cur_one c hc a s 60 h0 (by omega)
  obtain ⟨J', a2, s2, e2, l2, p2, q2⟩ := cur_sj_l1 c hc b (9 - J.length) J a1 s1 (by omega) (by omega) (by omega)
  cases x with
  | false =>
    refine ⟨J, a1, s1, ?_, hJ, by omega, by omega⟩
    rw [L_shift]
    simp only [spec_l1Cur_someJobs.j5, e1, Option.bind_some, Bool.false_eq_true, if_false, L_const]
  | true =>
    refine ⟨J', a2, s2, ?_, by omega, by omega, by omega⟩
    rw [L_shift]
    simp only [spec_l1Cur_someJobs.j5, e1, Option.bind_some, if_true, e2]
theorem cur_sj_j4 (c : List Int) (hc : Byt c) (b : Bool) (J : List S38) (x : Bool) (a s : Int) (hJ : J.length ≤ 9) (hx : x = true → 0 < J.length) (h0 : 0 ≤ a) (h1 : a ≤ 600000000) : ∃ J' a' s', L (fun k => spec_l1Cur_someJobs.j4 k b J x c a s) = some (J', a', s') ∧ J'.length ≤ 9 ∧ a ≤ a' ∧ a' ≤ a + 90 := by
  cases x with
  | false =>
    obtain ⟨J', a2, s2, e2, l2, p2, q2⟩ := cur_sj_j5 c hc b J a s hJ h0 (by omega)
    refine ⟨J', a2, s2, ?_, l2, by omega, by omega⟩
    rw [L_shift]
    simp only [spec_l1Cur_someJobs.j4, Bool.false_eq_true, if_false, e2]
  | true =>
    have hp := hx rfl
    obtain ⟨p, a1, s1, e1, r0, r1, p1, q1⟩ := cur_pick c hc a s (J.length : Int) h0 (by omega)
    have hpl : p < (J.length : Int) := by omega
    obtain ⟨t, w, r, u, a3, s3, e3, p3, q3⟩ := cur_spoilt c hc a1 s1 (rd_T38 J p).f0 (rd_T38 J p).f1 (rd_T38 J p).f2 (rd_T38 J p).f3 (by omega) (by omega)
    obtain ⟨J', a2, s2, e2, l2, p2, q2⟩ := cur_sj_j5 c hc b (J.set p.toNat ⟨t, w, r, u⟩) a3 s3 (by rw [List.length_set]; exact hJ) (by omega) (by omega)
    refine ⟨J', a2, s2, ?_, l2, by omega, by omega⟩
    rw [L_shift]
    simp only [spec_l1Cur_someJobs.j4, if_true, e1, Option.bind_some, if_pos r0, if_pos hpl, e3, e2]
theorem cur_sj_j3 (c : List Int) (hc : Byt c) (b : Bool) (J : List S38) (a s : Int) (hJ : J.length ≤ 9) (h0 : 0 ≤ a) (h1 : a ≤ 500000000) : ∃ J' a' s', L (fun k => spec_l1Cur_someJobs.j3 k b J c a s) = some (J', a', s') ∧ J'.length ≤ 9 ∧ a ≤ a' ∧ a' ≤ a + 100 := by
  by_cases hp : (J.length : Int) > 0
  · obtain ⟨x, a1, s1, e1, p1, q1⟩ := cur_one c hc a s 20 h0 (by omega)
    obtain ⟨J', a2, s2, e2, l2, p2, q2⟩ := cur_sj_j4 c hc b J x a1 s1 hJ (fun _ => by omega) (by omega) (by omega)
    refine ⟨J', a2, s2, ?_, l2, by omega, by omega⟩
    rw [L_shift]
    simp only [spec_l1Cur_someJobs.j3, if_pos hp, e1, Option.bind_some, e2]
  · obtain ⟨J', a2, s2, e2, l2, p2, q2⟩ := cur_sj_j4 c hc b J false a s hJ (fun h => by cases h) h0 (by omega)
    refine ⟨J', a2, s2, ?_, l2, by omega, by omega⟩
    rw [L_shift]
    simp only [spec_l1Cur_someJobs.j3, if_neg hp, e2]
theorem cur_sj_l0 (c : List Int) (hc : Byt c) (b : Bool) (m : Int) : ∀ (d : Nat) (J : List S38) (a s : Int), J.length + d ≤ 9 → 0 ≤ a → a + 8 * (d : Int) ≤ 400000000 → ∃ J' a' s', L (fun k => spec_l1Cur_someJobs.l0 k b m J (d : Int) c a s) = some (J', a', s') ∧ J'.length ≤ 9 ∧ a ≤ a' ∧ a' ≤ a + 8 * (d : Int) + 100
  | 0, J, a, s, hd, h0, h1 => by
    obtain ⟨J', a2, s2, e2, l2, p2, q2⟩ := cur_sj_j3 c hc b J a s (by omega) h0 (by omega)
    refine ⟨J', a2, s2, ?_, l2, by omega, by omega⟩
    rw [L_shift]
    simp only [spec_l1Cur_someJobs.l0, if_neg (show ¬ (((0 : Nat) : Int) > 0) by omega), e2]
  | d + 1, J, a, s, hd, h0, h1 => by
    by_cases hm : (J.length : Int) < m
    · obtain ⟨t, w, r, u, a1, s1, e1, p1, q1⟩ := cur_job c hc a s b h0 (by omega)
      obtain ⟨J', a2, s2, e2, l2, p2, q2⟩ := cur_sj_l0 c hc b m d (J ++ [⟨t, w, r, u⟩]) a1 s1 (by simp; omega) (by omega) (by omega)
      refine ⟨J', a2, s2, ?_, l2, by omega, by omega⟩
      have ew : wrap64 (((d + 1 : Nat) : Int) - 1) = (d : Int) := by rw [wrap_id (by omega) (by omega)]; omega
      rw [L_shift]
      simp only [spec_l1Cur_someJobs.l0, if_pos (show (((d + 1 : Nat) : Int) > 0) by omega), if_pos hm, e1, Option.bind_some, if_pos (show J.length < 4398046511104 by omega), ew, e2]
    · obtain ⟨J', a2, s2, e2, l2, p2, q2⟩ := cur_sj_j3 c hc b J a s (by omega) h0 (by omega)
      refine ⟨J', a2, s2, ?_, l2, by omega, by omega⟩
      rw [L_shift]
      simp only [spec_l1Cur_someJobs.l0, if_pos (show (((d + 1 : Nat) : Int) > 0) by omega), if_neg hm, e2]
theorem cur_someJobs (c : List Int) (hc : Byt c) (b : Bool) (m : Int) (hm : m ≤ 8) (a s : Int) (h0 : 0 ≤ a) (h1 : a ≤ 300000000) : ∃ J' a' s', L (fun k => spec_l1Cur_someJobs.f k c a s b m) = some (J', a', s') ∧ J'.length ≤ 9 ∧ a ≤ a' ∧ a' ≤ a + 200 := by
  obtain ⟨z, a1, s1, e1, hz, p1, q1⟩ := cur_among c hc [3, 4, 5, 2, 6, 1, 0] (by decide) a s h0 (by omega)
  have hz2 : 0 ≤ z ∧ z ≤ 6 := by
    simp only [List.mem_cons, List.not_mem_nil, or_false] at hz
    omega
  have hj1 : ∀ (n : Nat) (a s : Int), n ≤ 8 → 0 ≤ a → a ≤ 300000100 → ∃ J' a' s', L (fun k => spec_l1Cur_someJobs.j1 k b m [] (n : Int) c a s) = some (J', a', s') ∧ J'.length ≤ 9 ∧ a ≤ a' ∧ a' ≤ a + 170 := fun n a s hn h0 h1 => by
    obtain ⟨J', a2, s2, e2, l2, p2, q2⟩ := cur_sj_l0 c hc b m n [] a s (by simp; omega) h0 (by omega)
    refine ⟨J', a2, s2, ?_, l2, by omega, by omega⟩
    rw [L_shift]
    simp only [spec_l1Cur_someJobs.j1, e2]
  have hj0 : ∀ (x : Bool) (a s : Int), 0 ≤ a → a ≤ 300000050 → ∃ J' a' s', L (fun k => spec_l1Cur_someJobs.j0 k b m [] z x c a s) = some (J', a', s') ∧ J'.length ≤ 9 ∧ a ≤ a' ∧ a' ≤ a + 180 := fun x a s h0 h1 => by
    cases x with
    | false =>
      obtain ⟨J', a2, s2, e2, l2, p2, q2⟩ := hj1 z.toNat a s (by omega) h0 (by omega)
      rw [Int.toNat_of_nonneg hz2.1] at e2
      refine ⟨J', a2, s2, ?_, l2, by omega, by omega⟩
      rw [L_shift]
      simp only [spec_l1Cur_someJobs.j0, Bool.false_eq_true, if_false, e2]
    | true =>
      obtain ⟨p, a3, s3, e3, r0, r1, p3, q3⟩ := cur_pick c hc a s 2 h0 (by omega)
      have ew : wrap64 (7 + p) = ((7 + p.toNat : Nat) : Int) := by rw [wrap_id (by omega) (by omega)]; omega
      obtain ⟨J', a2, s2, e2, l2, p2, q2⟩ := hj1 (7 + p.toNat) a3 s3 (by omega) (by omega) (by omega)
      refine ⟨J', a2, s2, ?_, l2, by omega, by omega⟩
      rw [L_shift]
      simp only [spec_l1Cur_someJobs.j0, if_true, e3, Option.bind_some, ew, e2]
  by_cases h6 : m > 6
  · obtain ⟨x, a3, s3, e3, p3, q3⟩ := cur_one c hc a1 s1 6 (by omega) (by omega)
    obtain ⟨J', a2, s2, e2, l2, p2, q2⟩ := hj0 x a3 s3 (by omega) (by omega)
    refine ⟨J', a2, s2, ?_, l2, by omega, by omega⟩
    simp only [spec_l1Cur_someJobs.f, Option.bind_some, e1, if_pos h6, e3, e2]
  · obtain ⟨J', a2, s2, e2, l2, p2, q2⟩ := hj0 false a1 s1 (by omega) (by omega)
    refine ⟨J', a2, s2, ?_, l2, by omega, by omega⟩
    simp only [spec_l1Cur_someJobs.f, Option.bind_some, e1, if_neg h6, e2]
theorem cur_jobs (c : List Int) (hc : Byt c) (a s : Int) (h0 : 0 ≤ a) (h1 : a ≤ 200000000) : ∃ J' a' s', L (fun k => spec_l1Cur_jobs.f k c a s) = some (J', a', s') ∧ J'.length ≤ 9 ∧ a ≤ a' ∧ a' ≤ a + 210 := by
  obtain ⟨x, a1, s1, e1, p1, q1⟩ := cur_one c hc a s 2 h0 (by omega)
  obtain ⟨J', a2, s2, e2, l2, p2, q2⟩ := cur_someJobs c hc x 6 (by omega) a1 s1 (by omega) (by omega)
  refine ⟨J', a2, s2, ?_, l2, by omega, by omega⟩
  simp only [spec_l1Cur_jobs.f, e1, Option.bind_some, L_bind, e2, L_const]
theorem cur_p3_l (c : List Int) (hc : Byt c) : ∀ (d i : Nat) (J : List S38) (a s : Int), i + d = J.length → J.length ≤ 9 → 0 ≤ a → a + 2 * (d : Int) ≤ 300000000 → ∃ J' a' s', L (fun k => spec_l1Cur_plain3.l0 k J (i : Int) c a s) = some (J', a', s') ∧ J'.length = J.length ∧ a ≤ a' ∧ a' ≤ a + 2 * (d : Int)
  | 0, i, J, a, s, hd, hJ, h0, h1 => by
    refine ⟨J, a, s, ?_, rfl, by omega, by omega⟩
    rw [L_shift]
    simp only [spec_l1Cur_plain3.l0, if_neg (show ¬ ((i : Int) < (J.length : Int)) by omega), L_const]
  | d + 1, i, J, a, s, hd, hJ, h0, h1 => by
    have ew : wrap64 ((i : Int) + 1) = ((i + 1 : Nat) : Int) := by rw [wrap_id (by omega) (by omega)]; omega
    have ew2 : wrap64 ((i : Int) - 1) = (i : Int) - 1 := wrap_id (by omega) (by omega)
    have again := fun (J2 : List S38) (a2 s2 : Int) (hl : J2.length = J.length) (ha : 0 ≤ a2) (hb : a2 + 2 * (d : Int) ≤ 300000000) => cur_p3_l c hc d (i + 1) J2 a2 s2 (by omega) (by omega) ha hb
    by_cases hi : (i : Int) > 0
    · obtain ⟨x, a1, s1, e1, p1, q1⟩ := cur_one c hc a s 3 h0 (by omega)
      cases x with
      | false =>
        obtain ⟨J', a2, s2, e2, l2, p2, q2⟩ := again (J.set (i : Int).toNat ⟨(rd_T38 J (i : Int)).f0, (rd_T38 J (i : Int)).f1, 0, (rd_T38 J (i : Int)).f3⟩) a1 s1 (by rw [List.length_set]) (by omega) (by omega)
        refine ⟨J', a2, s2, ?_, by rw [l2, List.length_set], by omega, by omega⟩
        rw [L_shift]
        simp only [spec_l1Cur_plain3.l0, if_pos (show (i : Int) < (J.length : Int) by omega), le_nat, if_true, Option.bind_some, if_pos hi, e1, Bool.false_eq_true, if_false, ew, e2]
      | true =>
        have again2 := fun (J2 : List S38) (hl : J2.length = J.length) => again J2 a1 s1 hl (by omega) (by omega)
        rw [L_shift]
        simp only [spec_l1Cur_plain3.l0, if_pos (show (i : Int) < (J.length : Int) by omega), le_nat, if_true, Option.bind_some, if_pos hi, e1, ew2, if_pos (show (0 : Int) ≤ (i : Int) - 1 by omega), if_pos (show (i : Int) - 1 < (J.length : Int) by omega), ew]
        generalize hJ3 : List.set (List.set (List.set J (i : Int).toNat _) (i : Int).toNat _) (i : Int).toNat _ = J3
        have hl3 : J3.length = J.length := by rw [← hJ3]; simp
        obtain ⟨J', a2, s2, e2, l2, p2, q2⟩ := again2 J3 hl3
        exact ⟨J', a2, s2, e2, by rw [l2, hl3], by omega, by omega⟩
    · obtain ⟨J', a2, s2, e2, l2, p2, q2⟩ := again (J.set (i : Int).toNat ⟨(rd_T38 J (i : Int)).f0, (rd_T38 J (i : Int)).f1, 0, (rd_T38 J (i : Int)).f3⟩) a s (by rw [List.length_set]) h0 (by omega)
      refine ⟨J', a2, s2, ?_, by rw [l2, List.length_set], by omega, by omega⟩
      rw [L_shift]
      simp only [spec_l1Cur_plain3.l0, if_pos (show (i : Int) < (J.length : Int) by omega), le_nat, if_true, Option.bind_some, if_neg hi, ew, e2]
theorem cur_plain3 (c : List Int) (hc : Byt c) (a s : Int) (h0 : 0 ≤ a) (h1 : a ≤ 100000000) : ∃ J' a' s', L (fun k => spec_l1Cur_plain3.f k c a s) = some (J', a', s') ∧ J'.length ≤ 9 ∧ a ≤ a' ∧ a' ≤ a + 240 := by
  obtain ⟨J, a1, s1, e1, l1, p1, q1⟩ := cur_jobs c hc a s h0 (by omega)
  obtain ⟨x, a2, s2, e2, p2, q2⟩ := cur_one c hc a1 s1 24 (by omega) (by omega)
  cases x with
  | true =>
    refine ⟨J, a2, s2, ?_, l1, by omega, by omega⟩
    simp only [spec_l1Cur_plain3.f, L_bind, e1, Option.bind_some, e2, L_const, if_true]
  | false =>
    obtain ⟨J', a3, s3, e3, l3, p3, q3⟩ := cur_p3_l c hc J.length 0 J a2 s2 (by omega) l1 (by omega) (by omega)
    have e0 : ((0 : Nat) : Int) = 0 := rfl
    rw [e0] at e3
    refine ⟨J', a3, s3, ?_, by omega, by omega, by omega⟩
    simp only [spec_l1Cur_plain3.f, L_bind, e1, Option.bind_some, e2, L_const, Bool.false_eq_true, if_false, e3]
theorem cur_t3_l (c : List Int) (hc : Byt c) : ∀ (d i : Nat) (J : List S38) (v a s : Int), i + d = J.length → J.length ≤ 9 → 0 ≤ v → v + 50 * (d : Int) ≤ 100000 → 0 ≤ a → a + 4 * (d : Int) ≤ 300000000 → ∃ J' a' s', L (fun k => spec_l1Cur_tight3.l0 k J v (i : Int) c a s) = some (J', a', s') ∧ J'.length = J.length ∧ a ≤ a' ∧ a' ≤ a + 4 * (d : Int)
  | 0, i, J, v, a, s, hd, hJ, v0, v1, h0, h1 => by
    refine ⟨J, a, s, ?_, rfl, by omega, by omega⟩
    rw [L_shift]
    simp only [spec_l1Cur_tight3.l0, if_neg (show ¬ ((i : Int) < (J.length : Int)) by omega), L_const]
  | d + 1, i, J, v, a, s, hd, hJ, v0, v1, h0, h1 => by
    have ew : wrap64 ((i : Int) + 1) = ((i + 1 : Nat) : Int) := by rw [wrap_id (by omega) (by omega)]; omega
    have ht : 0 ≤ max 0 (mn (rd_T38 J (i : Int)).f0 50) ∧ max 0 (mn (rd_T38 J (i : Int)).f0 50) ≤ 50 := by
      unfold mn
      split <;> omega
    have e5 : spec_l1Least.f (rd_T38 J (i : Int)).f0 50 = some (mn (rd_T38 J (i : Int)).f0 50) := l1Least_e _ _
    have e6 : spec_l1Most.f 0 (mn (rd_T38 J (i : Int)).f0 50) = some (max 0 (mn (rd_T38 J (i : Int)).f0 50)) := l1Most_e _ _
    generalize max 0 (mn (rd_T38 J (i : Int)).f0 50) = u at ht e6
    have e7 : wrap64 (v + u) = v + u := wrap_id (by omega) (by omega)
    obtain ⟨x, a1, s1, e1, p1, q1⟩ := cur_one c hc a s 6 h0 (by omega)
    have hil : (i : Int) < (J.length : Int) := by omega
    cases x with
    | true =>
      obtain ⟨J', a2, s2, e2, l2, p2, q2⟩ := cur_t3_l c hc d (i + 1) J (v + u) a1 s1 (by omega) hJ (by omega) (by omega) (by omega) (by omega)
      refine ⟨J', a2, s2, ?_, l2, by omega, by omega⟩
      rw [L_shift]
      simp only [spec_l1Cur_tight3.l0, if_pos hil, le_nat, if_true, e5, e6, Option.bind_some, e1, e7, ew, e2]
    | false =>
      obtain ⟨p, a3, s3, e3, _, _, p3, q3⟩ := cur_pick c hc a1 s1 (wrap64 (v + u + 3)) (by omega) (by omega)
      obtain ⟨J', a2, s2, e2, l2, p2, q2⟩ := cur_t3_l c hc d (i + 1) (J.set (i : Int).toNat ⟨(rd_T38 J (i : Int)).f0, (rd_T38 J (i : Int)).f1, (rd_T38 J (i : Int)).f2, mn 500 p⟩) (v + u) a3 s3 (by rw [List.length_set]; omega) (by rw [List.length_set]; exact hJ) (by omega) (by omega) (by omega) (by omega)
      refine ⟨J', a2, s2, ?_, by rw [l2, List.length_set], by omega, by omega⟩
      rw [L_shift]
      simp only [spec_l1Cur_tight3.l0, if_pos hil, le_nat, if_true, e5, e6, Option.bind_some, e1, e7, Bool.false_eq_true, if_false, e3, l1Least_e, ew, e2]
theorem cur_tight3 (c : List Int) (hc : Byt c) (a s : Int) (h0 : 0 ≤ a) (h1 : a ≤ 90000000) : ∃ J' a' s', L (fun k => spec_l1Cur_tight3.f k c a s) = some (J', a', s') ∧ J'.length ≤ 9 ∧ a ≤ a' ∧ a' ≤ a + 300 := by
  obtain ⟨J, a1, s1, e1, l1, p1, q1⟩ := cur_plain3 c hc a s h0 (by omega)
  obtain ⟨J', a3, s3, e3, l3, p3, q3⟩ := cur_t3_l c hc J.length 0 J 0 a1 s1 (by omega) l1 (by omega) (by omega) (by omega) (by omega)
  have e0 : ((0 : Nat) : Int) = 0 := rfl
  rw [e0] at e3
  refine ⟨J', a3, s3, ?_, by omega, by omega, by omega⟩
  simp only [spec_l1Cur_tight3.f, L_bind, e1, Option.bind_some, e3]
theorem cur_order_go (c : List Int) (hc : Byt c) : ∀ (d i : Nat) (out : List Int) (a s : Int), 0 ≤ a → a + 2 * (d : Int) ≤ 800000000 → out.length + d ≤ 1000 → ∃ O a' s', spec_l1Cur_order.go c d i out a s = some (O, a', s') ∧ O.length = out.length + d ∧ a ≤ a' ∧ a' ≤ a + 2 * (d : Int)
  | 0, i, out, a, s, h0, h1, hl => ⟨out, a, s, rfl, rfl, by omega, by omega⟩
  | d + 1, i, out, a, s, h0, h1, hl => by
    obtain ⟨p, a1, s1, e1, r0, r1, p1, q1⟩ := cur_pick c hc a s ((out.length : Int) + 1) h0 (by omega)
    have hp : 0 ≤ p ∧ p ≤ (out.length : Int) := by omega
    have hlen : (out.take p.toNat ++ (i : Int) :: out.drop p.toNat).length = out.length + 1 := by simp; omega
    obtain ⟨O, a2, s2, e2, l2, p2, q2⟩ := cur_order_go c hc d (i + 1) (out.take p.toNat ++ (i : Int) :: out.drop p.toNat) a1 s1 (by omega) (by omega) (by omega)
    refine ⟨O, a2, s2, ?_, by omega, by omega, by omega⟩
    rw [spec_l1Cur_order.go, e1, Option.bind_some]
    simp only [if_pos hp]
    exact e2
theorem cur_order (c : List Int) (hc : Byt c) (a s n : Int) (hn0 : 0 ≤ n) (hn : n ≤ 100) (h0 : 0 ≤ a) (h1 : a ≤ 700000000) : ∃ O a' s', spec_l1Cur_order.f c a s n = some (O, a', s') ∧ O.length ≤ 200 ∧ a ≤ a' ∧ a' ≤ a + 300 := by
  obtain ⟨O, a1, s1, e1, l1, p1, q1⟩ := cur_order_go c hc n.toNat 0 [] a s h0 (by omega) (by simp; omega)
  obtain ⟨x, a2, s2, e2, p2, q2⟩ := cur_one c hc a1 s1 30 (by omega) (by omega)
  obtain ⟨z, a3, s3, e3, _, p3, q3⟩ := cur_among c hc [0, n, -1] (by simp) a2 s2 (by omega) (by omega)
  simp only [List.length_nil] at l1
  cases x with
  | false =>
    refine ⟨O, a2, s2, ?_, by omega, by omega, by omega⟩
    simp only [spec_l1Cur_order.f, if_pos (show n ≤ 1000 by omega), e1, Option.bind_some, e2, Bool.false_eq_true, if_false]
  | true =>
    refine ⟨O ++ [z], a3, s3, ?_, by simp; omega, by omega, by omega⟩
    simp only [spec_l1Cur_order.f, if_pos (show n ≤ 1000 by omega), e1, Option.bind_some, e2, if_true, e3]
theorem vCut_L (c : List Int) (hc : Byt c) (hl : c.length ≤ 70000) (n : Int) (hn : 0 ≤ n) : ∃ c', laws_vCut.f c n = some c' ∧ Byt c' := by
  have key : ∀ m : Int, 0 ≤ m → m ≤ (c.length : Int) → Byt (c.drop m.toNat ++ [m % 256]) := fun m h0 h1 => by
    refine ⟨by simp; omega, fun y hy => ?_⟩
    rcases List.mem_append.1 hy with h | h
    · exact hc.2 y (List.mem_of_mem_drop h)
    · rw [List.mem_singleton] at h
      omega
  by_cases hb : n > (c.length : Int)
  · refine ⟨_, ?_, key (c.length : Int) (by omega) (by omega)⟩
    simp only [laws_vCut.f, if_pos hb, Option.bind_some, le_nat, if_true, List.nil_append, List.length_nil, Nat.zero_add, if_pos (show (c.length : Int) ≤ (c.length : Int) by omega)]
    rw [if_pos (by simp), if_pos (by simp)]
  · refine ⟨_, ?_, key n hn (by omega)⟩
    simp only [laws_vCut.f, if_neg hb, Option.bind_some, if_pos hn, List.nil_append, List.length_nil, Nat.zero_add, if_pos (show n ≤ (c.length : Int) by omega)]
    rw [if_pos (by simp; omega), if_pos (by simp; omega)]
theorem draw_slacks (c : List Int) (hc : Byt c) : ∃ J O Z, L (fun k => spec_DrawSlacksOf.f k c) = some (J, O, Z) ∧ J.length ≤ 9 ∧ O.length ≤ 200 := by
  obtain ⟨J, a1, s1, e1, l1, p1, q1⟩ := cur_tight3 c hc 0 0 (by omega) (by omega)
  obtain ⟨O, a2, s2, e2, l2, p2, q2⟩ := cur_order c hc a1 s1 (J.length : Int) (by omega) (by omega) (by omega) (by omega)
  obtain ⟨z, a3, s3, e3, _, p3, q3⟩ := cur_among c hc [0, 1, 5, 20, 500, 501, -1] (by simp) a2 s2 (by omega) (by omega)
  refine ⟨J, O, z, ?_, l1, l2⟩
  simp only [spec_DrawSlacksOf.f, L_bind, e1, Option.bind_some, e2, e3, L_const]
theorem draw_stretched (c : List Int) (hc : Byt c) : ∃ J Z, L (fun k => spec_DrawStretchedJobs.f k c) = some (J, Z) ∧ J.length ≤ 9 := by
  obtain ⟨J, a1, s1, e1, l1, p1, q1⟩ := cur_jobs c hc 0 0 (by omega) (by omega)
  obtain ⟨z, a3, s3, e3, _, p3, q3⟩ := cur_among c hc [1, 2, 3, 5, 10, 11, 0] (by simp) a1 s1 (by omega) (by omega)
  refine ⟨J, z, ?_, l1⟩
  simp only [spec_DrawStretchedJobs.f, L_bind, e1, Option.bind_some, e3, L_const]
/-- The least of some numbers' values. -/
def slH (V : Int → Int) : Int → List Int → Int
  | x, [] => V x
  | x, y :: r => min (V x) (slH V y r)
theorem slH_le (V : Int → Int) : ∀ (r : List Int) (x : Int), ∀ y ∈ x :: r, slH V x r ≤ V y
  | [], x, y, hy => by
    rw [List.mem_singleton] at hy
    rw [hy, slH]
    exact Int.le_refl _
  | z :: r, x, y, hy => by
    rw [slH]
    rcases List.mem_cons.1 hy with rfl | hy
    · omega
    · have := slH_le V r z y hy
      omega
theorem slH_at (V : Int → Int) : ∀ (r : List Int) (x : Int), ∃ y ∈ x :: r, slH V x r = V y
  | [], x => ⟨x, List.mem_cons_self, rfl⟩
  | z :: r, x => by
    obtain ⟨y, hy, e⟩ := slH_at V r z
    rw [slH]
    by_cases h : V x ≤ slH V z r
    · exact ⟨x, List.mem_cons_self, by omega⟩
    · exact ⟨y, List.mem_cons_of_mem _ hy, by omega⟩
def slV (l : List S38) (o : List Int) (lim : Int) (x : Int) : Int := lim + (jobAt l x).f3 - (endsP l o).getD x.toNat 0
theorem slV_bd (l : List S38) (hg : Good l) (o : List Int) (ho : IsOrd l.length o) (lim : Int) (h0 : 0 ≤ lim) (h1 : lim ≤ 500) (x : Int) (hx : 0 ≤ x ∧ x < (l.length : Int)) : ∃ e d : Int, rd (endsP l o) x = e ∧ (rd_T38 l x).f3 = d ∧ slV l o lim x = lim + d - e ∧ 0 ≤ e ∧ e ≤ 900 ∧ 0 ≤ d ∧ d ≤ 500 := by
  have hm := getD_mem (l := endsP l o) (j := x.toNat) (by rw [endsP_length]; omega)
  have hb := endsP_bounds hg ho _ hm
  have hj := hg.2 _ (jobAt_mem hx.1 hx.2)
  exact ⟨_, _, rfl, rfl, rfl, hb.1, hb.2, hj.d0, hj.d1⟩
theorem sl_w {lim d e : Int} (h0 : 0 ≤ lim) (h1 : lim ≤ 500) (b1 : 0 ≤ e) (b2 : e ≤ 900) (b3 : 0 ≤ d) (b4 : d ≤ 500) : wrap64 (wrap64 (lim + d) - e) = lim + d - e := by rw [wrap_id (n := lim + d) (by omega) (by omega), wrap_id (by omega) (by omega)]
theorem mn_min (a b : Int) : mn a b = min a b := by
  unfold mn
  split <;> omega
theorem slk_same : ∀ (k : Nat) (l : List S38) (o : List Int) (lim : Int) (out ends : List Int) (i : Int), spec_SlacksOf.l0 k l o lim out ends i = impl_SlacksOf.l0 k l o lim ends out i
  | 0, l, o, lim, out, ends, i => rfl
  | k + 1, l, o, lim, out, ends, i => by
    simp only [spec_SlacksOf.l0, impl_SlacksOf.l0, l1Least_e, Option.bind_some, slk_same k]
theorem slk_upd (V : Int → Int) (o out : List Int) (n : Nat) (x v : Int) (hn : n + 1 ≤ o.length) (hout : out.length = o.length) (hx : o.getD n 0 = x) (hV : V x = v) (hv : ∀ j : Nat, n + 1 ≤ j → j < o.length → out.getD j 0 = slH V (o.getD j 0) (o.drop (j + 1))) (hc : n + 1 < o.length) (j : Nat) (j0 : n ≤ j) (j1 : j < o.length) : ((out.set n v).set n (mn (rd (out.set n v) (n : Int)) (rd (out.set n v) ((n : Int) + 1)))).getD j 0 = slH V (o.getD j 0) (o.drop (j + 1)) := by
  by_cases hjn : j = n
  · subst hjn
    have hdr : o.drop (j + 1) = o.getD (j + 1) 0 :: o.drop (j + 2) := by
      rw [List.drop_eq_getElem_cons (by omega), List.getD_eq_getElem?_getD, List.getElem?_eq_getElem (by omega)]
      rfl
    have hv1 := hv (j + 1) (by omega) (by omega)
    have r1 : rd (out.set j v) (j : Int) = v := by
      show (out.set j v).getD (j : Int).toNat 0 = _
      rw [Int.toNat_natCast, getD_set, if_pos ⟨rfl, by omega⟩]
    have r2 : rd (out.set j v) ((j : Int) + 1) = out.getD (j + 1) 0 := by
      show (out.set j v).getD ((j : Int) + 1).toNat 0 = _
      rw [show ((j : Int) + 1).toNat = j + 1 by omega, getD_set, if_neg (by omega)]
    rw [getD_set, if_pos ⟨rfl, by rw [List.length_set]; omega⟩, hx, hdr, slH, hV]
    simp only [r1, r2, hv1]
    exact mn_min _ _
  · rw [getD_set, if_neg (by omega), getD_set, if_neg (by omega)]
    exact hv j (by omega) j1
theorem slk_upd2 (V : Int → Int) (o out : List Int) (n : Nat) (x v : Int) (hn : n + 1 ≤ o.length) (hout : out.length = o.length) (hx : o.getD n 0 = x) (hV : V x = v) (hc : ¬ n + 1 < o.length) (j : Nat) (j0 : n ≤ j) (j1 : j < o.length) : (out.set n v).getD j 0 = slH V (o.getD j 0) (o.drop (j + 1)) := by
  obtain rfl : j = n := by omega
  rw [getD_set, if_pos ⟨rfl, by omega⟩, hx, List.drop_eq_nil_of_le (by omega), slH, hV]
theorem slk_def (l : List S38) (hg : Good l) (o : List Int) (ho : IsOrd l.length o) (lim : Int) (h0 : 0 ≤ lim) (h1 : lim ≤ 500) : ∀ (n : Nat) (out : List Int), n ≤ o.length → out.length = o.length → (∀ j : Nat, n ≤ j → j < o.length → out.getD j 0 = slH (slV l o lim) (o.getD j 0) (o.drop (j + 1))) →
    ∃ R : List Int, L (fun k => impl_SlacksOf.l0 k l o lim (endsP l o) out ((n : Int) - 1)) = some (R, true) ∧ R.length = o.length ∧ ∀ j : Nat, j < o.length → R.getD j 0 = slH (slV l o lim) (o.getD j 0) (o.drop (j + 1))
  | 0, out, hn, hout, hv => ⟨out, by
      rw [L_shift]
      simp only [impl_SlacksOf.l0, if_neg (show ¬ (((0 : Nat) : Int) - 1 ≥ 0) by omega), L_const], hout, fun j hj => hv j (by omega) hj⟩
  | n + 1, out, hn, hout, hv => by
    have h8 := ho.1
    have h88 := hg.1
    obtain ⟨x, hx⟩ : ∃ x, o.getD n 0 = x := ⟨_, rfl⟩
    have hxm : x ∈ o := hx ▸ getD_mem (by omega)
    have hm := ho.2.1 x hxm
    have er : rd o (n : Int) = x := by rw [← hx]; show o.getD (n : Int).toNat 0 = _; rw [Int.toNat_natCast]
    have e0 : (((n + 1 : Nat) : Int) - 1) = (n : Int) := by omega
    have ew1 : wrap64 ((n : Int) + 1) = (n : Int) + 1 := wrap_id (by omega) (by omega)
    have ew2 : wrap64 ((n : Int) - 1) = (n : Int) - 1 := wrap_id (by omega) (by omega)
    have c1 : (n : Int) ≥ 0 := by omega
    have c2 : (0 : Int) ≤ (n : Int) := by omega
    have c3 : (n : Int) < (o.length : Int) := by omega
    have c4 : x < ((endsP l o).length : Int) := by rw [endsP_length]; exact hm.2
    have c5 : (n : Int) < (out.length : Int) := by omega
    have c6 : (0 : Int) ≤ (n : Int) + 1 := by omega
    have c7 : (n : Int) + 1 < (o.length : Int) → (n : Int) + 1 < (out.length : Int) := by omega
    have c8 : n ≤ o.length := by omega
    have c9 : (n : Int) + 1 < (o.length : Int) → n + 1 < o.length := by omega
    have c10 : ¬ (n : Int) + 1 < (o.length : Int) → ¬ n + 1 < o.length := by omega
    obtain ⟨e, d, he, hd, hV, b1, b2, b3, b4⟩ := slV_bd l hg o ho lim h0 h1 x hm
    have ew : wrap64 (wrap64 (lim + d) - e) = lim + d - e := sl_w h0 h1 b1 b2 b3 b4
    rw [L_shift]
    simp only [e0, impl_SlacksOf.l0, ew1, ew2, if_pos c1, if_pos c2, if_pos c3, er, if_pos hm.1, if_pos hm.2, if_pos c4, if_pos c5, he, hd, ew, Option.bind_some, Int.toNat_natCast]
    by_cases hc : (n : Int) + 1 < (o.length : Int)
    · simp only [if_pos hc, if_pos c6, if_pos (c7 hc)]
      exact slk_def l hg o ho lim h0 h1 n _ c8 (by simp [hout]) (slk_upd (slV l o lim) o out n x _ hn hout hx hV hv (c9 hc))
    · simp only [if_neg hc]
      exact slk_def l hg o ho lim h0 h1 n _ c8 (by simp [hout]) (slk_upd2 (slV l o lim) o out n x _ hn hout hx hV (c10 hc))
theorem slk_both (l : List S38) (o : List Int) (lim : Int) (h : l.length ≤ 1048576) (ho : o.length ≤ 1048576) :
    ∃ (R : List Int) (b : Bool), L (fun k => spec_SlacksOf.f k l o lim) = some (R, b) ∧ L (fun k => impl_SlacksOf.f k l o lim) = some (R, b) ∧ R.length ≤ 1048576 ∧ (b = true → Good l ∧ IsOrd l.length o ∧ 0 ≤ lim ∧ lim ≤ 500 ∧ R.length = o.length ∧ ∀ j : Nat, j < o.length → R.getD j 0 = slH (slV l o lim) (o.getD j 0) (o.drop (j + 1))) := by
  have hs : ∀ b, L (fun k => spec_SlacksOf.j0 k l o lim b) = if b = true then some ([], false) else if 0 ≤ (o.length : Int) then (if o.length ≤ 35184372088832 then (L (fun k => spec_l2Ends.f k l o)).bind (fun t => L (fun k => spec_SlacksOf.l0 k l o lim (List.replicate o.length 0) t (wrap64 ((o.length : Int) - 1)))) else none) else none := fun b => by
    rw [L_shift]
    simp only [spec_SlacksOf.j0, L_ite, L_const, L_bind, Int.toNat_natCast]
  have hi : ∀ b, L (fun k => impl_SlacksOf.j0 k l o lim b) = if b = true then some ([], false) else (L (fun k => impl_endsOf.f k l o)).bind (fun t => if 0 ≤ (o.length : Int) then (if o.length ≤ 35184372088832 then L (fun k => impl_SlacksOf.l0 k l o lim t (List.replicate o.length 0) (wrap64 ((o.length : Int) - 1))) else none) else none) := fun b => by
    rw [L_shift]
    simp only [impl_SlacksOf.j0, L_ite, L_const, L_bind, Int.toNat_natCast]
  simp only [spec_SlacksOf.f, impl_SlacksOf.f, L_bind, specIsPlain_L l (by omega), IsPlain_L l (by omega), Option.bind_some, L_ite, l2Order_L l.length o h (by omega), isOrder_L l.length o h (by omega), l1In_e, isDate_e, hs, hi]
  cases hg : goodB l with
  | false => exact ⟨[], false, by simp, by simp, by simp, fun h => by cases h⟩
  | true =>
    cases hp : plainB l with
    | false => exact ⟨[], false, by simp, by simp, by simp, fun h => by cases h⟩
    | true =>
      have hgood := goodB_iff.1 hg
      cases hord : orderB l.length o with
      | false => exact ⟨[], false, by simp, by simp, by simp, fun h => by cases h⟩
      | true =>
        have hord2 := orderB_iff.1 hord
        cases hd : inB lim 0 500 with
        | false => exact ⟨[], false, by simp [hgood.1], by simp, by simp, fun h => by cases h⟩
        | true =>
          have hlim := inB_iff.1 hd
          obtain ⟨R, h1, h2, h3⟩ := slk_def l hgood o hord2 lim hlim.1 hlim.2 o.length (List.replicate o.length 0) (Nat.le_refl _) (by simp) (fun j a b => by omega)
          refine ⟨R, true, ?_, ?_, by omega, fun _ => ⟨hgood, hord2, hlim.1, hlim.2, h2, h3⟩⟩
          · simp only [hgood.1, decide_true, Bool.and_self, if_true, Bool.not_true, Bool.false_eq_true, if_false, l2Ends_L l o hgood hord2, Option.bind_some, slk_same]
            rw [if_pos (by omega), if_pos (by omega), wrap_id (by omega) (by omega), h1]
          · simp only [Bool.and_self, if_true, Bool.not_true, Bool.false_eq_true, if_false, endsOf_L l o hgood hord2, Option.bind_some]
            rw [if_pos (by omega), if_pos (by omega), wrap_id (by omega) (by omega), h1]
def stJ (f : Int) (j : S38) : S38 := ⟨f * j.f0, j.f1, f * j.f2, f * j.f3⟩
theorem st_bd (f : Int) (h0 : 1 ≤ f) (h1 : f ≤ 10) (j : S38) (hj : JobOk j) : (0 ≤ f * j.f0 ∧ f * j.f0 ≤ 500) ∧ (0 ≤ f * j.f2 ∧ f * j.f2 ≤ 5000) ∧ (0 ≤ f * j.f3 ∧ f * j.f3 ≤ 5000) := by
  have t0 := hj.t0
  have t1 := hj.t1
  have r0 := hj.r0
  have r1 := hj.r1
  have d0 := hj.d0
  have d1 := hj.d1
  have hf : f = 1 ∨ f = 2 ∨ f = 3 ∨ f = 4 ∨ f = 5 ∨ f = 6 ∨ f = 7 ∨ f = 8 ∨ f = 9 ∨ f = 10 := by omega
  rcases hf with rfl | rfl | rfl | rfl | rfl | rfl | rfl | rfl | rfl | rfl <;> omega
theorem st_impl_l (l : List S38) (hg : Good l) (f : Int) (h0 : 1 ≤ f) (h1 : f ≤ 10) : ∀ (r pre out : List S38), l = pre ++ r → out = pre.map (stJ f) → L (fun k => impl_StretchedJobs.l0 k f out l (l.length : Int) (pre.length : Int)) = some (if goodB (l.map (stJ f)) = true then (l.map (stJ f), true) else ([], false))
  | [], pre, out, e, ho => by
    rw [List.append_nil] at e
    subst e
    have h8 := hg.1
    rw [L_shift]
    simp only [impl_StretchedJobs.l0, Int.lt_irrefl, if_false, L_bind, ho, IsJobs_L (l.map (stJ f)) (show (l.map (stJ f)).length < 4611686018427387904 by simp; omega), Option.bind_some, L_ite, L_const]
    cases goodB (l.map (stJ f)) <;> rfl
  | j :: r, pre, out, e, ho => by
    have h8 := hg.1
    have hl : l.length = pre.length + (r.length + 1) := by rw [e]; simp
    have er : rd_T38 l (pre.length : Int) = j := by rw [e]; exact getD_mid pre j r z38
    have ew : wrap64 ((pre.length : Int) + 1) = ((pre ++ [j]).length : Int) := wrap_mid pre j (by omega)
    obtain ⟨b1, b2, b3⟩ := st_bd f h0 h1 j (hg.2 j (by rw [e]; simp))
    have w1 : wrap64 (f * j.f0) = f * j.f0 := wrap_id (by omega) (by omega)
    have w2 : wrap64 (f * j.f2) = f * j.f2 := wrap_id (by omega) (by omega)
    have w3 : wrap64 (f * j.f3) = f * j.f3 := wrap_id (by omega) (by omega)
    have c1 : (pre.length : Int) < (l.length : Int) := by omega
    have c2 : out.length < 4398046511104 := by rw [ho, List.length_map]; omega
    have ih := st_impl_l l hg f h0 h1 r (pre ++ [j]) (out ++ [stJ f j]) (by rw [e]; simp) (by rw [ho]; simp)
    rw [L_shift]
    simp only [impl_StretchedJobs.l0, if_pos c1, le_nat, if_true, er, w1, w2, w3, if_pos c2, ew]
    exact ih
theorem st_spec_l (l : List S38) (hg : Good l) (f : Int) (h0 : 1 ≤ f) (h1 : f ≤ 10) : ∀ (r pre out : List S38), l = pre ++ r → out = pre.map (stJ f) → L (fun k => spec_StretchedJobs.l0 k l f out (pre.length : Int)) = some (if goodB (l.map (stJ f)) = true then (l.map (stJ f), true) else ([], false))
  | [], pre, out, e, ho => by
    rw [List.append_nil] at e
    subst e
    have h8 := hg.1
    rw [L_shift]
    simp only [spec_StretchedJobs.l0, Int.lt_irrefl, if_false, L_bind, ho, l2Good_L (l.map (stJ f)) (show (l.map (stJ f)).length < 4611686018427387904 by simp; omega), Option.bind_some, L_ite, L_const]
    cases goodB (l.map (stJ f)) <;> rfl
  | j :: r, pre, out, e, ho => by
    have h8 := hg.1
    have hl : l.length = pre.length + (r.length + 1) := by rw [e]; simp
    have er : rd_T38 l (pre.length : Int) = j := by rw [e]; exact getD_mid pre j r z38
    have ew : wrap64 ((pre.length : Int) + 1) = ((pre ++ [j]).length : Int) := wrap_mid pre j (by omega)
    obtain ⟨b1, b2, b3⟩ := st_bd f h0 h1 j (hg.2 j (by rw [e]; simp))
    have w1 : wrap64 (j.f0 * f) = f * j.f0 := by rw [Int.mul_comm]; exact wrap_id (by omega) (by omega)
    have w2 : wrap64 (j.f2 * f) = f * j.f2 := by rw [Int.mul_comm]; exact wrap_id (by omega) (by omega)
    have w3 : wrap64 (j.f3 * f) = f * j.f3 := by rw [Int.mul_comm]; exact wrap_id (by omega) (by omega)
    have c1 : (pre.length : Int) < (l.length : Int) := by omega
    have c2 : out.length < 4398046511104 := by rw [ho, List.length_map]; omega
    have ih := st_spec_l l hg f h0 h1 r (pre ++ [j]) (out ++ [stJ f j]) (by rw [e]; simp) (by rw [ho]; simp)
    rw [L_shift]
    simp only [spec_StretchedJobs.l0, if_pos c1, le_nat, if_true, er, w1, w2, w3, if_pos c2, ew]
    exact ih
theorem st_both (l : List S38) (f : Int) (h : l.length ≤ 1048576) : ∃ (Y : List S38) (b : Bool), L (fun k => impl_StretchedJobs.f k l f) = some (Y, b) ∧ L (fun k => spec_StretchedJobs.f k l f) = some (Y, b) ∧ Y.length ≤ 8 ∧ (b = true → Good l ∧ 1 ≤ f ∧ f ≤ 10 ∧ Y = l.map (stJ f) ∧ Good Y) := by
  have hi : ∀ b, L (fun k => impl_StretchedJobs.j0 k l f b) = if b = true then some ([], false) else L (fun k => impl_StretchedJobs.l0 k f [] l (l.length : Int) 0) := fun b => by
    rw [L_shift]
    simp only [impl_StretchedJobs.j0, L_ite, L_const]
  have hs : ∀ b, L (fun k => spec_StretchedJobs.j0 k l f [] b) = if b = true then some ([], false) else L (fun k => spec_StretchedJobs.l0 k l f [] 0) := fun b => by
    rw [L_shift]
    simp only [spec_StretchedJobs.j0, L_ite, L_const]
  simp only [impl_StretchedJobs.f, spec_StretchedJobs.f, L_bind, L_const, Option.bind_some, IsJobs_L l (show l.length < 4611686018427387904 by omega), l2Good_L l (show l.length < 4611686018427387904 by omega), within_e, l1In_e, L_ite, hi, hs]
  cases hg : goodB l with
  | false => exact ⟨[], false, by simp, by simp, by simp, fun h => by cases h⟩
  | true =>
    have hgd := goodB_iff.1 hg
    cases hf : inB f 1 10 with
    | false => exact ⟨[], false, by simp, by simp, by simp, fun h => by cases h⟩
    | true =>
      have hfb := inB_iff.1 hf
      have e1 := st_impl_l l hgd f hfb.1 hfb.2 l [] [] rfl rfl
      have e2 := st_spec_l l hgd f hfb.1 hfb.2 l [] [] rfl rfl
      simp only [List.length_nil, Int.natCast_zero] at e1 e2
      simp only [if_true, Bool.not_true, Bool.false_eq_true, if_false, e1, e2]
      cases hy : goodB (l.map (stJ f)) with
      | false => exact ⟨[], false, by simp, by simp, by simp, fun h => by cases h⟩
      | true => exact ⟨l.map (stJ f), true, by simp, by simp, by have := hgd.1; simpa using this, fun _ => ⟨hgd, hfb.1, hfb.2, rfl, goodB_iff.1 hy⟩⟩
theorem insK_some (p : Int → Int → Option Bool) (x : Int) (out : List Int) (hp : ∀ y ∈ out, ∃ r, p x y = some r) : ∀ n, n ≤ out.length → ∃ k, impl_sortedBy.insK p x out n = some k
  | 0, _ => ⟨0, rfl⟩
  | n + 1, hn => by
    have hm : rd out (n : Int) ∈ out := by
      have := getD_mem (l := out) (j := n) (by omega)
      show out.getD (n : Int).toNat 0 ∈ out
      rw [Int.toNat_natCast]
      exact this
    obtain ⟨b, hb⟩ := hp _ hm
    simp only [impl_sortedBy.insK, hb, Option.bind_some]
    by_cases hq : b = true
    · rw [if_pos hq]
      exact insK_some p x out hp n (by omega)
    · rw [if_neg hq]
      exact ⟨n + 1, rfl⟩
theorem sortO_some (p : Int → Int → Option Bool) (P : Int → Prop) (hp : ∀ a b, P a → P b → ∃ r, p a b = some r) : ∀ l out : List Int, (∀ x ∈ l, P x) → (∀ x ∈ out, P x) → ∃ s, impl_sortedBy.sortO p l out = some s ∧ s.length = out.length + l.length
  | [], out, _, _ => ⟨out, rfl, rfl⟩
  | x :: l, out, hl, ho => by
    obtain ⟨k, hk⟩ := insK_some p x out (fun y hy => hp x y (hl x List.mem_cons_self) (ho y hy)) out.length (Nat.le_refl _)
    have hpm := insL_perm out k x
    obtain ⟨s, h1, h2⟩ := sortO_some p P hp l (impl_sortedBy.insL out k x) (fun y hy => hl y (List.mem_cons_of_mem _ hy)) (fun y hy => by
      rcases List.mem_cons.1 (hpm.subset hy) with rfl | hy
      · exact hl _ List.mem_cons_self
      · exact ho y hy)
    have hle := hpm.length_eq
    simp only [List.length_cons] at hle
    refine ⟨s, ?_, by simp only [List.length_cons]; omega⟩
    simp only [impl_sortedBy.sortO, hk, Option.bind_some]
    exact h1
theorem fsRuled_L (l : List S38) (t : Int) (h : l.length ≤ 1048576) : L (fun k => impl_isRuled.f k l t) = some (goodB l && (decide (t = 1) || (inB t 2 4 && plainB l))) := by
  simp only [impl_isRuled.f, L_bind, IsJobs_L l (show l.length < 4611686018427387904 by omega), Option.bind_some, L_ite, within_e, isPlain_L l (show l.length < 4611686018427387904 by omega), L_const]
  cases goodB l with
  | false => simp
  | true =>
    by_cases h1 : t = 1
    · simp [h1]
    · cases inB t 2 4 <;> simp [h1]
theorem diff_st (f : Int) (h0 : 1 ≤ f) (h1 : f ≤ 10) (a b : S38) (ha : JobOk a) (hb : JobOk b) (t : Int) : (impl_ruledOrder_1.d (stJ f a) (stJ f b) t).map (fun d => decide (d < 0)) = (impl_ruledOrder_1.d a b t).map (fun d => decide (d < 0)) := by
  obtain ⟨a1, a2, a3⟩ := st_bd f h0 h1 a ha
  obtain ⟨b1, b2, b3⟩ := st_bd f h0 h1 b hb
  have m1 := mul_bd hb.w0 hb.w1 (show 0 ≤ a.f0 by have := ha.t0; omega) (by have := ha.t1; omega)
  have m2 := mul_bd ha.w0 ha.w1 (show 0 ≤ b.f0 by have := hb.t0; omega) (by have := hb.t1; omega)
  have g1 : a.f0 * b.f1 = b.f1 * a.f0 := Int.mul_comm _ _
  have g2 : b.f0 * a.f1 = a.f1 * b.f0 := Int.mul_comm _ _
  have g3 : f * a.f0 * b.f1 = f * (b.f1 * a.f0) := by rw [Int.mul_assoc, g1]
  have g4 : f * b.f0 * a.f1 = f * (a.f1 * b.f0) := by rw [Int.mul_assoc, g2]
  have ar0 := ha.r0
  have ar1 := ha.r1
  have br0 := hb.r0
  have br1 := hb.r1
  have at0 := ha.t0
  have at1 := ha.t1
  have bt0 := hb.t0
  have bt1 := hb.t1
  have ad0 := ha.d0
  have ad1 := ha.d1
  have bd0 := hb.d0
  have bd1 := hb.d1
  simp only [impl_ruledOrder_1.d, impl_difference.f, stJ]
  generalize b.f1 * a.f0 = P at m1 g1 g3
  generalize a.f1 * b.f0 = Q at m2 g2 g4
  have hf : f = 1 ∨ f = 2 ∨ f = 3 ∨ f = 4 ∨ f = 5 ∨ f = 6 ∨ f = 7 ∨ f = 8 ∨ f = 9 ∨ f = 10 := by omega
  have key : ∀ u v : Int, -1000000 ≤ u → u ≤ 1000000 → -1000000 ≤ v → v ≤ 1000000 → (decide (wrap64 (f * u - f * v) < 0) = decide (wrap64 (u - v) < 0)) := fun u v u0 u1 v0 v1 => by
    rw [wrap_id (n := u - v) (by omega) (by omega)]
    rcases hf with rfl | rfl | rfl | rfl | rfl | rfl | rfl | rfl | rfl | rfl <;> (rw [wrap_id (by omega) (by omega)]; congr 1; exact propext (by omega))
  by_cases t1 : t = 1
  · simp only [if_pos t1, Option.map_some, key a.f2 b.f2 (by omega) (by omega) (by omega) (by omega)]
  · by_cases t2 : t = 2
    · simp only [if_neg t1, if_pos t2, Option.map_some, key a.f0 b.f0 (by omega) (by omega) (by omega) (by omega)]
    · by_cases t3 : t = 3
      · have hfP : -100000000 ≤ f * P ∧ f * P ≤ 100000000 := by rcases hf with rfl | rfl | rfl | rfl | rfl | rfl | rfl | rfl | rfl | rfl <;> omega
        have hfQ : -100000000 ≤ f * Q ∧ f * Q ≤ 100000000 := by rcases hf with rfl | rfl | rfl | rfl | rfl | rfl | rfl | rfl | rfl | rfl <;> omega
        simp only [if_neg t1, if_neg t2, if_pos t3, Option.map_some, g1, g2, g3, g4, wrap_id (n := f * P) (show -9223372036854775808 ≤ f * P by omega) (show f * P ≤ 9223372036854775807 by omega), wrap_id (n := f * Q) (show -9223372036854775808 ≤ f * Q by omega) (show f * Q ≤ 9223372036854775807 by omega), wrap_id (n := P) (show -9223372036854775808 ≤ P by omega) (show P ≤ 9223372036854775807 by omega), wrap_id (n := Q) (show -9223372036854775808 ≤ Q by omega) (show Q ≤ 9223372036854775807 by omega), key P Q (by omega) (by omega) (by omega) (by omega)]
      · simp only [if_neg t1, if_neg t2, if_neg t3, Option.map_some, key a.f3 b.f3 (by omega) (by omega) (by omega) (by omega)]
theorem p_st (l : List S38) (hg : Good l) (f : Int) (h0 : 1 ≤ f) (h1 : f ≤ 10) (t : Int) : impl_ruledOrder_1.p (l.map (stJ f)) t = impl_ruledOrder_1.p l t := by
  funext a b
  simp only [impl_ruledOrder_1.p, List.length_map]
  split
  · rename_i h
    have e : ∀ x : Int, 0 ≤ x → x < (l.length : Int) → rd_T38 (l.map (stJ f)) x = stJ f (jobAt l x) := fun x hx0 hx1 => by
      show (l.map (stJ f)).getD x.toNat z38 = stJ f (l.getD x.toNat z38)
      rw [List.getD_eq_getElem?_getD, List.getD_eq_getElem?_getD, List.getElem?_map, List.getElem?_eq_getElem (by omega)]
      rfl
    rw [e a h.1 h.2.1, e b h.2.2.1 h.2.2.2]
    exact diff_st f h0 h1 _ _ (hg.2 _ (jobAt_mem h.1 h.2.1)) (hg.2 _ (jobAt_mem h.2.2.1 h.2.2.2)) t
  · rfl
theorem ruled_st (l : List S38) (hg : Good l) (f : Int) (h0 : 1 ≤ f) (h1 : f ≤ 10) (hgy : Good (l.map (stJ f))) (t : Int) : ∃ (R : List Int) (b : Bool), L (fun k => impl_RuledOrder.f k l t) = some (R, b) ∧ L (fun k => impl_RuledOrder.f k (l.map (stJ f)) t) = some (R, b) ∧ R.length ≤ 1000 := by
  have h8 := hg.1
  have hn := ruled_l l.length (by omega) l.length 0 (by omega)
  have hn2 : L (fun k => impl_numbersTo.f k (l.length : Int)) = some (numsTo l.length) := by
    simp only [impl_numbersTo.f]
    exact hn
  have hex : ∀ a b, (0 ≤ a ∧ a < (l.length : Int)) → (0 ≤ b ∧ b < (l.length : Int)) → ∃ r, impl_ruledOrder_1.p l t a b = some r := fun a b ha hb => by
    rw [impl_ruledOrder_1.p, if_pos ⟨ha.1, ha.2, hb.1, hb.2⟩]
    simp only [impl_ruledOrder_1.d, impl_difference.f]
    repeat' split
    all_goals exact ⟨_, rfl⟩
  obtain ⟨s, s1, s2⟩ := sortO_some (impl_ruledOrder_1.p l t) (fun x => 0 ≤ x ∧ x < (l.length : Int)) hex (numsTo l.length) [] (fun x hx => mem_numsTo.1 hx) (by simp)
  have hlen : (numsTo l.length).length ≤ 1000000 := by rw [numsTo_length]; omega
  have r1 : L (fun k => impl_ruledOrder.f k l t) = some s := by
    simp only [impl_ruledOrder.f, L_bind, hn2, Option.bind_some, if_pos hlen, s1, L_const]
  have r2 : L (fun k => impl_ruledOrder.f k (l.map (stJ f)) t) = some s := by
    simp only [impl_ruledOrder.f, List.length_map, L_bind, hn2, Option.bind_some, if_pos hlen, p_st l hg f h0 h1 t, s1, L_const]
  have hpl : plainB (l.map (stJ f)) = plainB l := by
    rw [Bool.eq_iff_iff, plainB_iff, plainB_iff]
    constructor
    · intro h j hj
      have := h _ (List.mem_map_of_mem hj)
      have h2 : f * j.f2 = 0 := this
      rcases Int.mul_eq_zero.1 h2 with h3 | h3
      · omega
      · exact h3
    · intro h j hj
      obtain ⟨i, hi, rfl⟩ := List.mem_map.1 hj
      show f * i.f2 = 0
      rw [h i hi, Int.mul_zero]
  have q1 := fsRuled_L l t (by omega)
  have q2 := fsRuled_L (l.map (stJ f)) t (by simp; omega)
  rw [goodB_iff.2 hgy, hpl] at q2
  rw [goodB_iff.2 hg] at q1
  simp only [impl_RuledOrder.f, L_bind, q1, q2, Option.bind_some, L_ite, r1, r2, L_const]
  cases hb : (true && (decide (t = 1) || (inB t 2 4 && plainB l))) with
  | false => exact ⟨[], false, by simp, by simp, by simp⟩
  | true => exact ⟨s, true, by simp, by simp, by rw [s2, numsTo_length]; simp; omega⟩
theorem vInts_l (l : List Int) (hl : l.length ≤ 2000000) : ∀ (r pre : List Int), l = pre ++ r → L (fun k => laws_vInts.l0 k l l (pre.length : Int)) = some true
  | [], pre, e => by
    rw [List.append_nil] at e
    rw [L_shift]
    simp only [laws_vInts.l0, if_neg (show ¬ ((pre.length : Int) < (l.length : Int)) by rw [e]; omega), L_const]
  | x :: r, pre, e => by
    have hl2 : l.length = pre.length + (r.length + 1) := by rw [e]; simp
    have ew : wrap64 ((pre.length : Int) + 1) = ((pre ++ [x]).length : Int) := wrap_mid pre x (by omega)
    rw [L_shift]
    simp only [laws_vInts.l0, if_pos (show (pre.length : Int) < (l.length : Int) by omega), le_nat, if_true, ew]
    exact vInts_l l hl r (pre ++ [x]) (by rw [e]; simp)
theorem vInts_L (l : List Int) (hl : l.length ≤ 2000000) : L (fun k => laws_vInts.f k l l) = some true := by
  simp only [laws_vInts.f, if_true]
  exact vInts_l l hl l [] rfl
theorem vJobs_l (l : List S38) (hl : l.length ≤ 2000000) : ∀ (r pre : List S38), l = pre ++ r → L (fun k => laws_vJobs.l0 k l l (pre.length : Int)) = some true
  | [], pre, e => by
    rw [List.append_nil] at e
    rw [L_shift]
    simp only [laws_vJobs.l0, if_neg (show ¬ ((pre.length : Int) < (l.length : Int)) by rw [e]; omega), L_const]
  | x :: r, pre, e => by
    have hl2 : l.length = pre.length + (r.length + 1) := by rw [e]; simp
    have ew : wrap64 ((pre.length : Int) + 1) = ((pre ++ [x]).length : Int) := wrap_mid pre x (by omega)
    rw [L_shift]
    simp only [laws_vJobs.l0, if_pos (show (pre.length : Int) < (l.length : Int) by omega), le_nat, if_true, ew, beq_self_eq_true, Bool.not_true, Bool.or_self, Bool.false_eq_true, if_false]
    exact vJobs_l l hl r (pre ++ [x]) (by rw [e]; simp)
theorem vJobs_L (l : List S38) (hl : l.length ≤ 2000000) : L (fun k => laws_vJobs.f k l l) = some true := by
  simp only [laws_vJobs.f, if_true]
  exact vJobs_l l hl l [] rfl

theorem sl_w2 {m d e : Int} (h0 : -2000 ≤ m) (h1 : m ≤ 2000) (b1 : 0 ≤ e) (b2 : e ≤ 900) (b3 : 0 ≤ d) (b4 : d ≤ 500) : wrap64 (wrap64 (e + m) - d) = e + m - d := by rw [wrap_id (n := e + m) (by omega) (by omega), wrap_id (by omega) (by omega)]
theorem fs_l3 (l : List S38) (hg : Good l) (o : List Int) (ho : IsOrd l.length o) (lim : Int) (h0 : 0 ≤ lim) (h1 : lim ≤ 500) (R : List Int) (hR : R.length = o.length) (i : Nat) (hi : i < o.length) (m : Int) (hm : rd R (i : Int) = m) (hmb : -2000 ≤ m ∧ m ≤ 2000) : ∀ (r pre : List Int) (b : Bool), o = pre ++ r → (∀ y ∈ r, m ≤ slV l o lim y) →
    L (fun k => laws_FnSlacks.l3 k l o lim R (endsP l o) (i : Int) b (pre.length : Int)) = if (b || r.any (fun y => decide (m = slV l o lim y))) = true then L (fun k => laws_FnSlacks.l2 k l o lim R (endsP l o) ((i : Int) + 1)) else some false
  | [], pre, b, e, hv => by
    rw [List.append_nil] at e
    have h8 := ho.1
    have h88 := hg.1
    have ew : wrap64 ((i : Int) + 1) = (i : Int) + 1 := wrap_id (by omega) (by omega)
    rw [L_shift]
    simp only [laws_FnSlacks.l3, if_neg (show ¬ ((pre.length : Int) < (o.length : Int)) by rw [e]; omega), ew, L_ite, L_const, List.any_nil, Bool.or_false]
  | y :: r, pre, b, e, hv => by
    have h8 := ho.1
    have h88 := hg.1
    have hl2 : o.length = pre.length + (r.length + 1) := by rw [e]; simp
    have er : rd o (pre.length : Int) = y := by rw [e]; exact rd_mid pre y r
    have ew : wrap64 ((pre.length : Int) + 1) = ((pre ++ [y]).length : Int) := wrap_mid pre y (by omega)
    have hym := ho.2.1 y (by rw [e]; simp)
    have hvy := hv y List.mem_cons_self
    obtain ⟨en, d, he, hd, hV, b1, b2, b3, b4⟩ := slV_bd l hg o ho lim h0 h1 y hym
    rw [hV] at hvy
    have c1 : (pre.length : Int) < (o.length : Int) := by omega
    have c2 : y < ((endsP l o).length : Int) := by rw [endsP_length]; exact hym.2
    have c3 : (i : Int) < (R.length : Int) := by omega
    have w : wrap64 (wrap64 (en + m) - d) = en + m - d := sl_w2 hmb.1 hmb.2 b1 b2 b3 b4
    have ih := fun b => fs_l3 l hg o ho lim h0 h1 R hR i hi m hm hmb r (pre ++ [y]) b (by rw [e]; simp) (fun z hz => hv z (List.mem_cons_of_mem _ hz))
    rw [L_shift]
    simp only [laws_FnSlacks.l3, if_pos c1, le_nat, if_true, er, if_pos hym.1, if_pos c2, if_pos c3, if_pos hym.2, he, hm, hd, w, if_neg (show ¬ (en + m - d > lim) by omega), ew, L_ite, ih, List.any_cons, hV]
    have hq : (en + m - d == lim) = decide (m = lim + d - en) := by
      by_cases hh : m = lim + d - en
      · rw [decide_eq_true hh]; exact beq_iff_eq.2 (by omega)
      · rw [decide_eq_false hh]; exact beq_eq_false_iff_ne.2 (by omega)
    rw [hq]
    cases b with
    | true => rw [if_pos rfl, Bool.true_or, Bool.true_or]
    | false => rw [if_neg (by decide), Bool.false_or]
theorem fs_l2 (l : List S38) (hg : Good l) (o : List Int) (ho : IsOrd l.length o) (lim : Int) (h0 : 0 ≤ lim) (h1 : lim ≤ 500) (R : List Int) (hR : R.length = o.length) (hv : ∀ j : Nat, j < o.length → R.getD j 0 = slH (slV l o lim) (o.getD j 0) (o.drop (j + 1))) : ∀ (d i : Nat), i + d = o.length → L (fun k => laws_FnSlacks.l2 k l o lim R (endsP l o) (i : Int)) = some true
  | 0, i, hi => by
    rw [L_shift]
    simp only [laws_FnSlacks.l2, if_neg (show ¬ ((i : Int) < (o.length : Int)) by omega), L_const]
  | d + 1, i, hi => by
    have hil : i < o.length := by omega
    have ih := fs_l2 l hg o ho lim h0 h1 R hR hv d (i + 1) (by omega)
    have hm := hv i hil
    have er : rd R (i : Int) = R.getD i 0 := by show R.getD (i : Int).toNat 0 = _; rw [Int.toNat_natCast]
    have hdr : o.drop i = o.getD i 0 :: o.drop (i + 1) := by
      rw [List.drop_eq_getElem_cons hil, List.getD_eq_getElem?_getD, List.getElem?_eq_getElem hil]
      rfl
    have hmem : ∀ y ∈ o.getD i 0 :: o.drop (i + 1), y ∈ o := fun y hy => by rw [← hdr] at hy; exact List.mem_of_mem_drop hy
    obtain ⟨y, hy, hyv⟩ := slH_at (slV l o lim) (o.drop (i + 1)) (o.getD i 0)
    obtain ⟨en, dd, he, hd, hV, b1, b2, b3, b4⟩ := slV_bd l hg o ho lim h0 h1 y (ho.2.1 y (hmem y hy))
    have hmb : -2000 ≤ R.getD i 0 ∧ R.getD i 0 ≤ 2000 := by rw [hm, hyv, hV]; omega
    have h3 := fs_l3 l hg o ho lim h0 h1 R hR i hil (R.getD i 0) er hmb (o.drop i) (o.take i) false (List.take_append_drop i o).symm (fun z hz => by rw [hdr] at hz; rw [hm]; exact slH_le _ _ _ z hz)
    have htk : ((o.take i).length : Int) = (i : Int) := by rw [List.length_take, Nat.min_eq_left (by omega)]
    rw [htk, if_pos (by
      rw [Bool.false_or, List.any_eq_true]
      exact ⟨y, by rw [hdr]; exact hy, decide_eq_true (by rw [hm]; exact hyv)⟩)] at h3
    rw [L_shift]
    simp only [laws_FnSlacks.l2, if_pos (show (i : Int) < (o.length : Int) by omega), h3]
    exact ih
theorem fs_l0 (J : List S38) (O : List Int) (Z : Int) (R : List Int) (b : Bool) (x : List S38) (hg : Good x) (f : Int) (hf0 : 1 ≤ f) (hf1 : f ≤ 10) : ∀ (r pre : List S38), x = pre ++ r → L (fun k => laws_FnSlacks.l0 k J O Z R b x f (x.map (stJ f)) (pre.length : Int)) = L (fun k => laws_FnSlacks.l1 k J O Z R b x (x.map (stJ f)) 1)
  | [], pre, e => by
    rw [List.append_nil] at e
    rw [L_shift]
    simp only [laws_FnSlacks.l0, if_neg (show ¬ ((pre.length : Int) < (x.length : Int)) by rw [e]; omega)]
  | j :: r, pre, e => by
    have h8 := hg.1
    have hl : x.length = pre.length + (r.length + 1) := by rw [e]; simp
    have er : rd_T38 x (pre.length : Int) = j := by rw [e]; exact getD_mid pre j r z38
    have er2 : rd_T38 (x.map (stJ f)) (pre.length : Int) = stJ f j := by
      rw [e, List.map_append, List.map_cons]
      have := getD_mid (pre.map (stJ f)) (stJ f j) (r.map (stJ f)) z38
      rw [List.length_map] at this
      exact this
    have ew : wrap64 ((pre.length : Int) + 1) = ((pre ++ [j]).length : Int) := wrap_mid pre j (by omega)
    obtain ⟨b1, b2, b3⟩ := st_bd f hf0 hf1 j (hg.2 j (by rw [e]; simp))
    have w1 : wrap64 (f * j.f0) = f * j.f0 := wrap_id (by omega) (by omega)
    have w2 : wrap64 (f * j.f2) = f * j.f2 := wrap_id (by omega) (by omega)
    have w3 : wrap64 (f * j.f3) = f * j.f3 := wrap_id (by omega) (by omega)
    have c1 : (pre.length : Int) < (x.length : Int) := by omega
    have c2 : (pre.length : Int) < ((x.map (stJ f)).length : Int) := by rw [List.length_map]; exact c1
    rw [L_shift]
    simp only [laws_FnSlacks.l0, if_pos c1, le_nat, if_true, if_pos c2, er, er2, stJ, w1, w2, w3, ew]
    exact fs_l0 J O Z R b x hg f hf0 hf1 r (pre ++ [j]) (by rw [e]; simp)
theorem fs_l1 (J : List S38) (O : List Int) (Z : Int) (R : List Int) (b : Bool) (x : List S38) (hg : Good x) (f : Int) (hf0 : 1 ≤ f) (hf1 : f ≤ 10) (hgy : Good (x.map (stJ f))) : ∀ (d : Nat) (t : Int), t + (d : Int) = 5 → 1 ≤ t → L (fun k => laws_FnSlacks.l1 k J O Z R b x (x.map (stJ f)) t) = L (fun k => laws_FnSlacks.j3 k J O Z R b)
  | 0, t, ht, h1 => by
    rw [L_shift]
    simp only [laws_FnSlacks.l1, if_neg (show ¬ (t ≤ 4) by omega)]
  | d + 1, t, ht, h1 => by
    obtain ⟨S, c, e1, e2, hS⟩ := ruled_st x hg f hf0 hf1 hgy t
    have ew : wrap64 (t + 1) = t + 1 := wrap_id (by omega) (by omega)
    have ih := fs_l1 J O Z R b x hg f hf0 hf1 hgy d (t + 1) (by omega) (by omega)
    rw [L_shift]
    simp only [laws_FnSlacks.l1, if_pos (show t ≤ 4 by omega), L_bind, e1, e2, Option.bind_some, bne_self_eq_false, Bool.false_eq_true, if_false, vInts_L S (by omega), if_true, ew, ih]
theorem FnSlacks : laws_FnSlacks.Pure := by
  intro c h1 h2
  have e1 : maxLen = 9223372036854775807 := rfl
  refine rounds_of_L ?_
  simp only [laws_FnSlacks.f, laws_vBig.f, Option.bind_some]
  by_cases hb : (c.length : Int) > 65536
  · rw [L_ite, if_pos (decide_eq_true hb), L_const]
  · rw [L_ite, if_neg (by rw [decide_eq_false hb]; decide)]
    have hc : Byt c := ⟨by omega, fun y hy => wf_u8 (h2 y hy)⟩
    obtain ⟨c', hc1, hc2⟩ := vCut_L c hc (by omega) 1 (by omega)
    obtain ⟨J, O, Z, d1, d2, d3⟩ := draw_slacks c hc
    obtain ⟨X, f, d4, d5⟩ := draw_stretched c' hc2
    obtain ⟨R, b, s1, s2, s3, s4⟩ := slk_both J O Z (by omega) (by omega)
    obtain ⟨Y, g, t1, t2, t3, t4⟩ := st_both X f (by omega)
    have hj3 : L (fun k => laws_FnSlacks.j3 k J O Z R b) = some true := by
      rw [L_shift]
      cases b with
      | false => simp only [laws_FnSlacks.j3, Bool.false_eq_true, if_false, L_const]
      | true =>
        obtain ⟨hg, ho, z0, z1, hR, hv⟩ := s4 rfl
        have hE : L (fun k => impl_EndsOf.f k J O) = some (endsP J O, true) := by
          have hsch : schedB J O = true := by simp only [schedB, goodB_iff.2 hg, orderB_iff.2 ho, Bool.and_self]
          simp only [impl_EndsOf.f, L_bind, isScheduled_L J O (by omega) (by omega), hsch, Option.bind_some, L_ite, if_true, endsOf_L J O hg ho, L_const]
        have h2 := fs_l2 J hg O ho Z z0 z1 R hR hv O.length 0 (by omega)
        have e0 : ((0 : Nat) : Int) = 0 := rfl
        rw [e0] at h2
        simp only [laws_FnSlacks.j3, if_true, L_bind, hE, Option.bind_some, h2]
    have hj0 : L (fun k => laws_FnSlacks.j0 k J O Z R b X f Y g false) = some true := by
      rw [L_shift]
      cases g with
      | false => simp only [laws_FnSlacks.j0, Bool.false_eq_true, if_false, hj3]
      | true =>
        obtain ⟨hg, f0, f1, rfl, hgy⟩ := t4 rfl
        have h3 := fs_l0 J O Z R b X hg f f0 f1 X [] rfl
        simp only [List.length_nil, Int.natCast_zero] at h3
        simp only [laws_FnSlacks.j0, Bool.false_eq_true, if_false, if_true, h3, fs_l1 J O Z R b X hg f f0 f1 hgy 4 1 (by omega) (by omega), hj3]
    (rw [L_bind, d1, Option.bind_some]; try dsimp only)
    (rw [L_bind, s2, Option.bind_some]; try dsimp only)
    (rw [L_bind, s1, Option.bind_some]; try dsimp only)
    simp only [hc1, Option.bind_some]
    (rw [L_bind, d4, Option.bind_some]; try dsimp only)
    (rw [L_bind, t1, Option.bind_some]; try dsimp only)
    (rw [L_bind, t2, Option.bind_some]; try dsimp only)
    rw [L_ite, if_neg (by simp)]
    (rw [L_bind, (vInts_L R (by omega)), Option.bind_some]; try dsimp only)
    rw [L_ite, if_pos rfl]
    rw [L_ite, if_neg (by simp)]
    (rw [L_bind, (vJobs_L Y (by omega)), Option.bind_some]; try dsimp only)
    exact hj0

end Go.Proofs.Ytnghgpceaahkaaa.Pure
