/- The program's LongestStair answers what the reference's answers, for all shops and orders. -/
import Derived.Test.YtenfjdjejnoofaaXSFnExactLongestStair
import Derived.Test.YtenfjdjejnoofaaXLim
namespace Go.Proofs.Ytenfjdjejnoofaa.Pure
open Go.RowKit Go.Proofs.YtenfjdjejnoofaaW.PrintWords Go.Proofs.YtenfjdjejnoofaaW.PrintLast Go.Proofs.YtenfjdjejnoofaaW.PrintMore Go.Proofs.Ytenfjdjejnoofaa.X Go.Proofs.Ytenfjdjejnoofaa.XRow Go.Proofs.Ytenfjdjejnoofaa.XLim
set_option linter.unusedVariables false
set_option linter.unusedSimpArgs false
instance : ∀ a0 a1, Mono (fun k => impl_LongestStair.f k a0 a1) := fun a0 a1 => ⟨⟨impl_LongestStair.mono a0 a1⟩⟩
instance : ∀ a0 a1 a2, Mono (fun k => impl_allWithin.f k a0 a1 a2) := fun a0 a1 a2 => ⟨⟨impl_allWithin.mono a0 a1 a2⟩⟩
instance : ∀ a0 a1, Mono (fun k => impl_areDifferent.f k a0 a1) := fun a0 a1 => ⟨⟨impl_areDifferent.mono a0 a1⟩⟩
instance : ∀ a0 a1 a2 a3, Mono (fun k => impl_firstStair.f k a0 a1 a2 a3) := fun a0 a1 a2 a3 => ⟨⟨impl_firstStair.mono a0 a1 a2 a3⟩⟩
instance : ∀ a0 a1, Mono (fun k => impl_flowEnds.f k a0 a1) := fun a0 a1 => ⟨⟨impl_flowEnds.mono a0 a1⟩⟩
instance : ∀ a0 a1, Mono (fun k => impl_flowSpan.f k a0 a1) := fun a0 a1 => ⟨⟨impl_flowSpan.mono a0 a1⟩⟩
instance : ∀ a0, Mono (fun k => impl_greatestOf.f k a0) := fun a0 => ⟨⟨impl_greatestOf.mono a0⟩⟩
instance : ∀ a0 a1, Mono (fun k => impl_has.f k a0 a1) := fun a0 a1 => ⟨⟨impl_has.mono a0 a1⟩⟩
instance : ∀ a0 a1, Mono (fun k => impl_isFlow.f k a0 a1) := fun a0 a1 => ⟨⟨impl_isFlow.mono a0 a1⟩⟩
instance : ∀ a0 a1, Mono (fun k => impl_isOrder.f k a0 a1) := fun a0 a1 => ⟨⟨impl_isOrder.mono a0 a1⟩⟩
instance : ∀ a0, Mono (fun k => impl_isShop.f k a0) := fun a0 => ⟨⟨impl_isShop.mono a0⟩⟩
instance : ∀ a0 a1, Mono (fun k => impl_isStaircase.f k a0 a1) := fun a0 a1 => ⟨⟨impl_isStaircase.mono a0 a1⟩⟩
instance : ∀ a0 a1 a2, Mono (fun k => impl_stairLength.f k a0 a1 a2) := fun a0 a1 a2 => ⟨⟨impl_stairLength.mono a0 a1 a2⟩⟩
instance : ∀ l0 l1, Mono (fun k => laws_FnExactLongestStair.f k l0 l1) := fun l0 l1 => ⟨⟨laws_FnExactLongestStair.mono l0 l1⟩⟩
instance : ∀ a0 a1, Mono (fun k => laws_eqIntS.f k a0 a1) := fun a0 a1 => ⟨⟨laws_eqIntS.mono a0 a1⟩⟩
instance : ∀ a0 a1, Mono (fun k => laws_eqIntSS.f k a0 a1) := fun a0 a1 => ⟨⟨laws_eqIntSS.mono a0 a1⟩⟩
instance : ∀ a0 a1, Mono (fun k => laws_heldIntS.f k a0 a1) := fun a0 a1 => ⟨⟨laws_heldIntS.mono a0 a1⟩⟩
instance : ∀ a0 a1, Mono (fun k => laws_markIntS.f k a0 a1) := fun a0 a1 => ⟨⟨laws_markIntS.mono a0 a1⟩⟩
instance : ∀ a0 a1, Mono (fun k => laws_markIntSS.f k a0 a1) := fun a0 a1 => ⟨⟨laws_markIntSS.mono a0 a1⟩⟩
instance : ∀ a0 a1, Mono (fun k => laws_szIntSS.f k a0 a1) := fun a0 a1 => ⟨⟨laws_szIntSS.mono a0 a1⟩⟩
instance : ∀ a0, Mono (fun k => laws_toIntS.f k a0) := fun a0 => ⟨⟨laws_toIntS.mono a0⟩⟩
instance : ∀ a0, Mono (fun k => laws_toIntSS.f k a0) := fun a0 => ⟨⟨laws_toIntSS.mono a0⟩⟩
instance : ∀ a0 a1, Mono (fun k => spec_LongestStair.f k a0 a1) := fun a0 a1 => ⟨⟨spec_LongestStair.mono a0 a1⟩⟩
instance : ∀ a0 a1, Mono (fun k => spec_l1Has.f k a0 a1) := fun a0 a1 => ⟨⟨spec_l1Has.mono a0 a1⟩⟩
instance : ∀ a0, Mono (fun k => spec_l2Last.f k a0) := fun a0 => ⟨⟨spec_l2Last.mono a0⟩⟩
instance : ∀ a0 a1, Mono (fun k => spec_l2Order.f k a0 a1) := fun a0 a1 => ⟨⟨spec_l2Order.mono a0 a1⟩⟩
instance : ∀ a0 a1, Mono (fun k => spec_l8Ends.f k a0 a1) := fun a0 a1 => ⟨⟨spec_l8Ends.mono a0 a1⟩⟩
instance : ∀ a0, Mono (fun k => spec_l8Good.f k a0) := fun a0 => ⟨⟨spec_l8Good.mono a0⟩⟩
instance : ∀ a0 a1 a2, Mono (fun k => spec_l8Length.f k a0 a1 a2) := fun a0 a1 a2 => ⟨⟨spec_l8Length.mono a0 a1 a2⟩⟩
instance : ∀ a0 a1, Mono (fun k => spec_l8Span.f k a0 a1) := fun a0 a1 => ⟨⟨spec_l8Span.mono a0 a1⟩⟩
instance : ∀ a0 a1, Mono (fun k => spec_l8Stair.f k a0 a1) := fun a0 a1 => ⟨⟨spec_l8Stair.mono a0 a1⟩⟩
instance : ∀ a0 a1, Mono (fun k => spec_l8Two.f k a0 a1) := fun a0 a1 => ⟨⟨spec_l8Two.mono a0 a1⟩⟩
theorem lt_mid {α : Type} (pre : List α) (x : α) (r : List α) : ((pre.length : Int) < ((pre ++ x :: r).length : Int)) = True := by
  simp only [List.length_append, List.length_cons]
  exact eq_true (by omega)
theorem not_lt_end {α : Type} (pre : List α) : ((pre.length : Int) < ((pre ++ []).length : Int)) = False := by
  simp
theorem le_nat (n : Nat) : (0 ≤ (n : Int)) = True := eq_true (by omega)
theorem getD_mid {α : Type} (pre : List α) (x : α) (r : List α) (d : α) : (pre ++ x :: r).getD (pre.length : Int).toNat d = x := by
  simp [List.getD_eq_getElem?_getD]
theorem rd_mid (pre : List Int) (x : Int) (r : List Int) : rd (pre ++ x :: r) (pre.length : Int) = x := getD_mid pre x r 0
theorem wrap_mid {α : Type} (pre : List α) (x : α) (h : pre.length < 4611686018427387904) : wrap64 ((pre.length : Int) + 1) = ((pre ++ [x]).length : Int) := by
  rw [wrap_id (by omega) (by omega)]
  simp
theorem set_mid {α β : Type} (a : List α) (y v : α) (b : List α) (pre : List β) (h : pre.length = a.length) : (a ++ y :: b).set (pre.length : Int).toNat v = a ++ v :: b := by
  rw [Int.toNat_natCast, h, List.set_append_right _ _ (Nat.le_refl _)]
  simp
theorem rep_succ {α : Type} (x : α) (r : List α) {β : Type} (z : β) : List.replicate (x :: r).length z = z :: List.replicate r.length z := rfl
theorem app_cons {α : Type} (pre : List α) (x : α) (r : List α) : pre ++ x :: r = (pre ++ [x]) ++ r := by simp
theorem getD_mem {l : List Int} {j : Nat} (hj : j < l.length) : l.getD j 0 ∈ l := by
  rw [List.getD_eq_getElem?_getD, List.getElem?_eq_getElem hj]
  exact List.getElem_mem _
theorem toIntS_l (r : List Int) : ∀ pre : List Int, (pre ++ r).length < 4611686018427387904 → L (fun k => laws_toIntS.l0 k (pre ++ r) (pre ++ List.replicate r.length 0) (pre.length : Int)) = some (pre ++ r) := by
  induction r with
  | nil =>
    intro pre hb
    rw [L_shift]
    simp only [laws_toIntS.l0, not_lt_end, if_false, L_const, List.length_nil, List.replicate_zero]
  | cons x r ih =>
    intro pre hb
    rw [L_shift]
    have hl : pre.length < 4611686018427387904 := by simp at hb; omega
    simp only [laws_toIntS.l0, lt_mid, le_nat, if_true, rep_succ, rd_mid, wrap_mid pre x hl, set_mid pre _ x _ pre rfl]
    rw [app_cons pre x r, app_cons pre x (List.replicate _ _)]
    exact ih (pre ++ [x]) (by simpa using hb)
theorem toIntS_L (l : List Int) (h : l.length ≤ 1048576) : L (fun k => laws_toIntS.f k l) = some l := by
  simp only [laws_toIntS.f, le_nat, if_true, Int.toNat_natCast, if_pos (show l.length ≤ 35184372088832 by omega)]
  exact toIntS_l l [] (by simp; omega)
theorem eqIntS_l (r : List Int) : ∀ pre : List Int, (pre ++ r).length < 4611686018427387904 → L (fun k => laws_eqIntS.l0 k (pre ++ r) (pre ++ r) (pre.length : Int)) = some true := by
  induction r with
  | nil =>
    intro pre hb
    rw [L_shift]
    simp only [laws_eqIntS.l0, not_lt_end, if_false, L_const]
  | cons x r ih =>
    intro pre hb
    rw [L_shift]
    have hl : pre.length < 4611686018427387904 := by simp at hb; omega
    simp only [laws_eqIntS.l0, lt_mid, le_nat, if_true, rd_mid, wrap_mid pre x hl]
    rw [app_cons pre x r]
    exact ih (pre ++ [x]) (by simpa using hb)
theorem eqIntS_L (l : List Int) (h : l.length ≤ 1048576) : L (fun k => laws_eqIntS.f k l l) = some true := by
  simp only [laws_eqIntS.f, if_true]
  exact eqIntS_l l [] (by simp; omega)
/-- The numbers from v on, as many as a list has. -/
def countI {α : Type} : Int → List α → List Int
  | _, [] => []
  | v, _ :: r => v :: countI (v + 1) r
theorem markIntS_l (r : List Int) : ∀ (pre : List Int) (v : Int), (pre ++ r).length < 4611686018427387904 → 0 ≤ v → v + r.length < 9223372036854775807 → L (fun k => laws_markIntS.l0 k (pre ++ r) v (pre.length : Int)) = some (v + r.length, pre ++ countI v r) := by
  induction r with
  | nil =>
    intro pre v hb h0 h1
    rw [L_shift]
    simp only [laws_markIntS.l0, not_lt_end, if_false, L_const]
    simp [countI]
  | cons x r ih =>
    intro pre v hb h0 h1
    rw [L_shift]
    have hl : pre.length < 4611686018427387904 := by simp at hb; omega
    simp only [List.length_cons] at h1
    simp only [laws_markIntS.l0, lt_mid, le_nat, if_true, wrap_mid pre v hl, set_mid pre x v r pre rfl, wrap_id (show -9223372036854775808 ≤ v + 1 by omega) (show v + 1 ≤ 9223372036854775807 by omega)]
    rw [app_cons pre v r, ih (pre ++ [v]) (v + 1) (by simpa using hb) (by omega) (by omega)]
    simp only [countI, List.length_cons, Option.some.injEq, Prod.mk.injEq]
    exact ⟨by omega, by simp⟩
theorem markIntS_L (l : List Int) (v : Int) (h : l.length ≤ 1048576) (h0 : 0 ≤ v) (h1 : v ≤ 9000000000000000000) : L (fun k => laws_markIntS.f k l v) = some (v + l.length, countI v l) := by
  have := markIntS_l l [] v (by simp; omega) h0 (by omega)
  simpa [laws_markIntS.f] using this
theorem heldIntS_l {α : Type} (r : List α) : ∀ (pre : List Int) (v : Int), (pre.length + r.length) < 4611686018427387904 → 0 ≤ v → v + r.length < 9223372036854775807 → L (fun k => laws_heldIntS.l0 k (pre ++ countI v r) v (pre.length : Int)) = some (v + r.length) := by
  induction r with
  | nil =>
    intro pre v hb h0 h1
    rw [L_shift]
    simp only [laws_heldIntS.l0, countI, not_lt_end, if_false, L_const]
    simp
  | cons x r ih =>
    intro pre v hb h0 h1
    rw [L_shift]
    simp only [List.length_cons] at h1 hb
    have hl : pre.length < 4611686018427387904 := by omega
    simp only [laws_heldIntS.l0, countI, lt_mid, le_nat, if_true, rd_mid, wrap_mid pre v hl, wrap_id (show -9223372036854775808 ≤ v + 1 by omega) (show v + 1 ≤ 9223372036854775807 by omega)]
    rw [app_cons pre v (countI _ r), ih (pre ++ [v]) (v + 1) (by simp; omega) (by omega) (by omega)]
    simp only [List.length_cons, Option.some.injEq]
    omega
theorem heldIntS_L {α : Type} (l : List α) (v : Int) (h : l.length ≤ 1048576) (h0 : 0 ≤ v) (h1 : v ≤ 9000000000000000000) : L (fun k => laws_heldIntS.f k (countI v l) v) = some (v + l.length) := by
  have := heldIntS_l l [] v (by simp; omega) h0 (by omega)
  simpa [laws_heldIntS.f] using this
theorem ite_and (b c : Bool) : (if b = true then some c else some false) = some (b && c) := by cases b <;> rfl
theorem ite_not_and (b c : Bool) : (if b = true then some false else some c) = some (!b && c) := by cases b <;> rfl
theorem bind_self {α : Type} (o : Option α) : (o.bind fun t => some t) = o := by cases o <;> rfl
def inB (a lo hi : Int) : Bool := decide (lo ≤ a) && decide (a ≤ hi)
theorem inB_iff {a lo hi : Int} : inB a lo hi = true ↔ lo ≤ a ∧ a ≤ hi := by simp [inB]
theorem within_e (a lo hi : Int) : impl_within.f a lo hi = some (inB a lo hi) := by
  unfold impl_within.f inB
  by_cases h : lo ≤ a <;> simp [h]
theorem l1In_e (a lo hi : Int) : spec_l1In.f a lo hi = some (inB a lo hi) := by
  unfold spec_l1In.f inB
  by_cases h : lo ≤ a <;> simp [h]
theorem mx_e (a b : Int) : mx a b = max a b := by
  unfold mx
  omega
theorem l1Most_e (a b : Int) : spec_l1Most.f a b = some (max a b) := by
  unfold spec_l1Most.f
  by_cases h : a > b
  · rw [if_pos h]
    congr 1
    omega
  · rw [if_neg h]
    congr 1
    omega
theorem l1Has_l (x : Int) (r : List Int) : ∀ pre : List Int, (pre ++ r).length < 4611686018427387904 → L (fun k => spec_l1Has.l0 k (pre ++ r) x (pre.length : Int)) = some (decide (x ∈ r)) := by
  induction r with
  | nil =>
    intro pre hb
    rw [L_shift]
    simp only [spec_l1Has.l0, not_lt_end, if_false, L_const]
    simp
  | cons y r ih =>
    intro pre hb
    rw [L_shift]
    have hl : pre.length < 4611686018427387904 := by simp at hb; omega
    simp only [spec_l1Has.l0, lt_mid, le_nat, if_true, rd_mid, wrap_mid pre y hl, L_ite, L_const]
    rw [app_cons pre y r, ih (pre ++ [y]) (by simpa using hb)]
    by_cases h : y = x
    · subst h
      simp
    · rw [if_neg h]
      have : ¬ x = y := fun e => h e.symm
      simp [this]
theorem l1Has_L (l : List Int) (x : Int) (h : l.length < 4611686018427387904) : L (fun k => spec_l1Has.f k l x) = some (decide (x ∈ l)) := l1Has_l x l [] (by simpa using h)
theorem has_l (x : Int) (r : List Int) : ∀ pre : List Int, (pre ++ r).length < 4611686018427387904 → L (fun k => impl_has.l0 k x (pre ++ r) ((pre ++ r).length : Int) (pre.length : Int)) = some (decide (x ∈ r)) := by
  induction r with
  | nil =>
    intro pre hb
    rw [L_shift]
    simp only [impl_has.l0, not_lt_end, if_false, L_const]
    simp
  | cons y r ih =>
    intro pre hb
    rw [L_shift]
    have hl : pre.length < 4611686018427387904 := by simp at hb; omega
    simp only [impl_has.l0, lt_mid, le_nat, if_true, rd_mid, wrap_mid pre y hl, L_ite, L_const]
    rw [app_cons pre y r, ih (pre ++ [y]) (by simpa using hb)]
    by_cases h : y = x
    · subst h
      simp
    · rw [if_neg h]
      have : ¬ x = y := fun e => h e.symm
      simp [this]
theorem has_L (l : List Int) (x : Int) (h : l.length < 4611686018427387904) : L (fun k => impl_has.f k l x) = some (decide (x ∈ l)) := has_l x l [] (by simpa using h)
theorem perm_of : ∀ (a b : List Int), a.Nodup → (∀ x ∈ a, x ∈ b) → b.length ≤ a.length → a.Perm b
  | [], b, _, _, hl => by
    have : b = [] := List.length_eq_zero_iff.1 (by simpa using hl)
    rw [this]
  | x :: a, b, hn, hs, hl => by
    have hx : x ∈ b := hs x List.mem_cons_self
    have hn' := List.nodup_cons.1 hn
    have hp := List.perm_cons_erase hx
    have h1 : (b.erase x).length ≤ a.length := by
      have := List.length_erase_of_mem hx
      simp at hl
      omega
    have h2 : ∀ y ∈ a, y ∈ b.erase x := fun y hy => (List.mem_erase_of_ne (by rintro rfl; exact hn'.1 hy)).2 (hs y (List.mem_cons_of_mem _ hy))
    exact ((perm_of a (b.erase x) hn'.2 h2 h1).cons x).trans hp.symm
def numsTo (n : Nat) : List Int := (List.range n).map (fun i : Nat => (i : Int))
theorem numsTo_length (n : Nat) : (numsTo n).length = n := by simp [numsTo]
theorem mem_numsTo {n : Nat} {x : Int} : x ∈ numsTo n ↔ 0 ≤ x ∧ x < n := by
  simp only [numsTo, List.mem_map, List.mem_range]
  constructor
  · rintro ⟨i, hi, rfl⟩
    omega
  · intro h
    exact ⟨x.toNat, by omega, by omega⟩
theorem numsTo_nodup (n : Nat) : (numsTo n).Nodup := by
  unfold numsTo
  exact List.Pairwise.map _ (fun a b h => by omega) List.nodup_range
/-- Different numbers of n things, none of them in pre. -/
def diffB (n : Int) : List Int → List Int → Bool
  | _, [] => true
  | pre, x :: r => inB x 0 (n - 1) && (!decide (x ∈ pre) && diffB n (pre ++ [x]) r)
theorem diffB_iff (n : Int) : ∀ (r pre : List Int), diffB n pre r = true ↔ (∀ x ∈ r, 0 ≤ x ∧ x < n) ∧ r.Nodup ∧ ∀ x ∈ r, x ∉ pre
  | [], pre => by simp [diffB]
  | x :: r, pre => by
    rw [diffB, Bool.and_eq_true, Bool.and_eq_true, inB_iff, diffB_iff n r (pre ++ [x])]
    simp only [Bool.not_eq_true', decide_eq_false_iff_not, List.mem_cons, List.nodup_cons, List.mem_append, List.not_mem_nil, or_false, not_or]
    constructor
    · rintro ⟨h1, h2, h3, h4, h5⟩
      refine ⟨?_, ⟨fun hx => (h5 x hx).2 rfl, h4⟩, ?_⟩
      · rintro y (rfl | hy)
        · omega
        · exact h3 y hy
      · rintro y (rfl | hy)
        · exact h2
        · exact (h5 y hy).1
    · rintro ⟨h1, ⟨h2, h3⟩, h4⟩
      exact ⟨⟨(h1 x (.inl rfl)).1, by have := (h1 x (.inl rfl)).2; omega⟩, h4 x (.inl rfl), fun y hy => h1 y (.inr hy), h3, fun y hy => ⟨h4 y (.inr hy), fun e => h2 (e ▸ hy)⟩⟩
/-- An order of n jobs. -/
def orderB (n : Nat) (l : List Int) : Bool := decide ((l.length : Int) = n) && diffB n [] l
def IsOrd (n : Nat) (l : List Int) : Prop := l.length = n ∧ (∀ x ∈ l, 0 ≤ x ∧ x < n) ∧ l.Nodup
theorem orderB_iff {n : Nat} {l : List Int} : orderB n l = true ↔ IsOrd n l := by
  simp only [orderB, Bool.and_eq_true, decide_eq_true_eq, diffB_iff, IsOrd]
  constructor
  · rintro ⟨h, h1, h2, _⟩
    exact ⟨by omega, h1, h2⟩
  · rintro ⟨h, h1, h2⟩
    exact ⟨by omega, h1, h2, by simp⟩
theorem IsOrd.perm {n : Nat} {l : List Int} (h : IsOrd n l) : l.Perm (numsTo n) := perm_of l _ h.2.2 (fun x hx => mem_numsTo.2 (h.2.1 x hx)) (by rw [numsTo_length, h.1]; exact Nat.le_refl _)
theorem IsOrd.of_perm {n : Nat} {l : List Int} (h : l.Perm (numsTo n)) : IsOrd n l := ⟨by rw [h.length_eq, numsTo_length], fun x hx => mem_numsTo.1 (h.mem_iff.1 hx), h.nodup_iff.2 (numsTo_nodup n)⟩
theorem IsOrd.mem {n : Nat} {l : List Int} (h : IsOrd n l) {x : Int} : x ∈ l ↔ 0 ≤ x ∧ x < n := by rw [h.perm.mem_iff, mem_numsTo]
theorem isOrd_all {n : Nat} {l : List Int} (hl : l.length = n) (h : ∀ j : Nat, j < n → (j : Int) ∈ l) : IsOrd n l :=
  IsOrd.of_perm (perm_of _ l (numsTo_nodup n) (fun x hx => by
    obtain ⟨h0, h1⟩ := mem_numsTo.1 hx
    have := h x.toNat (by omega)
    rwa [Int.toNat_of_nonneg h0] at this) (by rw [numsTo_length, hl]; exact Nat.le_refl _)).symm
theorem l2Order_l (n : Nat) (l : List Int) (hn : n ≤ 1048576) (hl : l.length < 4611686018427387904) : ∀ (d i : Nat), i + d = n → L (fun k => spec_l2Order.l0 k (n : Int) l (i : Int)) = some (decide (∀ j : Nat, j < n → i ≤ j → (j : Int) ∈ l))
  | 0, i, hi => by
    rw [L_shift]
    simp only [spec_l2Order.l0, if_neg (show ¬ ((i : Int) < (n : Int)) by omega), L_const]
    congr 1
    symm
    rw [decide_eq_true_eq]
    intro j h1 h2
    omega
  | d + 1, i, hi => by
    rw [L_shift]
    have e : wrap64 ((i : Int) + 1) = ((i + 1 : Nat) : Int) := by
      rw [wrap_id (by omega) (by omega)]
      omega
    simp only [spec_l2Order.l0, if_pos (show ((i : Int) < (n : Int)) by omega), L_bind, l1Has_L l _ hl, Option.bind_some, e, L_ite, L_const]
    rw [l2Order_l n l hn hl d (i + 1) (by omega), ite_and]
    congr 1
    rw [← Bool.decide_and]
    apply decide_eq_decide.2
    constructor
    · rintro ⟨h1, h2⟩ j h4 h3
      rcases Nat.eq_or_lt_of_le h3 with rfl | h5
      · exact h1
      · exact h2 j h4 h5
    · intro h
      exact ⟨h i (by omega) (Nat.le_refl _), fun j h4 h3 => h j h4 (by omega)⟩
theorem l2Order_L (n : Nat) (l : List Int) (hn : n ≤ 1048576) (hl : l.length < 4611686018427387904) : L (fun k => spec_l2Order.f k (n : Int) l) = some (decide (n ≤ 8) && orderB n l) := by
  have hj : ∀ b : Bool, L (fun k => spec_l2Order.j0 k (n : Int) l b) = some (!b && decide (∀ j : Nat, j < n → (j : Int) ∈ l)) := by
    intro b
    rw [L_shift]
    simp only [spec_l2Order.j0, L_ite, L_const]
    rw [show ((0 : Int)) = ((0 : Nat) : Int) from rfl]
    rw [l2Order_l n l hn hl n 0 (by omega), ite_not_and]
    simp
  simp only [spec_l2Order.f, l1In_e, Option.bind_some, L_ite, hj]
  by_cases h8 : n ≤ 8
  · rw [if_pos (by rw [inB_iff]; omega)]
    simp only [h8, decide_true, Bool.true_and]
    congr 1
    by_cases hl2 : l.length = n
    · have e : ((l.length : Int) != (n : Int)) = false := by rw [hl2]; simp
      rw [e]
      simp only [Bool.not_false, Bool.true_and]
      by_cases h : ∀ j : Nat, j < n → (j : Int) ∈ l
      · rw [decide_eq_true h, orderB_iff.2 (isOrd_all hl2 h)]
      · rw [decide_eq_false h]
        symm
        rw [Bool.eq_false_iff]
        intro ho
        exact h (fun j hj => (orderB_iff.1 ho).mem.2 (by omega))
    · have e : ((l.length : Int) != (n : Int)) = true := by simp; omega
      rw [e]
      simp only [Bool.not_true, Bool.false_and]
      symm
      rw [Bool.eq_false_iff]
      intro ho
      exact hl2 (orderB_iff.1 ho).1
  · rw [if_neg (by rw [inB_iff]; omega)]
    simp [h8]
theorem isNumber_e (a n : Int) (h0 : -9223372036854775807 ≤ n) (h1 : n ≤ 9223372036854775807) : impl_isNumber.f a n = some (inB a 0 (n - 1)) := by
  simp only [impl_isNumber.f, within_e, Option.bind_some]
  rw [wrap_id (by omega) (by omega)]
theorem take_mid {α : Type} (pre : List α) (r : List α) : (pre ++ r).take (pre.length : Int).toNat = pre := by simp
theorem areDifferent_l (n : Nat) (hn : n ≤ 1048576) (r : List Int) : ∀ pre : List Int, (pre ++ r).length < 4611686018427387904 → L (fun k => impl_areDifferent.l0 k (n : Int) (pre ++ r) (pre ++ r) ((pre ++ r).length : Int) (pre.length : Int)) = some (diffB n pre r) := by
  induction r with
  | nil =>
    intro pre hb
    rw [L_shift]
    simp only [impl_areDifferent.l0, not_lt_end, if_false, L_const]
    simp [diffB]
  | cons x r ih =>
    intro pre hb
    rw [L_shift]
    have hl : pre.length < 4611686018427387904 := by simp at hb; omega
    have e : ((pre.length : Int) ≤ ((pre ++ x :: r).length : Int)) = True := eq_true (by simp; omega)
    simp only [impl_areDifferent.l0, lt_mid, le_nat, if_true, rd_mid, wrap_mid pre x hl, isNumber_e x (n : Int) (by omega) (by omega), Option.bind_some, e, take_mid, L_ite, L_bind, has_L pre x hl, L_const]
    rw [app_cons pre x r, ih (pre ++ [x]) (by simpa using hb), ite_not_and, ite_and]
    rfl
theorem areDifferent_L (n : Nat) (l : List Int) (hn : n ≤ 1048576) (hl : l.length < 4611686018427387904) : L (fun k => impl_areDifferent.f k (n : Int) l) = some (diffB n [] l) := areDifferent_l n hn l [] (by simpa using hl)
theorem isOrder_L (n : Nat) (l : List Int) (hn : n ≤ 1048576) (hl : l.length < 4611686018427387904) : L (fun k => impl_isOrder.f k (n : Int) l) = some (orderB n l) := by
  simp only [impl_isOrder.f, bind_self, L_ite, areDifferent_L n l hn hl, L_const, orderB]
  by_cases h : (l.length : Int) = n <;> simp [h]
theorem copyInts_e (l : List Int) (h : l.length ≤ 1048576) : impl_copyInts.f l = some l := by
  simp only [impl_copyInts.f, Option.bind_some, List.length_nil, List.nil_append]
  rw [if_pos (by omega)]
theorem l1Own_e (l : List Int) (h : l.length ≤ 1048576) : spec_l1Own.f l = some l := by
  simp only [spec_l1Own.f, Option.bind_some, List.length_nil, List.nil_append]
  rw [if_pos (by omega)]
theorem szIntS_e (l : List Int) (v : Int) (h : l.length ≤ 9223372036854775807) (h0 : 0 ≤ v) (h1 : v ≤ 1048576) : laws_szIntS.f l v = some (if (l.length : Int) ≤ v then v - (l.length : Int) else -1) := by
  unfold laws_szIntS.f
  rw [wrap_id (show -9223372036854775808 ≤ v - (l.length : Int) by omega) (by omega)]
  by_cases h2 : (l.length : Int) ≤ v
  · rw [if_neg (by omega), if_pos h2]
  · rw [if_pos (by omega), if_neg h2]
theorem szIntSS_l (r : List (List Int)) : ∀ (pre : List (List Int)) (v : Int), (pre ++ r).length < 4611686018427387904 → 0 ≤ v → v ≤ 1048576 → (∀ x ∈ r, x.length ≤ 9223372036854775807) →
    ∃ t, L (fun k => laws_szIntSS.l0 k (pre ++ r) v (pre.length : Int)) = some t ∧ (t < 0 ∨ 0 ≤ t ∧ ∀ x ∈ r, x.length ≤ 1048576) := by
  induction r with
  | nil =>
    intro pre v hb h0 h1 hr
    rw [L_shift]
    simp only [laws_szIntSS.l0, not_lt_end, if_false, L_const]
    exact ⟨v, rfl, .inr ⟨h0, by simp⟩⟩
  | cons x r ih =>
    intro pre v hb h0 h1 hr
    rw [L_shift]
    have hl : pre.length < 4611686018427387904 := by simp at hb; omega
    have e : rd_L1 (pre ++ x :: r) (pre.length : Int) = x := getD_mid pre x r _
    simp only [laws_szIntSS.l0, lt_mid, le_nat, if_true, e, wrap_mid pre x hl, szIntS_e x v (hr x List.mem_cons_self) h0 h1, Option.bind_some, L_ite, L_const]
    by_cases h2 : (x.length : Int) ≤ v
    · rw [if_pos h2, if_neg (by omega), app_cons pre x r]
      obtain ⟨t, ht, hd⟩ := ih (pre ++ [x]) (v - (x.length : Int)) (by simpa using hb) (by omega) (by omega) (fun y hy => hr y (List.mem_cons_of_mem _ hy))
      refine ⟨t, ht, hd.imp id (fun hd => ⟨hd.1, ?_⟩)⟩
      intro y hy
      rcases List.mem_cons.1 hy with rfl | hy
      · omega
      · exact hd.2 y hy
    · rw [if_neg h2, if_pos (by omega)]
      exact ⟨-1, rfl, .inl (by omega)⟩
theorem szIntSS_L (l : List (List Int)) (v : Int) (h0 : 0 ≤ v) (h1 : v ≤ 1048576) (hl : l.length ≤ 9223372036854775807) (hr : ∀ x ∈ l, x.length ≤ 9223372036854775807) :
    ∃ t, L (fun k => laws_szIntSS.f k l v) = some t ∧ (t < 0 ∨ 0 ≤ t ∧ l.length ≤ 1048576 ∧ ∀ x ∈ l, x.length ≤ 1048576) := by
  simp only [laws_szIntSS.f]
  rw [wrap_id (show -9223372036854775808 ≤ v - (l.length : Int) by omega) (by omega)]
  by_cases h : v - (l.length : Int) < 0
  · simp only [if_pos h, L_const]
    exact ⟨-1, rfl, .inl (by omega)⟩
  · simp only [if_neg h]
    obtain ⟨t, ht, hd⟩ := szIntSS_l l [] (v - (l.length : Int)) (by simp; omega) (by omega) (by omega) hr
    exact ⟨t, ht, hd.imp id (fun hd => ⟨hd.1, by omega, hd.2⟩)⟩
theorem toIntSS_l (r : List (List Int)) : ∀ pre : List (List Int), (pre ++ r).length < 4611686018427387904 → (∀ x ∈ r, x.length ≤ 1048576) → L (fun k => laws_toIntSS.l0 k (pre ++ r) (pre ++ List.replicate r.length []) (pre.length : Int)) = some (pre ++ r) := by
  induction r with
  | nil =>
    intro pre hb hr
    rw [L_shift]
    simp only [laws_toIntSS.l0, not_lt_end, if_false, L_const, List.length_nil, List.replicate_zero]
  | cons x r ih =>
    intro pre hb hr
    rw [L_shift]
    have hl : pre.length < 4611686018427387904 := by simp at hb; omega
    have e : rd_L1 (pre ++ x :: r) (pre.length : Int) = x := getD_mid pre x r _
    simp only [laws_toIntSS.l0, lt_mid, le_nat, if_true, rep_succ, e, wrap_mid pre x hl, L_bind, L_const, toIntS_L x (hr x List.mem_cons_self), Option.bind_some, set_mid pre _ _ _ pre rfl]
    rw [app_cons pre x r, app_cons pre x (List.replicate _ _)]
    exact ih (pre ++ [x]) (by simpa using hb) (fun y hy => hr y (List.mem_cons_of_mem _ hy))
theorem toIntSS_L (l : List (List Int)) (h : l.length ≤ 1048576) (hr : ∀ x ∈ l, x.length ≤ 1048576) : L (fun k => laws_toIntSS.f k l) = some l := by
  simp only [laws_toIntSS.f, le_nat, if_true, Int.toNat_natCast, if_pos (show l.length ≤ 11728124029610 by omega)]
  exact toIntSS_l l [] (by simp; omega) hr
theorem eqIntSS_l (r : List (List Int)) : ∀ pre : List (List Int), (pre ++ r).length < 4611686018427387904 → (∀ x ∈ r, x.length ≤ 1048576) → L (fun k => laws_eqIntSS.l0 k (pre ++ r) (pre ++ r) (pre.length : Int)) = some true := by
  induction r with
  | nil =>
    intro pre hb hr
    rw [L_shift]
    simp only [laws_eqIntSS.l0, not_lt_end, if_false, L_const]
  | cons x r ih =>
    intro pre hb hr
    rw [L_shift]
    have hl : pre.length < 4611686018427387904 := by simp at hb; omega
    have e : rd_L1 (pre ++ x :: r) (pre.length : Int) = x := getD_mid pre x r _
    simp only [laws_eqIntSS.l0, lt_mid, le_nat, if_true, e, wrap_mid pre x hl, L_bind, L_const, eqIntS_L x (hr x List.mem_cons_self), Option.bind_some]
    rw [app_cons pre x r]
    exact ih (pre ++ [x]) (by simpa using hb) (fun y hy => hr y (List.mem_cons_of_mem _ hy))
theorem eqIntSS_L (l : List (List Int)) (h : l.length ≤ 1048576) (hr : ∀ x ∈ l, x.length ≤ 1048576) : L (fun k => laws_eqIntSS.f k l l) = some true := by
  simp only [laws_eqIntSS.f, if_true]
  exact eqIntSS_l l [] (by simp; omega) hr
def shopM (S : List (List Int)) : Int := if (S.length : Int) = 0 then 1 else ((S.getD 0 []).length : Int)
def shopRow (m : Int) (row : List Int) : Bool := decide ((row.length : Int) = m) && row.all (fun x => inB x 0 30)
/-- A shop. -/
def shopB (S : List (List Int)) : Bool := S.all (shopRow (shopM S)) && (decide ((S.length : Int) ≤ 8) && inB (shopM S) 1 3)
structure Shop (S : List (List Int)) (m : Nat) : Prop where
  len : S.length ≤ 8
  m1 : 1 ≤ m
  m3 : m ≤ 3
  eq : shopM S = (m : Int)
  row : ∀ r ∈ S, r.length = m
  val : ∀ r ∈ S, ∀ x ∈ r, 0 ≤ x ∧ x ≤ 30
theorem shopB_iff {S : List (List Int)} (h : shopB S = true) : ∃ m : Nat, Shop S m := by
  simp only [shopB, Bool.and_eq_true, List.all_eq_true, decide_eq_true_eq, inB_iff, shopRow] at h
  obtain ⟨h1, h2, h3⟩ := h
  refine ⟨(shopM S).toNat, by omega, by omega, by omega, by omega, fun r hr => ?_, fun r hr x hx => (h1 r hr).2 x hx⟩
  have := (h1 r hr).1
  omega
theorem l8Machines_e (S : List (List Int)) : spec_l8Machines.f S = some (shopM S) := by
  unfold spec_l8Machines.f shopM
  by_cases h : (S.length : Int) = 0
  · rw [if_pos h, if_pos h]
  · rw [if_neg h, if_neg h, if_pos (by omega)]
    rfl
theorem machinesOf_e (S : List (List Int)) : impl_machinesOf.f S = some (shopM S) := by
  unfold impl_machinesOf.f shopM
  by_cases h : (S.length : Int) = 0
  · rw [if_pos h, if_pos h]
  · rw [if_neg h, if_neg h, if_pos (by omega)]
    rfl
theorem allWithin_l (lo hi : Int) (r : List Int) : ∀ pre : List Int, (pre ++ r).length < 4611686018427387904 → L (fun k => impl_allWithin.l0 k lo hi (pre ++ r) ((pre ++ r).length : Int) (pre.length : Int)) = some (r.all (fun x => inB x lo hi)) := by
  induction r with
  | nil =>
    intro pre hb
    rw [L_shift]
    simp only [impl_allWithin.l0, not_lt_end, if_false, L_const]
    rfl
  | cons x r ih =>
    intro pre hb
    rw [L_shift]
    have hl : pre.length < 4611686018427387904 := by simp at hb; omega
    simp only [impl_allWithin.l0, lt_mid, le_nat, if_true, rd_mid, wrap_mid pre x hl, within_e, Option.bind_some, L_ite, L_const]
    rw [app_cons pre x r, ih (pre ++ [x]) (by simpa using hb), ite_and, List.all_cons]
theorem allWithin_L (l : List Int) (lo hi : Int) (h : l.length < 4611686018427387904) : L (fun k => impl_allWithin.f k l lo hi) = some (l.all (fun x => inB x lo hi)) := by
  have := allWithin_l lo hi l [] (by simpa using h)
  simpa [impl_allWithin.f] using this
theorem isShop_l (S : List (List Int)) (m : Int) (hm : m = ((S.getD 0 []).length : Int)) (hS : 0 < S.length) (r : List (List Int)) : ∀ pre : List (List Int), (pre ++ r).length < 4611686018427387904 → (∀ x ∈ r, x.length ≤ 1048576) →
    L (fun k => impl_isShop.l0 k S (pre ++ r) ((pre ++ r).length : Int) (pre.length : Int)) = some (r.all (fun row => inB (row.length : Int) 1 3 && shopRow m row)) := by
  induction r with
  | nil =>
    intro pre hb hr
    rw [L_shift]
    simp only [impl_isShop.l0, not_lt_end, if_false, L_const]
    rfl
  | cons x r ih =>
    intro pre hb hr
    rw [L_shift]
    have hl : pre.length < 4611686018427387904 := by simp at hb; omega
    have e : rd_L1 (pre ++ x :: r) (pre.length : Int) = x := getD_mid pre x r _
    have e0 : ((rd_L1 S 0).length : Int) = m := by rw [hm]; rfl
    simp only [impl_isShop.l0, lt_mid, le_nat, if_true, e, e0, wrap_mid pre x hl, within_e, Option.bind_some, L_ite, L_const, L_bind, allWithin_L x 0 30 (by have := hr x List.mem_cons_self; omega), if_pos (show 0 < (S.length : Int) by omega)]
    rw [app_cons pre x r, ih (pre ++ [x]) (by simpa using hb) (fun y hy => hr y (List.mem_cons_of_mem _ hy))]
    rw [List.all_cons, ite_and, shopRow]
    by_cases h1 : inB (x.length : Int) 1 3 = true
    · rw [if_pos h1, h1]
      by_cases h2 : (x.length : Int) = m
      · rw [if_pos h2, decide_eq_true h2]
        simp
      · rw [if_neg h2, decide_eq_false h2]
        simp
    · rw [if_neg h1]
      simp only [Bool.not_eq_true] at h1
      rw [h1]
      simp
theorem isShop_L (S : List (List Int)) (h : S.length ≤ 1048576) (hr : ∀ x ∈ S, x.length ≤ 1048576) : L (fun k => impl_isShop.f k S) = some (shopB S) := by
  simp only [impl_isShop.f, L_ite, L_const]
  by_cases h8 : (S.length : Int) ≤ 8
  · rw [if_neg (by omega)]
    cases S with
    | nil =>
      rw [L_shift]
      simp [impl_isShop.l0, L_const]
      rfl
    | cons r0 S =>
      have := isShop_l (r0 :: S) (r0.length : Int) rfl (by simp) (r0 :: S) [] (by simp at h8 ⊢; omega) hr
      simp only [List.nil_append, List.length_nil, Int.natCast_zero] at this
      rw [this]
      congr 1
      have em : shopM (r0 :: S) = (r0.length : Int) := by
        unfold shopM
        rw [if_neg (by simp; omega)]
        rfl
      rw [shopB, em, decide_eq_true h8, Bool.true_and, Bool.eq_iff_iff]
      simp only [Bool.and_eq_true, List.all_eq_true]
      constructor
      · intro hh
        exact ⟨fun x hx => (hh x hx).2, (hh r0 List.mem_cons_self).1⟩
      · rintro ⟨h1, h2⟩ x hx
        refine ⟨?_, h1 x hx⟩
        have h3 := h1 x hx
        rw [shopRow, Bool.and_eq_true, decide_eq_true_eq] at h3
        rw [h3.1]
        exact h2
  · rw [if_pos (by omega)]
    simp [shopB, h8]
theorem l8Good_in (S : List (List Int)) (m : Int) (p : List (List Int)) (x : List Int) (q : List (List Int)) (hS : S = p ++ x :: q) (hx : (x.length : Int) = m) (hx2 : x.length ≤ 1048576) (r : List Int) : ∀ pre : List Int, pre ++ r = x →
    L (fun k => spec_l8Good.l1 k S m (p.length : Int) (pre.length : Int)) = if r.all (fun y => inB y 0 30) = true then L (fun k => spec_l8Good.l0 k S m (wrap64 ((p.length : Int) + 1))) else some false := by
  induction r with
  | nil =>
    intro pre hp
    rw [L_shift]
    simp only [List.append_nil] at hp
    subst hp
    simp only [spec_l8Good.l1, if_neg (show ¬ ((pre.length : Int) < m) by omega), List.all_nil, if_true]
  | cons y r ih =>
    intro pre hp
    rw [L_shift]
    have e : rd_L1 S (p.length : Int) = x := by rw [hS]; exact getD_mid p x q _
    have e1 : rd x (pre.length : Int) = y := by rw [← hp]; exact rd_mid pre y r
    have hl : x.length = pre.length + (r.length + 1) := by rw [← hp]; simp
    have c1 : ((p.length : Int) < (S.length : Int)) = True := by rw [hS]; exact lt_mid p x q
    simp only [spec_l8Good.l1, if_pos (show (pre.length : Int) < m by omega), le_nat, c1, if_true, e, if_pos (show (pre.length : Int) < (x.length : Int) by omega), e1, l1In_e, Option.bind_some, wrap_mid pre y (by omega), L_ite, L_const, ih (pre ++ [y]) (by rw [← hp]; simp), List.all_cons]
    by_cases h1 : inB y 0 30 = true
    · simp only [h1, if_true, Bool.true_and]
    · simp only [Bool.not_eq_true] at h1
      simp only [h1, Bool.false_eq_true, if_false, Bool.false_and]
theorem l8Good_l (S : List (List Int)) (hr : ∀ x ∈ S, x.length ≤ 1048576) (m : Int) : ∀ (r pre : List (List Int)), pre ++ r = S → S.length < 4611686018427387904 →
    L (fun k => spec_l8Good.l0 k S m (pre.length : Int)) = some (r.all (shopRow m) && (decide ((S.length : Int) ≤ 8) && inB m 1 3))
  | [], pre, hp, hb => by
    rw [L_shift]
    simp only [List.append_nil] at hp
    subst hp
    simp only [spec_l8Good.l0, if_neg (show ¬ ((pre.length : Int) < (pre.length : Int)) by omega), l1In_e, Option.bind_some, L_const, List.all_nil, Bool.true_and]
    by_cases h : (pre.length : Int) ≤ 8
    · rw [if_pos h, decide_eq_true h, Bool.true_and]
    · rw [if_neg h, decide_eq_false h, Bool.false_and]
  | x :: r, pre, hp, hb => by
    rw [L_shift]
    have hl : pre.length < 4611686018427387904 := by rw [← hp] at hb; simp at hb; omega
    have e : rd_L1 S (pre.length : Int) = x := by rw [← hp]; exact getD_mid pre x r _
    have c1 : ((pre.length : Int) < (S.length : Int)) = True := by rw [← hp]; exact lt_mid pre x r
    have hx : x ∈ S := by rw [← hp]; simp
    simp only [spec_l8Good.l0, c1, le_nat, if_true, e, L_ite, L_const]
    by_cases h : (x.length : Int) = m
    · have h2 := l8Good_in S m pre x r hp.symm h (hr x hx) x [] rfl
      simp only [List.length_nil, Int.natCast_zero] at h2
      rw [if_pos h, h2, wrap_mid pre x hl, l8Good_l S hr m r (pre ++ [x]) (by rw [← hp]; simp) hb, List.all_cons, shopRow, decide_eq_true h, Bool.true_and, ite_and, Bool.and_assoc]
    · rw [if_neg h, List.all_cons, shopRow, decide_eq_false h, Bool.false_and, Bool.false_and, Bool.false_and]
theorem l8Good_L (S : List (List Int)) (h : S.length ≤ 1048576) (hr : ∀ x ∈ S, x.length ≤ 1048576) : L (fun k => spec_l8Good.f k S) = some (shopB S) := by
  simp only [spec_l8Good.f, l8Machines_e, Option.bind_some]
  exact l8Good_l S hr (shopM S) S [] rfl (by omega)
/-- Rows of the numbers from v on, each as long as a list's rows. -/
def countSS {α : Type} : Int → List (List α) → List (List Int)
  | _, [] => []
  | v, x :: r => countI v x :: countSS (v + x.length) r
def sumLen {α : Type} : List (List α) → Nat
  | [] => 0
  | x :: r => x.length + sumLen r
theorem markIntSS_l (r : List (List Int)) : ∀ (pre : List (List Int)) (v : Int), (pre ++ r).length < 4611686018427387904 → 0 ≤ v → v + (sumLen r : Int) ≤ 1000000000 → (∀ x ∈ r, x.length ≤ 1048576) →
    L (fun k => laws_markIntSS.l0 k (pre ++ r) v (pre.length : Int)) = some (v + (sumLen r : Int), pre ++ countSS v r) := by
  induction r with
  | nil =>
    intro pre v hb h0 h1 hr
    rw [L_shift]
    simp only [laws_markIntSS.l0, not_lt_end, if_false, L_const]
    simp [countSS, sumLen]
  | cons x r ih =>
    intro pre v hb h0 h1 hr
    rw [L_shift]
    have hl : pre.length < 4611686018427387904 := by simp at hb; omega
    have e : (pre ++ x :: r).getD (pre.length : Int).toNat ([] : List Int) = x := getD_mid pre x r _
    simp only [sumLen, Int.natCast_add] at h1
    simp only [laws_markIntSS.l0, lt_mid, le_nat, if_true, e, L_bind, L_const, markIntS_L x v (hr x List.mem_cons_self) h0 (by omega), Option.bind_some, set_mid pre x _ r pre rfl, wrap_mid pre x hl]
    rw [app_cons pre (countI v x) r, show (pre ++ [x]).length = (pre ++ [countI v x]).length by simp, ih (pre ++ [countI v x]) (v + x.length) (by simpa using hb) (by omega) (by omega) (fun y hy => hr y (List.mem_cons_of_mem _ hy))]
    simp only [countSS, sumLen, List.append_assoc, List.cons_append, List.nil_append, Int.natCast_add, Option.some.injEq, Prod.mk.injEq, and_true]
    omega
theorem markIntSS_L (l : List (List Int)) (v : Int) (h : l.length ≤ 1048576) (hr : ∀ x ∈ l, x.length ≤ 1048576) (h0 : 0 ≤ v) (h1 : v + (sumLen l : Int) ≤ 1000000000) : L (fun k => laws_markIntSS.f k l v) = some (v + (sumLen l : Int), countSS v l) := by
  have := markIntSS_l l [] v (by simp; omega) h0 h1 hr
  simpa [laws_markIntSS.f] using this
def numsFrom (i d : Nat) : List Int := (List.range' i d).map (fun j : Nat => (j : Int))
theorem numsFrom_all (n : Nat) : numsFrom 0 n = numsTo n := by
  unfold numsFrom numsTo
  rw [List.range_eq_range']
theorem numsFrom_cons (i d : Nat) : numsFrom i (d + 1) = (i : Int) :: numsFrom (i + 1) d := by
  unfold numsFrom
  rw [List.range'_succ]
  rfl
/-- The ends of one job's operations, from what the machines had. -/
def rowF : List Int → List Int → Int → List Int
  | f :: fs, x :: xs, now => (max now f + x) :: rowF fs xs (max now f + x)
  | _, _, _ => []
theorem rowF_len : ∀ (fs xs : List Int) (now : Int), fs.length = xs.length → (rowF fs xs now).length = fs.length
  | [], [], _, _ => rfl
  | f :: fs, x :: xs, now, h => by simp only [rowF, List.length_cons, rowF_len fs xs _ (by simpa using h)]
theorem rowF_bd : ∀ (fs xs : List Int) (now B : Int), (∀ f ∈ fs, 0 ≤ f ∧ f ≤ B) → (∀ x ∈ xs, 0 ≤ x ∧ x ≤ 30) → 0 ≤ now → now ≤ B → ∀ e ∈ rowF fs xs now, 0 ≤ e ∧ e ≤ B + 30 * (fs.length : Int)
  | [], _, _, _, _, _, _, _, e, he => by simp [rowF] at he
  | _ :: _, [], _, _, _, _, _, _, e, he => by simp [rowF] at he
  | f :: fs, x :: xs, now, B, hf, hx, h0, h1, e, he => by
    have f1 := hf f List.mem_cons_self
    have x1 := hx x List.mem_cons_self
    simp only [rowF, List.mem_cons] at he
    simp only [List.length_cons]
    rcases he with rfl | he
    · omega
    · have := rowF_bd fs xs (max now f + x) (B + 30) (fun g hg => by have := hf g (List.mem_cons_of_mem _ hg); omega) (fun y hy => hx y (List.mem_cons_of_mem _ hy)) (by omega) (by omega) e he
      omega
theorem rowF_up : ∀ (fs xs : List Int) (now : Int), fs.length = xs.length → (∀ x ∈ xs, 0 ≤ x) → ∀ f ∈ fs, ∃ e ∈ rowF fs xs now, f ≤ e
  | [], _, _, _, _, f, hf => by cases hf
  | f :: fs, [], _, h, _, _, _ => by simp at h
  | f :: fs, x :: xs, now, h, hx, g, hg => by
    have x1 := hx x List.mem_cons_self
    rcases List.mem_cons.1 hg with rfl | hg
    · exact ⟨_, List.mem_cons_self, by omega⟩
    · obtain ⟨e, h1, h2⟩ := rowF_up fs xs (max now f + x) (by simpa using h) (fun y hy => hx y (List.mem_cons_of_mem _ hy)) g hg
      exact ⟨e, List.mem_cons_of_mem _ h1, h2⟩
/-- The greatest number, 0 of none. -/
def mxL : List Int → Int
  | [] => 0
  | x :: r => max x (mxL r)
theorem mxL_nn : ∀ l, 0 ≤ mxL l
  | [] => Int.le_refl _
  | x :: r => by have := mxL_nn r; simp only [mxL]; omega
theorem mxL_ge : ∀ (l : List Int), ∀ x ∈ l, x ≤ mxL l
  | x :: r, y, h => by
    rcases List.mem_cons.1 h with rfl | h
    · simp only [mxL]; omega
    · have := mxL_ge r y h
      simp only [mxL]; omega
theorem mxL_le (B : Int) (hB : 0 ≤ B) : ∀ (l : List Int), (∀ x ∈ l, x ≤ B) → mxL l ≤ B
  | [], _ => hB
  | x :: r, h => by
    have h1 := h x List.mem_cons_self
    have h2 := mxL_le B hB r (fun y hy => h y (List.mem_cons_of_mem _ hy))
    simp only [mxL]; omega
theorem mxL_row (fs xs : List Int) (now : Int) (h : fs.length = xs.length) (hx : ∀ x ∈ xs, 0 ≤ x) : mxL fs ≤ mxL (rowF fs xs now) := by
  refine mxL_le _ (mxL_nn _) fs (fun f hf => ?_)
  obtain ⟨e, h1, h2⟩ := rowF_up fs xs now h hx f hf
  have := mxL_ge _ e h1
  omega
theorem Shop.rowAt {S : List (List Int)} {m : Nat} (h : Shop S m) {x : Int} (hx : 0 ≤ x ∧ x < (S.length : Int)) : (S.getD x.toNat []).length = m ∧ ∀ y ∈ S.getD x.toNat [], 0 ≤ y ∧ y ≤ 30 := by
  have hl : x.toNat < S.length := by omega
  have e : S.getD x.toNat [] = S[x.toNat] := by rw [List.getD_eq_getElem?_getD, List.getElem?_eq_getElem hl]; rfl
  rw [e]
  exact ⟨h.row _ (List.getElem_mem hl), h.val _ (List.getElem_mem hl)⟩
def flE (S : List (List Int)) : List Int → List (List Int) → List Int → List (List Int)
  | [], out, _ => out
  | x :: r, out, free => flE S r (out.set x.toNat (rowF free (S.getD x.toNat []) 0)) (rowF free (S.getD x.toNat []) 0)
def flF (S : List (List Int)) : List Int → List Int → List Int
  | [], free => free
  | x :: r, free => flF S r (rowF free (S.getD x.toNat []) 0)
theorem flE_len (S : List (List Int)) : ∀ (r : List Int) (out : List (List Int)) (free : List Int), (flE S r out free).length = out.length
  | [], _, _ => rfl
  | x :: r, out, free => by rw [flE, flE_len, List.length_set]
theorem flE_bd {S : List (List Int)} {m : Nat} (h : Shop S m) : ∀ (r : List Int) (out : List (List Int)) (free : List Int), free.length = m → (∀ x ∈ r, 0 ≤ x ∧ x < (S.length : Int)) → (∀ row ∈ out, row.length ≤ 3 ∧ mxL row ≤ mxL free) → ∀ row ∈ flE S r out free, row.length ≤ 3 ∧ mxL row ≤ mxL (flF S r free)
  | [], out, free, _, _, ho => ho
  | x :: r, out, free, hf, hx, ho => by
    have hrw := Shop.rowAt h (hx x List.mem_cons_self)
    have hm3 := h.m3
    have hlen := rowF_len free (S.getD x.toNat []) 0 (by rw [hf, hrw.1])
    rw [flE, flF]
    refine flE_bd h r _ _ (by rw [hlen, hf]) (fun y hy => hx y (List.mem_cons_of_mem _ hy)) (fun row hrow => ?_)
    have hup := mxL_row free (S.getD x.toNat []) 0 (by rw [hf, hrw.1]) (fun y hy => (hrw.2 y hy).1)
    rcases List.mem_or_eq_of_mem_set hrow with h1 | h1
    · have := ho row h1
      exact ⟨this.1, by omega⟩
    · rw [h1]
      exact ⟨by rw [hlen]; omega, Int.le_refl _⟩
theorem flE_last (S : List (List Int)) : ∀ (r : List Int) (y : Int) (out : List (List Int)) (free : List Int), 0 ≤ y → y < (out.length : Int) → (flE S (r ++ [y]) out free).getD y.toNat [] = flF S (r ++ [y]) free
  | [], y, out, free, h0, h1 => by
    show ((out.set y.toNat (rowF free (S.getD y.toNat []) 0))).getD y.toNat [] = rowF free (S.getD y.toNat []) 0
    rw [List.getD_eq_getElem?_getD, List.getElem?_set_self (by omega)]
    rfl
  | x :: r, y, out, free, h0, h1 => by
    rw [List.cons_append, flE, flF]
    exact flE_last S r y _ _ h0 (by rw [List.length_set]; exact h1)
theorem l8Ends_in {S : List (List Int)} (o : List Int) (out : List (List Int)) (pre : List Int) (x : Int) (r : List Int) (ho : o = pre ++ x :: r) (hol : o.length ≤ 1000) (hx : 0 ≤ x ∧ x < (S.length : Int)) (hout : out.length = S.length) : ∀ (fs xs dn a : List Int) (now : Int), S.getD x.toNat [] = a ++ xs → a.length = dn.length → fs.length = xs.length → (dn.length + fs.length ≤ 1000) → 0 ≤ now → now + 30 * (fs.length : Int) ≤ 100000000 → (∀ f ∈ fs, 0 ≤ f ∧ f + 30 * (fs.length : Int) ≤ 100000000) → (∀ y ∈ xs, 0 ≤ y ∧ y ≤ 30) →
    L (fun k => spec_l8Ends.l1 k S o out (dn ++ fs) (pre.length : Int) dn now (dn.length : Int)) = L (fun k => spec_l8Ends.l0 k S o (out.set x.toNat (dn ++ rowF fs xs now)) (dn ++ rowF fs xs now) ((pre ++ [x]).length : Int))
  | [], [], dn, a, now, _, _, _, _, _, _, _, _ => by
    have hol2 : pre.length + (r.length + 1) ≤ 1000 := by rw [ho] at hol; simpa using hol
    have er : rd o (pre.length : Int) = x := by rw [ho]; exact rd_mid pre x r
    have ew : wrap64 ((pre.length : Int) + 1) = ((pre ++ [x]).length : Int) := wrap_mid pre x (by omega)
    rw [L_shift]
    simp only [spec_l8Ends.l1, List.append_nil, if_neg (show ¬ ((dn.length : Int) < (dn.length : Int)) by omega), le_nat, if_true, if_pos (show (pre.length : Int) < (o.length : Int) by rw [ho]; simp; omega), er, if_pos hx.1, if_pos (show x < (out.length : Int) by rw [hout]; exact hx.2), ew, rowF]
  | f :: fs, z :: xs, dn, a, now, hS, ha, hl, hd, h0, h1, hf, hy => by
    have f1 := hf f List.mem_cons_self
    have z1 := hy z List.mem_cons_self
    simp only [List.length_cons] at hd h1 f1
    have hlen : ((dn ++ f :: fs).length : Int) = (dn.length : Int) + (fs.length : Int) + 1 := by simp; omega
    have er : rd o (pre.length : Int) = x := by rw [ho]; exact rd_mid pre x r
    have e1 : rd (dn ++ f :: fs) (dn.length : Int) = f := rd_mid dn f fs
    have e2 : rd_L1 S x = a ++ z :: xs := hS
    have e3 : rd (a ++ z :: xs) (dn.length : Int) = z := by rw [← ha]; exact rd_mid a z xs
    have e4 : (dn ++ f :: fs).set (dn.length : Int).toNat (max now f + z) = (dn ++ [max now f + z]) ++ fs := by rw [set_mid dn f _ fs dn rfl]; simp
    have e5 : wrap64 ((dn.length : Int) + 1) = ((dn ++ [max now f + z]).length : Int) := wrap_mid dn _ (by omega)
    rw [L_shift]
    simp only [spec_l8Ends.l1, if_pos (show (dn.length : Int) < ((dn ++ f :: fs).length : Int) by omega), le_nat, if_true, e1, l1Most_e, Option.bind_some, if_pos (show (pre.length : Int) < (o.length : Int) by rw [ho]; simp; omega), er, if_pos hx.1, if_pos hx.2, e2, if_pos (show (dn.length : Int) < ((a ++ z :: xs).length : Int) by simp; omega), e3, if_pos (show dn.length < 17592186044416 by omega), wrap_id (show -9223372036854775808 ≤ max now f + z by omega) (by omega), e4, e5]
    have ih := l8Ends_in o out pre x r ho hol hx hout fs xs (dn ++ [max now f + z]) (a ++ [z]) (max now f + z) (by rw [hS]; simp) (by simp [ha]) (by simpa using hl) (by simp; omega) (by omega) (by omega) (fun g hg => by have := hf g (List.mem_cons_of_mem _ hg); simp only [List.length_cons] at this; omega) (fun y hyy => hy y (List.mem_cons_of_mem _ hyy))
    rw [ih, rowF]
    simp
theorem l8Ends_l {S : List (List Int)} {m : Nat} (h : Shop S m) (o : List Int) (hol : o.length ≤ 1000) : ∀ (r pre : List Int) (out : List (List Int)) (free : List Int) (B : Int), o = pre ++ r → (∀ x ∈ r, 0 ≤ x ∧ x < (S.length : Int)) → out.length = S.length → free.length = m → 0 ≤ B → (∀ f ∈ free, 0 ≤ f ∧ f ≤ B) → B + 100 * (r.length : Int) ≤ 10000000 → L (fun k => spec_l8Ends.l0 k S o out free (pre.length : Int)) = some (flE S r out free)
  | [], pre, out, free, B, e, _, _, _, _, _, _ => by
    rw [List.append_nil] at e
    rw [L_shift]
    simp only [spec_l8Ends.l0, if_neg (show ¬ ((pre.length : Int) < (o.length : Int)) by rw [e]; omega), L_const, flE]
  | x :: r, pre, out, free, B, e, hx, ho, hf, hB, hb, hB2 => by
    have hx0 := hx x List.mem_cons_self
    have hrw := Shop.rowAt h hx0
    have hm3 := h.m3
    simp only [List.length_cons] at hB2
    have h1 := l8Ends_in o out pre x r e hol hx0 ho free (S.getD x.toNat []) [] [] 0 rfl rfl (by rw [hf, hrw.1]) (by simp; omega) (by omega) (by omega) (fun f hff => by have := hb f hff; omega) hrw.2
    simp only [List.nil_append, List.length_nil, Int.natCast_zero] at h1
    have hlen := rowF_len free (S.getD x.toNat []) 0 (by rw [hf, hrw.1])
    rw [L_shift]
    simp only [spec_l8Ends.l0, if_pos (show (pre.length : Int) < (o.length : Int) by rw [e]; simp; omega), h1]
    rw [flE]
    exact l8Ends_l h o hol r (pre ++ [x]) _ _ (B + 90) (by rw [e]; simp) (fun y hy => hx y (List.mem_cons_of_mem _ hy)) (by rw [List.length_set]; exact ho) (by rw [hlen, hf]) (by omega) (fun f hff => by have := rowF_bd free (S.getD x.toNat []) 0 B hb hrw.2 (by omega) hB f hff; omega) (by omega)
theorem l8Ends_L {S : List (List Int)} {m : Nat} (h : Shop S m) (o : List Int) (ho : o.length ≤ 1000) (hx : ∀ x ∈ o, 0 ≤ x ∧ x < (S.length : Int)) : L (fun k => spec_l8Ends.f k S o) = some (flE S o (List.replicate S.length []) (List.replicate m 0)) := by
  have hlen := h.len
  have hm3 := h.m3
  have hr : List.replicate ((m : Int)).toNat (0 : Int) = List.replicate m 0 := by rw [Int.toNat_natCast]
  have := l8Ends_l h o ho o [] (List.replicate S.length []) (List.replicate m 0) 0 rfl hx (by simp) (by simp) (by omega) (fun f hf => by rw [(List.mem_replicate.1 hf).2]; omega) (by omega)
  simp only [List.length_nil, Int.natCast_zero] at this
  simp only [spec_l8Ends.f, le_nat, if_true, Int.toNat_natCast, if_pos (show S.length ≤ 11728124029610 by omega), l8Machines_e, h.eq, Option.bind_some, if_pos (show m ≤ 35184372088832 by omega), this]
theorem flowEnds_in {S : List (List Int)} (o : List Int) (out : List (List Int)) (pre : List Int) (x : Int) (r : List Int) (ho : o = pre ++ x :: r) (hol : o.length ≤ 1000) (hx : 0 ≤ x ∧ x < (S.length : Int)) (hout : out.length = S.length) (row : List Int) : ∀ (fs xs dn a : List Int) (now : Int), row = a ++ xs → a.length = dn.length → fs.length = xs.length → (dn.length + fs.length ≤ 1000) → 0 ≤ now → now + 30 * (fs.length : Int) ≤ 100000000 → (∀ f ∈ fs, 0 ≤ f ∧ f + 30 * (fs.length : Int) ≤ 100000000) → (∀ y ∈ xs, 0 ≤ y ∧ y ≤ 30) →
    L (fun k => impl_flowEnds.l1 k S out (dn ++ fs) x now o (o.length : Int) (pre.length : Int) row (row.length : Int) (dn.length : Int)) = L (fun k => impl_flowEnds.l0 k S (out.set x.toNat (dn ++ rowF fs xs now)) (dn ++ rowF fs xs now) o (o.length : Int) ((pre ++ [x]).length : Int))
  | [], [], dn, a, now, hrow, ha, _, hd, _, _, _, _ => by
    have hol2 : pre.length + (r.length + 1) ≤ 1000 := by rw [ho] at hol; simpa using hol
    have ew : wrap64 ((pre.length : Int) + 1) = ((pre ++ [x]).length : Int) := wrap_mid pre x (by omega)
    simp only [List.length_nil, Nat.add_zero] at hd
    rw [List.append_nil] at hrow
    rw [L_shift]
    simp only [impl_flowEnds.l1, List.append_nil, if_neg (show ¬ ((dn.length : Int) < (row.length : Int)) by rw [hrow]; omega), copyInts_e dn (by omega), Option.bind_some, if_pos hx.1, if_pos (show x < (out.length : Int) by rw [hout]; exact hx.2), ew, rowF]
  | f :: fs, z :: xs, dn, a, now, hrow, ha, hl, hd, h0, h1, hf, hy => by
    have f1 := hf f List.mem_cons_self
    have z1 := hy z List.mem_cons_self
    simp only [List.length_cons] at hd h1 f1
    have e1 : rd (dn ++ f :: fs) (dn.length : Int) = f := rd_mid dn f fs
    have e3 : rd row (dn.length : Int) = z := by rw [hrow, ← ha]; exact rd_mid a z xs
    have e4 : (dn ++ f :: fs).set (dn.length : Int).toNat (max now f + z) = (dn ++ [max now f + z]) ++ fs := by rw [set_mid dn f _ fs dn rfl]; simp
    have e5 : wrap64 ((dn.length : Int) + 1) = ((dn ++ [max now f + z]).length : Int) := wrap_mid dn _ (by omega)
    have hrl : (dn.length : Int) < (row.length : Int) := by rw [hrow]; simp; omega
    rw [L_shift]
    simp only [impl_flowEnds.l1, if_pos hrl, le_nat, if_true, if_pos (show (dn.length : Int) < ((dn ++ f :: fs).length : Int) by simp; omega), e1, mx_e, e3, wrap_id (show -9223372036854775808 ≤ max now f + z by omega) (by omega), e4, e5]
    have ih := flowEnds_in o out pre x r ho hol hx hout row fs xs (dn ++ [max now f + z]) (a ++ [z]) (max now f + z) (by rw [hrow]; simp) (by simp [ha]) (by simpa using hl) (by simp; omega) (by omega) (by omega) (fun g hg => by have := hf g (List.mem_cons_of_mem _ hg); simp only [List.length_cons] at this; omega) (fun y hyy => hy y (List.mem_cons_of_mem _ hyy))
    rw [ih, rowF]
    simp
theorem flowEnds_l {S : List (List Int)} {m : Nat} (h : Shop S m) (o : List Int) (hol : o.length ≤ 1000) : ∀ (r pre : List Int) (out : List (List Int)) (free : List Int) (B : Int), o = pre ++ r → (∀ x ∈ r, 0 ≤ x ∧ x < (S.length : Int)) → out.length = S.length → free.length = m → 0 ≤ B → (∀ f ∈ free, 0 ≤ f ∧ f ≤ B) → B + 100 * (r.length : Int) ≤ 10000000 → L (fun k => impl_flowEnds.l0 k S out free o (o.length : Int) (pre.length : Int)) = some (flE S r out free)
  | [], pre, out, free, B, e, _, _, _, _, _, _ => by
    rw [List.append_nil] at e
    rw [L_shift]
    simp only [impl_flowEnds.l0, if_neg (show ¬ ((pre.length : Int) < (o.length : Int)) by rw [e]; omega), L_const, flE]
  | x :: r, pre, out, free, B, e, hx, ho, hf, hB, hb, hB2 => by
    have hx0 := hx x List.mem_cons_self
    have hrw := Shop.rowAt h hx0
    have hm3 := h.m3
    simp only [List.length_cons] at hB2
    have er : rd o (pre.length : Int) = x := by rw [e]; exact rd_mid pre x r
    have erow : rd_L1 S x = S.getD x.toNat [] := rfl
    have h1 := flowEnds_in o out pre x r e hol hx0 ho (S.getD x.toNat []) free (S.getD x.toNat []) [] [] 0 rfl rfl (by rw [hf, hrw.1]) (by simp; omega) (by omega) (by omega) (fun f hff => by have := hb f hff; omega) hrw.2
    simp only [List.nil_append, List.length_nil, Int.natCast_zero] at h1
    have hlen := rowF_len free (S.getD x.toNat []) 0 (by rw [hf, hrw.1])
    rw [L_shift]
    simp only [impl_flowEnds.l0, if_pos (show (pre.length : Int) < (o.length : Int) by rw [e]; simp; omega), le_nat, if_true, er, if_pos hx0.1, if_pos hx0.2, erow, h1]
    rw [flE]
    exact flowEnds_l h o hol r (pre ++ [x]) _ _ (B + 90) (by rw [e]; simp) (fun y hy => hx y (List.mem_cons_of_mem _ hy)) (by rw [List.length_set]; exact ho) (by rw [hlen, hf]) (by omega) (fun f hff => by have := rowF_bd free (S.getD x.toNat []) 0 B hb hrw.2 (by omega) hB f hff; omega) (by omega)
theorem flowEnds_L {S : List (List Int)} {m : Nat} (h : Shop S m) (o : List Int) (ho : o.length ≤ 1000) (hx : ∀ x ∈ o, 0 ≤ x ∧ x < (S.length : Int)) : L (fun k => impl_flowEnds.f k S o) = some (flE S o (List.replicate S.length []) (List.replicate m 0)) := by
  have hlen := h.len
  have hm3 := h.m3
  have := flowEnds_l h o ho o [] (List.replicate S.length []) (List.replicate m 0) 0 rfl hx (by simp) (by simp) (by omega) (fun f hf => by rw [(List.mem_replicate.1 hf).2]; omega) (by omega)
  simp only [List.length_nil, Int.natCast_zero] at this
  simp only [impl_flowEnds.f, le_nat, if_true, Int.toNat_natCast, if_pos (show S.length ≤ 11728124029610 by omega), machinesOf_e, h.eq, Option.bind_some, if_pos (show m ≤ 35184372088832 by omega), this]
theorem fl2Last_l (l : List Int) (hl : l.length ≤ 1000) : ∀ (r pre : List Int) (v : Int), l = pre ++ r → 0 ≤ v → L (fun k => spec_l2Last.l0 k l v (pre.length : Int)) = some (max v (mxL r))
  | [], pre, v, e, hv => by
    rw [List.append_nil] at e
    rw [L_shift]
    simp only [spec_l2Last.l0, if_neg (show ¬ ((pre.length : Int) < (l.length : Int)) by rw [e]; omega), L_const, mxL, Option.some.injEq]
    omega
  | x :: r, pre, v, e, hv => by
    have hl2 : pre.length + (r.length + 1) ≤ 1000 := by rw [e] at hl; simpa using hl
    have e1 : rd l (pre.length : Int) = x := by rw [e]; exact rd_mid pre x r
    have e5 : wrap64 ((pre.length : Int) + 1) = ((pre ++ [x]).length : Int) := wrap_mid pre x (by omega)
    rw [L_shift]
    simp only [spec_l2Last.l0, if_pos (show (pre.length : Int) < (l.length : Int) by rw [e]; simp; omega), le_nat, if_true, e1, l1Most_e, Option.bind_some, e5, fl2Last_l l hl r (pre ++ [x]) (max v x) (by rw [e]; simp) (by omega), mxL, Option.some.injEq]
    omega
theorem fl2Last_L (l : List Int) (hl : l.length ≤ 1000) : L (fun k => spec_l2Last.f k l) = some (mxL l) := by
  have := fl2Last_l l hl l [] 0 rfl (by omega)
  have h2 := mxL_nn l
  simp only [List.length_nil, Int.natCast_zero, Int.max_eq_right h2] at this
  exact this
theorem fgreatestOf_l (l : List Int) (hl : l.length ≤ 1000) : ∀ (r pre : List Int) (v : Int), l = pre ++ r → 0 ≤ v → L (fun k => impl_greatestOf.l0 k v l (l.length : Int) (pre.length : Int)) = some (max v (mxL r))
  | [], pre, v, e, hv => by
    rw [List.append_nil] at e
    rw [L_shift]
    simp only [impl_greatestOf.l0, if_neg (show ¬ ((pre.length : Int) < (l.length : Int)) by rw [e]; omega), L_const, mxL, Option.some.injEq]
    omega
  | x :: r, pre, v, e, hv => by
    have hl2 : pre.length + (r.length + 1) ≤ 1000 := by rw [e] at hl; simpa using hl
    have e1 : rd l (pre.length : Int) = x := by rw [e]; exact rd_mid pre x r
    have e5 : wrap64 ((pre.length : Int) + 1) = ((pre ++ [x]).length : Int) := wrap_mid pre x (by omega)
    rw [L_shift]
    simp only [impl_greatestOf.l0, if_pos (show (pre.length : Int) < (l.length : Int) by rw [e]; simp; omega), le_nat, if_true, e1, mx_e, e5, fgreatestOf_l l hl r (pre ++ [x]) (max v x) (by rw [e]; simp) (by omega), mxL, Option.some.injEq]
    omega
theorem fgreatestOf_L (l : List Int) (hl : l.length ≤ 1000) : L (fun k => impl_greatestOf.f k l) = some (mxL l) := by
  have := fgreatestOf_l l hl l [] 0 rfl (by omega)
  have h2 := mxL_nn l
  simp only [List.length_nil, Int.natCast_zero, Int.max_eq_right h2] at this
  exact this
def mxLL : List (List Int) → Int
  | [] => 0
  | r :: R => max (mxL r) (mxLL R)
theorem flowSpan_l (E : List (List Int)) (hE : E.length ≤ 1000) (hr : ∀ row ∈ E, row.length ≤ 3) : ∀ (r pre : List (List Int)) (v : Int), E = pre ++ r → 0 ≤ v → L (fun k => impl_flowSpan.l0 k v E (E.length : Int) (pre.length : Int)) = some (max v (mxLL r))
  | [], pre, v, e, hv => by
    rw [List.append_nil] at e
    rw [L_shift]
    simp only [impl_flowSpan.l0, if_neg (show ¬ ((pre.length : Int) < (E.length : Int)) by rw [e]; omega), L_const, mxLL, Option.some.injEq]
    omega
  | x :: r, pre, v, e, hv => by
    have hl2 : pre.length + (r.length + 1) ≤ 1000 := by rw [e] at hE; simpa using hE
    have e1 : rd_L1 E (pre.length : Int) = x := by rw [e]; exact getD_mid pre x r []
    have e5 : wrap64 ((pre.length : Int) + 1) = ((pre ++ [x]).length : Int) := wrap_mid pre x (by omega)
    have hx := hr x (by rw [e]; simp)
    rw [L_shift]
    simp only [impl_flowSpan.l0, if_pos (show (pre.length : Int) < (E.length : Int) by rw [e]; simp; omega), le_nat, if_true, e1, L_bind, fgreatestOf_L x (by omega), Option.bind_some, mx_e, e5, flowSpan_l E hE hr r (pre ++ [x]) (max v (mxL x)) (by rw [e]; simp) (by omega), mxLL, Option.some.injEq]
    omega
theorem mxLL_le (B : Int) (hB : 0 ≤ B) : ∀ (l : List (List Int)), (∀ x ∈ l, mxL x ≤ B) → mxLL l ≤ B
  | [], _ => hB
  | x :: r, h => by
    have h1 := h x List.mem_cons_self
    have h2 := mxLL_le B hB r (fun y hy => h y (List.mem_cons_of_mem _ hy))
    simp only [mxLL]; omega
theorem mxLL_ge : ∀ (l : List (List Int)), ∀ x ∈ l, mxL x ≤ mxLL l
  | x :: r, y, h => by
    rcases List.mem_cons.1 h with rfl | h
    · simp only [mxLL]; omega
    · have := mxLL_ge r y h
      simp only [mxLL]; omega
theorem span_both {S : List (List Int)} {m : Nat} (h : Shop S m) (o : List Int) (ho : o.length ≤ 1000) (hx : ∀ x ∈ o, 0 ≤ x ∧ x < (S.length : Int)) (hne : o ≠ []) : L (fun k => spec_l8Span.f k S o) = some (mxL (flF S o (List.replicate m 0))) ∧ L (fun k => impl_flowSpan.f k S o) = some (mxL (flF S o (List.replicate m 0))) := by
  have hlen := h.len
  have hm3 := h.m3
  obtain ⟨r, y, rfl⟩ : ∃ r y, o = r ++ [y] := by
    rcases List.eq_nil_or_concat o with e | ⟨r, y, e⟩
    · exact absurd e hne
    · exact ⟨r, y, by rw [e]; simp⟩
  have hy := hx y (by simp)
  have hE := l8Ends_L h (r ++ [y]) ho hx
  have hE2 := flowEnds_L h (r ++ [y]) ho hx
  have hbd := flE_bd h (r ++ [y]) (List.replicate S.length []) (List.replicate m 0) (by simp) hx (fun row hrow => by rw [(List.mem_replicate.1 hrow).2]; exact ⟨by simp, mxL_nn _⟩)
  have hla := flE_last S r y (List.replicate S.length []) (List.replicate m 0) hy.1 (by simpa using hy.2)
  have hln := flE_len S (r ++ [y]) (List.replicate S.length []) (List.replicate m 0)
  generalize flE S (r ++ [y]) (List.replicate S.length []) (List.replicate m 0) = E at hE hE2 hbd hla hln
  generalize flF S (r ++ [y]) (List.replicate m 0) = F at hbd hla ⊢
  rw [List.length_replicate] at hln
  have hyE : y.toNat < E.length := by omega
  have hmem : F ∈ E := by
    rw [← hla, List.getD_eq_getElem?_getD, List.getElem?_eq_getElem hyE]
    exact List.getElem_mem hyE
  have hFl := (hbd F hmem).1
  constructor
  · have e1 : wrap64 (((r ++ [y]).length : Int) - 1) = (r.length : Int) := by rw [wrap_id (by omega) (by omega)]; simp
    have e2 : rd (r ++ [y]) (r.length : Int) = y := rd_mid r y []
    have e3 : rd_L1 E y = F := hla
    simp only [spec_l8Span.f, if_neg (show ¬ (((r ++ [y]).length : Int) = 0) by simp; omega), L_bind, hE, Option.bind_some, e1, le_nat, if_true, if_pos (show (r.length : Int) < ((r ++ [y]).length : Int) by simp; omega), e2, if_pos hy.1, if_pos (show y < (E.length : Int) by omega), e3, fl2Last_L F (by omega), L_const]
  · have h1 := flowSpan_l E (by omega) (fun row hrow => (hbd row hrow).1) E [] 0 rfl (by omega)
    simp only [List.length_nil, Int.natCast_zero] at h1
    simp only [impl_flowSpan.f, L_bind, hE2, Option.bind_some, h1, Option.some.injEq]
    have g1 := mxLL_le (mxL F) (mxL_nn F) E (fun row hrow => (hbd row hrow).2)
    have g2 := mxLL_ge E F hmem
    have g3 := mxL_nn F
    omega
/-- Nondecreasing numbers of a shop's places, from one on. -/
def upB (n : Nat) (f : Int) : List Int → Bool
  | [] => true
  | s :: r => inB s f ((n : Int) - 1) && upB n s r
theorem upB_app (n : Nat) : ∀ (b s : List Int) (f : Int), upB n f (b ++ s) = (upB n f b && upB n (b.getLastD f) s)
  | [], s, f => by simp [upB]
  | x :: b, s, f => by rw [List.cons_append, upB, upB, upB_app n b s x, List.getLastD_cons, Bool.and_assoc]
theorem upB_lo (n : Nat) : ∀ (s : List Int) (f : Int), upB n f s = true → ∀ x ∈ s, f ≤ x ∧ x ≤ (n : Int) - 1
  | [], f, _, x, hx => by cases hx
  | y :: r, f, h, x, hx => by
    rw [upB, Bool.and_eq_true, inB_iff] at h
    rcases List.mem_cons.1 hx with rfl | hx
    · exact h.1
    · have := upB_lo n r y h.2 x hx
      omega
def segF (S : List (List Int)) (o : List Int) (k : Nat) : Nat → Nat → Int
  | _, 0 => 0
  | i, d + 1 => (S.getD (o.getD i 0).toNat []).getD k 0 + segF S o k (i + 1) d
def lenF (S : List (List Int)) (o : List Int) : List Int → Nat → Int → Int → Int
  | [], _, _, acc => acc
  | s :: r, k, at_, acc => lenF S o r (k + 1) s (acc + segF S o k at_.toNat (s + 1 - at_).toNat)
theorem segF_bd {S : List (List Int)} {m : Nat} (h : Shop S m) (o : List Int) (hx : ∀ x ∈ o, 0 ≤ x ∧ x < (S.length : Int)) (k : Nat) (hk : k < m) : ∀ (d i : Nat), i + d ≤ o.length → 0 ≤ segF S o k i d ∧ segF S o k i d ≤ 30 * (d : Int)
  | 0, i, _ => by simp [segF]
  | d + 1, i, hi => by
    have h1 := segF_bd h o hx k hk d (i + 1) (by omega)
    have hm : o.getD i 0 ∈ o := getD_mem (by omega)
    have hr := Shop.rowAt h (hx _ hm)
    have hv := hr.2 ((S.getD (o.getD i 0).toNat []).getD k 0) (getD_mem (by rw [hr.1]; exact hk))
    rw [segF]
    generalize segF S o k (i + 1) d = sg at h1 ⊢
    generalize (S.getD (o.getD i 0).toNat []).getD k 0 = z at hv ⊢
    clear hm hr hx
    omega
theorem l8Length_in {S : List (List Int)} {m : Nat} (h : Shop S m) (o : List Int) (hol : o.length ≤ 8) (hx : ∀ x ∈ o, 0 ≤ x ∧ x < (S.length : Int)) (t pre : List Int) (s : Int) (r : List Int) (ht : t = pre ++ s :: r) (hk : pre.length < m) (hs : 0 ≤ s ∧ s < (o.length : Int)) (htl : t.length ≤ 3) : ∀ (d : Nat) (i : Nat) (acc : Int), (i : Int) + d = s + 1 → 0 ≤ acc → acc + 30 * (d : Int) ≤ 1000000 →
    L (fun k => spec_l8Length.l1 k S o t acc (pre.length : Int) (i : Int)) = L (fun k => spec_l8Length.l0 k S o t (acc + segF S o pre.length i d) s ((pre ++ [s]).length : Int))
  | 0, i, acc, hi, h0, h1 => by
    have er : rd t (pre.length : Int) = s := by rw [ht]; exact rd_mid pre s r
    have ew : wrap64 ((pre.length : Int) + 1) = ((pre ++ [s]).length : Int) := wrap_mid pre s (by have := h.m3; omega)
    have hpl : (pre.length : Int) < (t.length : Int) := by rw [ht]; simp; omega
    rw [L_shift]
    simp only [spec_l8Length.l1, le_nat, if_true, if_pos hpl, er, if_neg (show ¬ ((i : Int) ≤ s) by omega), ew, segF, Int.add_zero]
  | d + 1, i, acc, hi, h0, h1 => by
    have hpl : (pre.length : Int) < (t.length : Int) := by rw [ht]; simp; omega
    have hil : i < o.length := by omega
    obtain ⟨y, hy⟩ : ∃ y, o.getD i 0 = y := ⟨_, rfl⟩
    have hm : y ∈ o := hy ▸ getD_mem hil
    have hxy := hx y hm
    have hr := Shop.rowAt h hxy
    obtain ⟨row, hrow⟩ : ∃ row, S.getD y.toNat [] = row := ⟨_, rfl⟩
    have e2 : rd_L1 S y = row := hrow
    rw [hrow] at hr
    obtain ⟨z, hz⟩ : ∃ z, row.getD pre.length 0 = z := ⟨_, rfl⟩
    have hv := hr.2 z (hz ▸ getD_mem (by rw [hr.1]; exact hk))
    have c1 : (i : Int) ≤ s := by omega
    have c2 : (i : Int) < (o.length : Int) := by omega
    have c3 : (pre.length : Int) < (m : Int) := by omega
    have c4 : wrap64 (acc + z) = acc + z := wrap_id (by omega) (by omega)
    have e4 : wrap64 ((i : Int) + 1) = ((i + 1 : Nat) : Int) := by rw [wrap_id (by omega) (by omega)]; omega
    have c5 : ((i + 1 : Nat) : Int) + (d : Int) = s + 1 := by omega
    have c6 : 0 ≤ acc + z := by omega
    have c7 : acc + z + 30 * (d : Int) ≤ 1000000 := by omega
    have er : rd t (pre.length : Int) = s := by rw [ht]; exact rd_mid pre s r
    have e1 : rd o (i : Int) = y := by rw [← hy]; show o.getD (i : Int).toNat 0 = _; rw [Int.toNat_natCast]
    have e3 : rd row (pre.length : Int) = z := by rw [← hz]; show row.getD (pre.length : Int).toNat 0 = _; rw [Int.toNat_natCast]
    have ih := l8Length_in h o hol hx t pre s r ht hk hs htl d (i + 1) (acc + z) c5 c6 c7
    have e5 : segF S o pre.length i (d + 1) = z + segF S o pre.length (i + 1) d := by rw [segF, hy, hrow, hz]
    rw [L_shift, e5, ← Int.add_assoc]
    simp only [spec_l8Length.l1, le_nat, if_true, if_pos hpl, er, if_pos c1, if_pos c2, e1, if_pos hxy.1, if_pos hxy.2, e2, hr.1, if_pos c3, e3, c4, e4]
    exact ih
theorem l8Length_l {S : List (List Int)} {m : Nat} (h : Shop S m) (o : List Int) (hol : o.length = S.length) (hx : ∀ x ∈ o, 0 ≤ x ∧ x < (S.length : Int)) (t : List Int) (htl : t.length = m) : ∀ (r pre : List Int) (at_ acc : Int), t = pre ++ r → 0 ≤ at_ → upB S.length at_ r = true → 0 ≤ acc → acc + 300 * (r.length : Int) ≤ 100000 → L (fun k => spec_l8Length.l0 k S o t acc at_ (pre.length : Int)) = some (lenF S o r pre.length at_ acc)
  | [], pre, at_, acc, e, _, _, _, _ => by
    rw [List.append_nil] at e
    rw [L_shift]
    simp only [spec_l8Length.l0, if_neg (show ¬ ((pre.length : Int) < (t.length : Int)) by rw [e]; omega), L_const, lenF]
  | s :: r, pre, at_, acc, e, h0, hu, ha, hb => by
    have hS := h.len
    have hm3 := h.m3
    have htl2 : pre.length + (r.length + 1) = m := by rw [← htl, e]; simp
    rw [upB, Bool.and_eq_true, inB_iff] at hu
    simp only [List.length_cons] at hb
    have h1 := l8Length_in h o (by omega) hx t pre s r e (by omega) (by omega) (by omega) (s + 1 - at_).toNat at_.toNat acc (by omega) ha (by omega)
    have hd0 : ((s + 1 - at_).toNat : Int) ≤ 8 := by omega
    have hk0 : pre.length < m := by omega
    have hi0 : at_.toNat + (s + 1 - at_).toNat ≤ o.length := by omega
    have hs0 : 0 ≤ s := by omega
    have hlt : (pre.length : Int) < (t.length : Int) := by rw [e]; simp; omega
    rw [Int.toNat_of_nonneg h0] at h1
    have hsg := segF_bd h o hx pre.length hk0 (s + 1 - at_).toNat at_.toNat hi0
    rw [lenF]
    generalize segF S o pre.length at_.toNat (s + 1 - at_).toNat = sg at h1 hsg ⊢
    have hsg1 : 0 ≤ acc + sg := by omega
    have hsg2 : acc + sg + 300 * (r.length : Int) ≤ 100000 := by omega
    have ih := l8Length_l h o hol hx t htl r (pre ++ [s]) s (acc + sg) (by rw [e]; simp) hs0 hu.2 hsg1 hsg2
    rw [L_shift]
    simp only [spec_l8Length.l0, if_pos hlt, h1]
    rw [ih, List.length_append, List.length_singleton]
theorem stairLength_in {S : List (List Int)} {m : Nat} (h : Shop S m) (o : List Int) (hol : o.length ≤ 8) (hx : ∀ x ∈ o, 0 ≤ x ∧ x < (S.length : Int)) (t pre : List Int) (s : Int) (hk : pre.length < m) (hs : 0 ≤ s ∧ s < (o.length : Int)) : ∀ (d : Nat) (i : Nat) (acc : Int), (i : Int) + d = s + 1 → 0 ≤ acc → acc + 30 * (d : Int) ≤ 1000000 →
    L (fun k => impl_stairLength.l1 k S o acc (pre.length : Int) s (i : Int) t (t.length : Int) (pre.length : Int)) = L (fun k => impl_stairLength.l0 k S o (acc + segF S o pre.length i d) s t (t.length : Int) ((pre ++ [s]).length : Int))
  | 0, i, acc, hi, h0, h1 => by
    have ew : wrap64 ((pre.length : Int) + 1) = ((pre ++ [s]).length : Int) := wrap_mid pre s (by have := h.m3; omega)
    rw [L_shift]
    simp only [impl_stairLength.l1, if_neg (show ¬ ((i : Int) ≤ s) by omega), ew, segF, Int.add_zero]
  | d + 1, i, acc, hi, h0, h1 => by
    have hil : i < o.length := by omega
    obtain ⟨y, hy⟩ : ∃ y, o.getD i 0 = y := ⟨_, rfl⟩
    have hm : y ∈ o := hy ▸ getD_mem hil
    have e1 : rd o (i : Int) = y := by rw [← hy]; show o.getD (i : Int).toNat 0 = _; rw [Int.toNat_natCast]
    have hxy := hx y hm
    have hr := Shop.rowAt h hxy
    obtain ⟨row, hrow⟩ : ∃ row, S.getD y.toNat [] = row := ⟨_, rfl⟩
    have e2 : rd_L1 S y = row := hrow
    rw [hrow] at hr
    obtain ⟨z, hz⟩ : ∃ z, row.getD pre.length 0 = z := ⟨_, rfl⟩
    have hv := hr.2 z (hz ▸ getD_mem (by rw [hr.1]; exact hk))
    have e3 : rd row (pre.length : Int) = z := by rw [← hz]; show row.getD (pre.length : Int).toNat 0 = _; rw [Int.toNat_natCast]
    have c1 : (i : Int) ≤ s := by omega
    have c2 : (i : Int) < (o.length : Int) := by omega
    have c3 : (pre.length : Int) < (m : Int) := by omega
    have c4 : wrap64 (acc + z) = acc + z := wrap_id (by omega) (by omega)
    have e4 : wrap64 ((i : Int) + 1) = ((i + 1 : Nat) : Int) := by rw [wrap_id (by omega) (by omega)]; omega
    have c5 : ((i + 1 : Nat) : Int) + (d : Int) = s + 1 := by omega
    have c6 : 0 ≤ acc + z := by omega
    have c7 : acc + z + 30 * (d : Int) ≤ 1000000 := by omega
    have ih := stairLength_in h o hol hx t pre s hk hs d (i + 1) (acc + z) c5 c6 c7
    have e5 : segF S o pre.length i (d + 1) = z + segF S o pre.length (i + 1) d := by rw [segF, hy, hrow, hz]
    rw [L_shift, e5, ← Int.add_assoc]
    simp only [impl_stairLength.l1, le_nat, if_true, if_pos c1, if_pos c2, e1, if_pos hxy.1, if_pos hxy.2, e2, hr.1, if_pos c3, e3, c4, e4]
    exact ih
theorem stairLength_l {S : List (List Int)} {m : Nat} (h : Shop S m) (o : List Int) (hol : o.length = S.length) (hx : ∀ x ∈ o, 0 ≤ x ∧ x < (S.length : Int)) (t : List Int) (htl : t.length = m) : ∀ (r pre : List Int) (at_ acc : Int), t = pre ++ r → 0 ≤ at_ → upB S.length at_ r = true → 0 ≤ acc → acc + 300 * (r.length : Int) ≤ 100000 → L (fun k => impl_stairLength.l0 k S o acc at_ t (t.length : Int) (pre.length : Int)) = some (lenF S o r pre.length at_ acc)
  | [], pre, at_, acc, e, _, _, _, _ => by
    rw [List.append_nil] at e
    rw [L_shift]
    simp only [impl_stairLength.l0, if_neg (show ¬ ((pre.length : Int) < (t.length : Int)) by rw [e]; omega), L_const, lenF]
  | s :: r, pre, at_, acc, e, h0, hu, ha, hb => by
    have hS := h.len
    have hm3 := h.m3
    have htl2 : pre.length + (r.length + 1) = m := by rw [← htl, e]; simp
    have er : rd t (pre.length : Int) = s := by rw [e]; exact rd_mid pre s r
    rw [upB, Bool.and_eq_true, inB_iff] at hu
    simp only [List.length_cons] at hb
    have h1 := stairLength_in h o (by omega) hx t pre s (by omega) (by omega) (s + 1 - at_).toNat at_.toNat acc (by omega) ha (by omega)
    have hd0 : ((s + 1 - at_).toNat : Int) ≤ 8 := by omega
    have hk0 : pre.length < m := by omega
    have hi0 : at_.toNat + (s + 1 - at_).toNat ≤ o.length := by omega
    have hs0 : 0 ≤ s := by omega
    have hlt : (pre.length : Int) < (t.length : Int) := by rw [e]; simp; omega
    rw [Int.toNat_of_nonneg h0] at h1
    have hsg := segF_bd h o hx pre.length hk0 (s + 1 - at_).toNat at_.toNat hi0
    rw [lenF]
    generalize segF S o pre.length at_.toNat (s + 1 - at_).toNat = sg at h1 hsg ⊢
    have hsg1 : 0 ≤ acc + sg := by omega
    have hsg2 : acc + sg + 300 * (r.length : Int) ≤ 100000 := by omega
    have ih := stairLength_l h o hol hx t htl r (pre ++ [s]) s (acc + sg) (by rw [e]; simp) hs0 hu.2 hsg1 hsg2
    rw [L_shift]
    simp only [impl_stairLength.l0, if_pos hlt, le_nat, if_true, er, h1]
    rw [ih, List.length_append, List.length_singleton]
def stairB (n : Nat) (t : List Int) : Bool := upB n 0 t && decide (t.getLastD 0 = (n : Int) - 1)
theorem last_rd (t : List Int) (ht : 0 < t.length) (hl : t.length ≤ 1000) : rd t (wrap64 ((t.length : Int) - 1)) = t.getLastD 0 := by
  rcases List.eq_nil_or_concat t with e | ⟨r, y, e⟩
  · rw [e] at ht; simp at ht
  · have e2 : t = r ++ [y] := by rw [e]; simp
    rw [wrap_id (by omega) (by omega), e2]
    have e3 : (((r ++ [y]).length : Int) - 1) = (r.length : Int) := by simp
    rw [e3, show rd (r ++ [y]) (r.length : Int) = y from rd_mid r y []]
    simp
theorem l8Stair_l {S : List (List Int)} {m : Nat} (h : Shop S m) (hn : 0 < S.length) (t : List Int) (htl : t.length = m) : ∀ (r pre : List Int), t = pre ++ r → (∀ x ∈ pre, 0 ≤ x) → L (fun k => spec_l8Stair.l0 k S t (pre.length : Int)) = some (upB S.length (pre.getLastD 0) r && decide (t.getLastD 0 = (S.length : Int) - 1))
  | [], pre, e, hp => by
    have hm1 := h.m1
    have hm3 := h.m3
    have hS := h.len
    rw [List.append_nil] at e
    have el := last_rd t (by omega) (by omega)
    have e1 : wrap64 ((t.length : Int) - 1) = (t.length : Int) - 1 := wrap_id (by omega) (by omega)
    rw [e1] at el
    have e2 : wrap64 ((S.length : Int) - 1) = (S.length : Int) - 1 := wrap_id (by omega) (by omega)
    rw [L_shift]
    simp only [spec_l8Stair.l0, if_neg (show ¬ ((pre.length : Int) < (t.length : Int)) by rw [e]; omega), if_pos (show (S.length : Int) > 0 by omega), l8Machines_e, h.eq, Option.bind_some, if_pos (show (t.length : Int) = (m : Int) by omega), el, e1, e2, if_pos (show (0 : Int) ≤ (t.length : Int) - 1 by omega), if_pos (show (t.length : Int) - 1 < (t.length : Int) by omega), L_const, upB, Bool.true_and]
    rfl
  | s :: r, pre, e, hp => by
    have hm3 := h.m3
    have hS := h.len
    have htl2 : pre.length + (r.length + 1) = m := by rw [← htl, e]; simp
    have er : rd t (pre.length : Int) = s := by rw [e]; exact rd_mid pre s r
    have ew : wrap64 ((pre.length : Int) + 1) = ((pre ++ [s]).length : Int) := wrap_mid pre s (by omega)
    have e2 : wrap64 ((S.length : Int) - 1) = (S.length : Int) - 1 := wrap_id (by omega) (by omega)
    have e3 : wrap64 ((pre.length : Int) - 1) = (pre.length : Int) - 1 := wrap_id (by omega) (by omega)
    have hlast : 0 ≤ pre.getLastD 0 := by
      rcases List.eq_nil_or_concat pre with e5 | ⟨q, y, e5⟩
      · rw [e5]; simp
      · have : y ∈ pre := by rw [e5]; simp
        have h6 := hp y this
        rw [e5]; simpa using h6
    have hgl : (pre ++ [s]).getLastD 0 = s := by simp
    rw [L_shift]
    simp only [spec_l8Stair.l0, if_pos (show (pre.length : Int) < (t.length : Int) by rw [e]; simp; omega), le_nat, if_true, er, l1In_e, e2, Option.bind_some, ew, e3, L_ite, L_const]
    by_cases hin : inB s 0 ((S.length : Int) - 1) = true
    · rw [if_pos hin]
      have hin2 := inB_iff.1 hin
      have ih := l8Stair_l h hn t htl r (pre ++ [s]) (by rw [e]; simp) (fun x hxm => by
        rcases List.mem_append.1 hxm with h7 | h7
        · exact hp x h7
        · rw [List.mem_singleton] at h7
          omega)
      rw [hgl] at ih
      by_cases hpos : (pre.length : Int) > 0
      · have hpr : rd t ((pre.length : Int) - 1) = pre.getLastD 0 := by
          rcases List.eq_nil_or_concat pre with e5 | ⟨q, y, e5⟩
          · rw [e5] at hpos; simp at hpos
          · have e6 : pre = q ++ [y] := by rw [e5]; simp
            have e7 : ((pre.length : Int) - 1) = (q.length : Int) := by rw [e6]; simp
            rw [e7, e, e6]
            have e8 : (q ++ [y]) ++ s :: r = q ++ y :: (s :: r) := by simp
            rw [e8, show rd (q ++ y :: (s :: r)) (q.length : Int) = y from rd_mid q y _]
            simp
        rw [if_pos hpos, if_pos (show (0 : Int) ≤ (pre.length : Int) - 1 by omega), if_pos (show (pre.length : Int) - 1 < (t.length : Int) by omega), hpr, ih, upB]
        by_cases hgt : pre.getLastD 0 > s
        · rw [if_pos hgt]
          have : inB s (pre.getLastD 0) ((S.length : Int) - 1) = false := by
            rw [← Bool.not_eq_true, inB_iff]; omega
          rw [this]; rfl
        · rw [if_neg hgt]
          have : inB s (pre.getLastD 0) ((S.length : Int) - 1) = true := inB_iff.2 (by omega)
          rw [this, Bool.true_and]
      · have hpn : pre = [] := List.eq_nil_of_length_eq_zero (by omega)
        rw [if_neg hpos, ih, upB, hpn]
        simp only [List.getLastD_nil, hin, Bool.true_and]
    · rw [if_neg hin]
      have : inB s (pre.getLastD 0) ((S.length : Int) - 1) = false := by
        rw [← Bool.not_eq_true, inB_iff]
        rw [inB_iff] at hin
        omega
      rw [upB, this]; rfl
theorem l8Stair_L {S : List (List Int)} {m : Nat} (h : Shop S m) (hn : 0 < S.length) (t : List Int) (htl : t.length = m) : L (fun k => spec_l8Stair.f k S t) = some (stairB S.length t) := l8Stair_l h hn t htl t [] rfl (by simp)
theorem isStair_l {S : List (List Int)} {m : Nat} (h : Shop S m) (t : List Int) (htl : t.length ≤ 3) : ∀ (r pre : List Int) (f : Int), t = pre ++ r → L (fun k => impl_isStaircase.l0 k S f t (t.length : Int) (pre.length : Int)) = some (upB S.length f r)
  | [], pre, f, e => by
    rw [List.append_nil] at e
    rw [L_shift]
    simp only [impl_isStaircase.l0, if_neg (show ¬ ((pre.length : Int) < (t.length : Int)) by rw [e]; omega), L_const, upB]
  | s :: r, pre, f, e => by
    have hS := h.len
    have htl2 : pre.length + (r.length + 1) ≤ 3 := by rw [e] at htl; simpa using htl
    have er : rd t (pre.length : Int) = s := by rw [e]; exact rd_mid pre s r
    have ew : wrap64 ((pre.length : Int) + 1) = ((pre ++ [s]).length : Int) := wrap_mid pre s (by omega)
    have e2 : wrap64 ((S.length : Int) - 1) = (S.length : Int) - 1 := wrap_id (by omega) (by omega)
    rw [L_shift]
    simp only [impl_isStaircase.l0, if_pos (show (pre.length : Int) < (t.length : Int) by rw [e]; simp; omega), le_nat, if_true, er, within_e, e2, Option.bind_some, ew, L_ite, L_const, isStair_l h t htl r (pre ++ [s]) s (by rw [e]; simp), upB]
    by_cases hin : inB s f ((S.length : Int) - 1) = true
    · rw [if_pos hin, hin, Bool.true_and]
    · rw [if_neg hin, Bool.eq_false_iff.2 hin, Bool.false_and]
theorem isStair_L {S : List (List Int)} {m : Nat} (h : Shop S m) (t : List Int) (htl : t.length = m) : L (fun k => impl_isStaircase.f k S t) = some (stairB S.length t) := by
  have hm1 := h.m1
  have hm3 := h.m3
  have hS := h.len
  have el := last_rd t (by omega) (by omega)
  have e1 : wrap64 ((t.length : Int) - 1) = (t.length : Int) - 1 := wrap_id (by omega) (by omega)
  have e2 : wrap64 ((S.length : Int) - 1) = (S.length : Int) - 1 := wrap_id (by omega) (by omega)
  have h1 := isStair_l h t (by omega) t [] 0 rfl
  simp only [List.length_nil, Int.natCast_zero] at h1
  have hj : ∀ b : Bool, L (fun k => impl_isStaircase.j0 k S t b) = if b = true then some false else some (upB S.length 0 t) := fun b => by
    rw [L_shift]
    simp only [impl_isStaircase.j0, L_ite, L_const, h1]
  rw [e1] at el
  simp only [impl_isStaircase.f, machinesOf_e, h.eq, Option.bind_some, if_pos (show (t.length : Int) = (m : Int) by omega), e1, e2, if_pos (show (0 : Int) ≤ (t.length : Int) - 1 by omega), if_pos (show (t.length : Int) - 1 < (t.length : Int) by omega), el, hj, stairB]
  by_cases hl : t.getLastD 0 = (S.length : Int) - 1
  · rw [if_neg (by rw [hl]; simp), decide_eq_true hl, Bool.and_true]
  · rw [if_pos (bne_iff_ne.2 hl), decide_eq_false hl, Bool.and_false]
/-- All rows that a row begins, of a length, in the order of the words. -/
def tupX (n : Nat) : Nat → List Int → List (List Int)
  | 0, b => [b]
  | d + 1, b => (numsTo n).flatMap (fun p => tupX n d (b ++ [p]))
def tupS (n : Nat) (ls : List (List Int)) : List (List Int) := ls.flatMap (fun t => (numsTo n).map (fun x => t ++ [x]))
def tupI (n : Nat) : Nat → List (List Int) → List (List Int)
  | 0, ls => ls
  | d + 1, ls => tupI n d (tupS n ls)
theorem tupI_X (n : Nat) : ∀ (d : Nat) (ls : List (List Int)), tupI n d ls = ls.flatMap (tupX n d)
  | 0, ls => by
    show ls = ls.flatMap (fun b => [b])
    rw [List.flatMap_singleton']
  | d + 1, ls => by
    rw [tupI, tupI_X n d, tupS, List.flatMap_assoc]
    congr 1
    funext t
    rw [List.flatMap_map, tupX]
theorem tupX_pre (n : Nat) : ∀ (d : Nat) (b t : List Int), t ∈ tupX n d b → ∃ s, t = b ++ s ∧ s.length = d
  | 0, b, t, h => by
    simp only [tupX, List.mem_singleton] at h
    exact ⟨[], by simp [h], rfl⟩
  | d + 1, b, t, h => by
    simp only [tupX, List.mem_flatMap] at h
    obtain ⟨p, _, h⟩ := h
    obtain ⟨s, h1, h2⟩ := tupX_pre n d _ t h
    exact ⟨p :: s, by rw [h1]; simp, by simp [h2]⟩
/-- The same, of rows that do not fall. -/
def extX (n : Nat) : Nat → List Int → List (List Int)
  | 0, b => [b]
  | d + 1, b => (numsFrom (b.getLastD 0).toNat (n - (b.getLastD 0).toNat)).flatMap (fun p => extX n d (b ++ [p]))
theorem ext_find (n : Nat) (P : List Int → Bool) (hP : ∀ t, P t = true → upB n 0 t = true) : ∀ (d : Nat) (b : List Int), 0 ≤ b.getLastD 0 → b.getLastD 0 ≤ (n : Int) → (tupX n d b).find? P = (extX n d b).find? P
  | 0, b, _, _ => rfl
  | d + 1, b, h0, h1 => by
    have hsplit : numsTo n = numsFrom 0 (b.getLastD 0).toNat ++ numsFrom (b.getLastD 0).toNat (n - (b.getLastD 0).toNat) := by
      rw [← numsFrom_all]
      unfold numsFrom
      have h5 := List.range'_append_1 (s := 0) (m := (b.getLastD 0).toNat) (n := n - (b.getLastD 0).toNat)
      rw [Nat.zero_add, show (b.getLastD 0).toNat + (n - (b.getLastD 0).toNat) = n by omega] at h5
      rw [← List.map_append, h5]
    rw [tupX, extX, List.find?_flatMap, List.find?_flatMap, hsplit, List.findSome?_append]
    have hnone : (numsFrom 0 (b.getLastD 0).toNat).findSome? (fun p => (tupX n d (b ++ [p])).find? P) = none := by
      rw [List.findSome?_eq_none_iff]
      intro p hp
      rw [List.find?_eq_none]
      intro t ht hPt
      obtain ⟨s, e, _⟩ := tupX_pre n d _ t ht
      have h2 := hP t hPt
      rw [e, List.append_assoc, upB_app, Bool.and_eq_true] at h2
      have h3 := h2.2
      rw [List.singleton_append, upB, Bool.and_eq_true, inB_iff] at h3
      unfold numsFrom at hp
      simp only [List.mem_map, List.mem_range'_1] at hp
      obtain ⟨j, hj, rfl⟩ := hp
      omega
    rw [hnone, Option.none_or]
    have hall : ∀ ps : List Int, (∀ p ∈ ps, 0 ≤ p ∧ p ≤ (n : Int)) → ps.findSome? (fun p => (tupX n d (b ++ [p])).find? P) = ps.findSome? (fun p => (extX n d (b ++ [p])).find? P) := by
      intro ps
      induction ps with
      | nil => intro _; rfl
      | cons p ps ih =>
        intro hps
        have hp := hps p List.mem_cons_self
        rw [List.findSome?_cons, List.findSome?_cons, ext_find n P hP d (b ++ [p]) (by simpa using hp.1) (by simpa using hp.2), ih (fun q hq => hps q (List.mem_cons_of_mem _ hq))]
    refine hall _ (fun p hp => ?_)
    unfold numsFrom at hp
    simp only [List.mem_map, List.mem_range'_1] at hp
    obtain ⟨j, hj, rfl⟩ := hp
    omega

def goalB (S : List (List Int)) (o : List Int) (span : Int) (t : List Int) : Bool := stairB S.length t && decide (lenF S o t 0 0 0 = span)
theorem stairB_up {n : Nat} {t : List Int} (h : stairB n t = true) : upB n 0 t = true := by
  rw [stairB, Bool.and_eq_true] at h
  exact h.1
theorem l8Len_L {S : List (List Int)} {m : Nat} (h : Shop S m) (o : List Int) (hol : o.length = S.length) (hx : ∀ x ∈ o, 0 ≤ x ∧ x < (S.length : Int)) (t : List Int) (htl : t.length = m) (hs : stairB S.length t = true) : L (fun k => spec_l8Length.f k S o t) = some (lenF S o t 0 0 0) ∧ L (fun k => impl_stairLength.f k S o t) = some (lenF S o t 0 0 0) := by
  have hm3 := h.m3
  exact ⟨l8Length_l h o hol hx t htl t [] 0 0 rfl (Int.le_refl _) (stairB_up hs) (Int.le_refl _) (by omega), stairLength_l h o hol hx t htl t [] 0 0 rfl (Int.le_refl _) (stairB_up hs) (Int.le_refl _) (by omega)⟩
theorem ls_l2 (S : List (List Int)) (o : List Int) (n : Nat) (span x9 : Int) (ls pre : List (List Int)) (t : List Int) (r : List (List Int)) (e : ls = pre ++ t :: r) (hls : ls.length ≤ 100000) (ht : t.length ≤ 1000) : ∀ (d i : Nat) (more : List (List Int)), i + d = n → n ≤ 8 → more.length + d ≤ 1000000 →
    L (fun k => spec_LongestStair.l2 k S o (n : Int) span ls x9 more (pre.length : Int) (i : Int)) = L (fun k => spec_LongestStair.l1 k S o (n : Int) span ls x9 (more ++ (numsFrom i d).map (fun x => t ++ [x])) ((pre ++ [t]).length : Int))
  | 0, i, more, hi, hn, hm => by
    have hpl : pre.length + (r.length + 1) ≤ 100000 := by rw [e] at hls; simpa using hls
    have ew : wrap64 ((pre.length : Int) + 1) = ((pre ++ [t]).length : Int) := wrap_mid pre t (by omega)
    rw [L_shift]
    simp only [spec_LongestStair.l2, if_neg (show ¬ ((i : Int) < (n : Int)) by omega), ew]
    simp [numsFrom]
  | d + 1, i, more, hi, hn, hm => by
    have er : rd_L1 ls (pre.length : Int) = t := by rw [e]; exact getD_mid pre t r []
    have hpl : (pre.length : Int) < (ls.length : Int) := by rw [e]; simp; omega
    have e4 : wrap64 ((i : Int) + 1) = ((i + 1 : Nat) : Int) := by rw [wrap_id (by omega) (by omega)]; omega
    have c1 : (i : Int) < (n : Int) := by omega
    have c2 : t.length < 17592186044416 := by omega
    have c3 : more.length < 5864062014805 := by omega
    have ih := ls_l2 S o n span x9 ls pre t r e hls ht d (i + 1) (more ++ [t ++ [(i : Int)]]) (by omega) hn (by simp; omega)
    rw [L_shift]
    simp only [spec_LongestStair.l2, if_pos c1, le_nat, if_true, if_pos hpl, er, l1Own_e t (show t.length ≤ 1048576 by omega), Option.bind_some, if_pos c2, if_pos c3, e4, ih, numsFrom_cons, List.map_cons, List.append_assoc, List.singleton_append]
theorem ls_l1 (S : List (List Int)) (o : List Int) (n : Nat) (hn : n ≤ 8) (span : Int) (x9 : Nat) (hx9 : x9 ≤ 3) (ls : List (List Int)) (hls : ls.length ≤ 1000) (ht : ∀ t ∈ ls, t.length ≤ 1000) : ∀ (r pre more : List (List Int)), ls = pre ++ r → more.length + 8 * r.length ≤ 100000 →
    L (fun k => spec_LongestStair.l1 k S o (n : Int) span ls (x9 : Int) more (pre.length : Int)) = L (fun k => spec_LongestStair.l0 k S o (n : Int) span (more ++ tupS n r) ((x9 + 1 : Nat) : Int))
  | [], pre, more, e, hm => by
    rw [List.append_nil] at e
    have e4 : wrap64 ((x9 : Int) + 1) = ((x9 + 1 : Nat) : Int) := by rw [wrap_id (by omega) (by omega)]; omega
    rw [L_shift]
    simp only [spec_LongestStair.l1, if_neg (show ¬ ((pre.length : Int) < (ls.length : Int)) by rw [e]; omega), e4]
    simp [tupS]
  | t :: r, pre, more, e, hm => by
    have hpl : (pre.length : Int) < (ls.length : Int) := by rw [e]; simp; omega
    have htl := ht t (by rw [e]; simp)
    simp only [List.length_cons] at hm
    have h2 := ls_l2 S o n span (x9 : Int) ls pre t r e (by omega) htl n 0 more (by omega) hn (by omega)
    have hmap : ((numsFrom 0 n).map (fun x => t ++ [x])).length = n := by rw [List.length_map, numsFrom, List.length_map, List.length_range']
    have ih := ls_l1 S o n hn span x9 hx9 ls hls ht r (pre ++ [t]) (more ++ (numsFrom 0 n).map (fun x => t ++ [x])) (by rw [e]; simp) (by rw [List.length_append, hmap]; omega)
    rw [L_shift]
    have e0 : ((0 : Nat) : Int) = 0 := rfl
    rw [e0] at h2
    simp only [spec_LongestStair.l1, if_pos hpl, h2]
    rw [ih, numsFrom_all, List.append_assoc]
    rfl
theorem tupS_len (n : Nat) : ∀ ls : List (List Int), (tupS n ls).length = ls.length * n
  | [] => by simp [tupS]
  | t :: r => by
    have ih := tupS_len n r
    rw [tupS] at ih ⊢
    rw [List.flatMap_cons, List.length_append, ih, List.length_map, numsTo_length, List.length_cons, Nat.succ_mul, Nat.add_comm]
theorem ls_l0 {S : List (List Int)} {m : Nat} (h : Shop S m) (o : List Int) (span : Int) : ∀ (d x9 : Nat) (ls : List (List Int)), x9 + d = m → ls.length * 8 ^ d ≤ 512 → (∀ t ∈ ls, t.length ≤ x9) → L (fun k => spec_LongestStair.l0 k S o (S.length : Int) span ls (x9 : Int)) = L (fun k => spec_LongestStair.l3 k S o span (tupI S.length d ls) 0)
  | 0, x9, ls, hx, hl, ht => by
    rw [L_shift]
    simp only [spec_LongestStair.l0, l8Machines_e, h.eq, Option.bind_some, if_neg (show ¬ ((x9 : Int) < (m : Int)) by omega), tupI]
  | d + 1, x9, ls, hx, hl, ht => by
    have hm3 := h.m3
    have hS := h.len
    have h8 : ls.length * 8 ≤ 512 := by
      refine Nat.le_trans ?_ hl
      rw [Nat.pow_succ, ← Nat.mul_assoc, Nat.mul_right_comm]
      exact Nat.le_mul_of_pos_right _ (Nat.pow_pos (by decide))
    have h1 := ls_l1 S o S.length hS span x9 (by omega) ls (by omega) (fun t htm => by have := ht t htm; omega) ls [] [] rfl (by simp; omega)
    simp only [List.length_nil, Int.natCast_zero, List.nil_append] at h1
    have ih := ls_l0 h o span d (x9 + 1) (tupS S.length ls) (by omega) (by
      rw [tupS_len]
      refine Nat.le_trans (Nat.mul_le_mul_right _ (Nat.mul_le_mul_left _ hS)) ?_
      rw [Nat.pow_succ, Nat.mul_comm (8 ^ d) 8, ← Nat.mul_assoc] at hl
      exact hl) (fun t htm => by
      simp only [tupS, List.mem_flatMap, List.mem_map] at htm
      obtain ⟨u, hu, x, _, rfl⟩ := htm
      have := ht u hu
      simp
      omega)
    rw [L_shift]
    simp only [spec_LongestStair.l0, l8Machines_e, h.eq, Option.bind_some, if_pos (show (x9 : Int) < (m : Int) by omega), h1]
    rw [ih, tupI]
theorem ls_l3 {S : List (List Int)} {m : Nat} (h : Shop S m) (hn : 0 < S.length) (o : List Int) (hol : o.length = S.length) (hx : ∀ x ∈ o, 0 ≤ x ∧ x < (S.length : Int)) (span : Int) (ls : List (List Int)) (hls : ls.length ≤ 1000) (htl : ∀ t ∈ ls, t.length = m) : ∀ (r pre : List (List Int)), ls = pre ++ r → L (fun k => spec_LongestStair.l3 k S o span ls (pre.length : Int)) = some (match r.find? (goalB S o span) with | some t => (t, true) | none => ([], false))
  | [], pre, e => by
    rw [List.append_nil] at e
    rw [L_shift]
    simp only [spec_LongestStair.l3, if_neg (show ¬ ((pre.length : Int) < (ls.length : Int)) by rw [e]; omega), L_const, List.find?_nil]
  | t :: r, pre, e => by
    have hpl0 : pre.length + (r.length + 1) ≤ 1000 := by rw [e] at hls; simpa using hls
    have hpl : (pre.length : Int) < (ls.length : Int) := by rw [e]; simp; omega
    have er : rd_L1 ls (pre.length : Int) = t := by rw [e]; exact getD_mid pre t r []
    have ew : wrap64 ((pre.length : Int) + 1) = ((pre ++ [t]).length : Int) := wrap_mid pre t (by omega)
    have ht := htl t (by rw [e]; simp)
    have ih := ls_l3 h hn o hol hx span ls hls htl r (pre ++ [t]) (by rw [e]; simp)
    rw [L_shift]
    simp only [spec_LongestStair.l3, if_pos hpl, le_nat, if_true, er, ew, L_bind, l8Stair_L h hn t ht, Option.bind_some, L_ite, L_const, ih]
    by_cases hs : stairB S.length t = true
    · rw [if_pos hs, (l8Len_L h o hol hx t ht hs).1, Option.bind_some]
      by_cases hl : lenF S o t 0 0 0 = span
      · rw [if_pos hl, List.find?_cons_of_pos (by rw [goalB, hs, decide_eq_true hl]; rfl)]
      · rw [if_neg hl, List.find?_cons_of_neg (by rw [goalB, decide_eq_false hl, Bool.and_false]; decide)]
    · rw [if_neg hs, List.find?_cons_of_neg (by rw [goalB, Bool.eq_false_iff.2 hs, Bool.false_and]; decide)]
theorem fs_L {S : List (List Int)} {m : Nat} (h : Shop S m) (o : List Int) (hol : o.length = S.length) (hx : ∀ x ∈ o, 0 ≤ x ∧ x < (S.length : Int)) (span : Int) : ∀ (d : Nat) (b : List Int), b.length + d = m → upB S.length 0 b = true → ∃ (z : List Int) (ok : Bool), L (fun k => impl_firstStair.f k S o span b) = some (z, ok) ∧ (extX S.length d b).find? (goalB S o span) = if ok = true then some z else none
  | 0, b, hb, hu => by
    refine ⟨b, goalB S o span b, ?_, ?_⟩
    · rw [L_shift]
      simp only [impl_firstStair.f, machinesOf_e, h.eq, Option.bind_some, if_pos (show (b.length : Int) = (m : Int) by omega), L_bind, isStair_L h b (by omega), L_ite, L_const]
      by_cases hs : stairB S.length b = true
      · rw [if_pos hs, (l8Len_L h o hol hx b (by omega) hs).2, Option.bind_some, goalB, hs, Bool.true_and]
        rfl
      · rw [if_neg hs, goalB, Bool.eq_false_iff.2 hs, Bool.false_and]
    · rw [extX]
      by_cases hg : goalB S o span b = true
      · rw [List.find?_cons_of_pos hg, if_pos hg]
      · rw [List.find?_cons_of_neg hg, if_neg hg, List.find?_nil]
  | d + 1, b, hb, hu => by
    have hS := h.len
    have hm3 := h.m3
    have hlast : 0 ≤ b.getLastD 0 ∧ b.getLastD 0 ≤ (S.length : Int) := by
      rcases List.eq_nil_or_concat b with e5 | ⟨q, y, e5⟩
      · rw [e5]; simp
      · have h6 : y ∈ b := by rw [e5]; simp
        have h7 := upB_lo S.length b 0 hu y h6
        rw [e5]
        simp only [List.concat_eq_append, List.getLastD_concat]
        omega
    have hloop : ∀ (e i : Nat), i + e = S.length → b.getLastD 0 ≤ (i : Int) → ∃ (z : List Int) (ok : Bool), L (fun k => impl_firstStair.l0 k S o span b (i : Int)) = some (z, ok) ∧ ((numsFrom i e).flatMap (fun p => extX S.length d (b ++ [p]))).find? (goalB S o span) = if ok = true then some z else none := by
      intro e
      induction e with
      | zero =>
        intro i hi hl
        refine ⟨[], false, ?_, ?_⟩
        · rw [L_shift]
          simp only [impl_firstStair.l0, if_neg (show ¬ ((i : Int) < (S.length : Int)) by omega), L_const]
        · rfl
      | succ e ih =>
        intro i hi hl
        have e4 : wrap64 ((i : Int) + 1) = ((i + 1 : Nat) : Int) := by rw [wrap_id (by omega) (by omega)]; omega
        have hub : upB S.length 0 (b ++ [(i : Int)]) = true := by
          rw [upB_app, hu, Bool.true_and, upB, upB, Bool.and_true]
          exact inB_iff.2 (by omega)
        obtain ⟨z1, ok1, h1, h2⟩ := fs_L h o hol hx span d (b ++ [(i : Int)]) (by simp; omega) hub
        obtain ⟨z2, ok2, h3, h4⟩ := ih (i + 1) (by omega) (by omega)
        refine ⟨if ok1 = true then z1 else z2, if ok1 = true then true else ok2, ?_, ?_⟩
        · rw [L_shift]
          simp only [impl_firstStair.l0, if_pos (show (i : Int) < (S.length : Int) by omega), copyInts_e b (show b.length ≤ 1048576 by omega), Option.bind_some, if_pos (show b.length < 17592186044416 by omega), L_bind, h1, L_ite, L_const, e4, h3]
          cases ok1 <;> rfl
        · rw [numsFrom_cons, List.flatMap_cons, List.find?_append, h2, h4]
          cases ok1 <;> cases ok2 <;> rfl
    have hj : L (fun k => impl_firstStair.j0 k S o span b (b.getLastD 0)) = L (fun k => impl_firstStair.l0 k S o span b (b.getLastD 0)) := by
      rw [L_shift]
      simp only [impl_firstStair.j0]
    obtain ⟨z, ok, h1, h2⟩ := hloop (S.length - (b.getLastD 0).toNat) (b.getLastD 0).toNat (by omega) (by omega)
    rw [Int.toNat_of_nonneg hlast.1] at h1
    refine ⟨z, ok, ?_, ?_⟩
    · rw [L_shift]
      have e1 : wrap64 ((b.length : Int) - 1) = (b.length : Int) - 1 := wrap_id (by omega) (by omega)
      by_cases hb0 : (b.length : Int) > 0
      · have el := last_rd b (by omega) (by omega)
        rw [e1] at el
        simp only [impl_firstStair.f, machinesOf_e, h.eq, Option.bind_some, if_neg (show ¬ (b.length : Int) = (m : Int) by omega), if_pos hb0, e1, if_pos (show (0 : Int) ≤ (b.length : Int) - 1 by omega), if_pos (show (b.length : Int) - 1 < (b.length : Int) by omega), el, hj, h1]
      · have hbn : b = [] := List.eq_nil_of_length_eq_zero (by omega)
        have e0 : b.getLastD 0 = 0 := by rw [hbn]; rfl
        rw [e0] at hj h1
        simp only [impl_firstStair.f, machinesOf_e, h.eq, Option.bind_some, if_neg (show ¬ (b.length : Int) = (m : Int) by omega), if_neg hb0, hj, h1]
    · rw [extX]
      exact h2
theorem tupI_len (n : Nat) (hn : n ≤ 8) : ∀ (d : Nat) (ls : List (List Int)), ls.length * 8 ^ d ≤ 512 → (tupI n d ls).length ≤ 512
  | 0, ls, h => by simpa [tupI] using h
  | d + 1, ls, h => by
    rw [tupI]
    refine tupI_len n hn d _ ?_
    rw [tupS_len]
    refine Nat.le_trans (Nat.mul_le_mul_right _ (Nat.mul_le_mul_left _ hn)) ?_
    rw [Nat.pow_succ, Nat.mul_comm (8 ^ d) 8, ← Nat.mul_assoc] at h
    exact h
theorem LongestStair_both (S : List (List Int)) (o : List Int) (hS : S.length ≤ 1048576) (hSr : ∀ x ∈ S, x.length ≤ 1048576) (ho : o.length ≤ 1048576) :
    ∃ (p : List Int) (ok : Bool), L (fun k => spec_LongestStair.f k S o) = some (p, ok) ∧ L (fun k => impl_LongestStair.f k S o) = some (p, ok) ∧ p.length ≤ 1048576 := by
  have hno1 : ∀ n z, L (fun k => spec_LongestStair.j0 k S o n true) = z ↔ some (([] : List Int), false) = z := fun n z => by rw [L_shift]; simp only [spec_LongestStair.j0, if_true, L_const]
  have hno2 : ∀ z, L (fun k => impl_LongestStair.j0 k S o true) = z ↔ some (([] : List Int), false) = z := fun z => by rw [L_shift]; simp only [impl_LongestStair.j0, if_true, L_const]
  simp only [spec_LongestStair.f, impl_LongestStair.f, spec_l8Two.f, impl_isFlow.f, bind_self, L_bind, L_ite, L_const, l8Good_L S hS hSr, isShop_L S hS hSr, l2Order_L S.length o hS (by omega), isOrder_L S.length o hS (by omega), Option.bind_some]
  cases hb : shopB S with
  | false => exact ⟨[], false, by simp [hno1], by simp [hno2], by simp⟩
  | true =>
    obtain ⟨m, h⟩ := shopB_iff hb
    have h8 := h.len
    have hm1 := h.m1
    have hm3 := h.m3
    simp only [if_true, decide_eq_true h8, Bool.true_and, Option.bind_some]
    cases hob : orderB S.length o with
    | false => exact ⟨[], false, by simp [hno1], by simp [hno2], by simp⟩
    | true =>
      have hio := orderB_iff.1 hob
      simp only [if_true]
      by_cases hn0 : (S.length : Int) = 0
      · rw [show ((S.length : Int) == 0) = true from beq_iff_eq.2 hn0]
        exact ⟨[], false, by simp [hno1], by simp [hno2], by simp⟩
      · rw [show ((S.length : Int) == 0) = false from beq_eq_false_iff_ne.2 hn0]
        have hn : 0 < S.length := by omega
        have hne : o ≠ [] := fun e => by have := hio.1; rw [e] at this; simp at this; omega
        obtain ⟨sp1, sp2⟩ := span_both h o (by have := hio.1; omega) hio.2.1 hne
        generalize mxL (flF S o (List.replicate m 0)) = span at sp1 sp2
        have h512 : ([[]] : List (List Int)).length * 8 ^ m ≤ 512 := by
          rw [List.length_singleton, Nat.one_mul]
          exact Nat.le_trans (Nat.pow_le_pow_right (by decide) hm3) (by decide)
        have hl0 := ls_l0 h o span m 0 [[]] (by omega) h512 (fun t ht => by rw [List.mem_singleton] at ht; simp [ht])
        have hX : tupI S.length m [[]] = tupX S.length m [] := by rw [tupI_X]; simp
        have hlen := tupI_len S.length h8 m [[]] h512
        rw [hX] at hl0 hlen
        have htl : ∀ t ∈ tupX S.length m [], t.length = m := fun t ht => by
          obtain ⟨s, e, hs⟩ := tupX_pre S.length m [] t ht
          rw [e]; simpa using hs
        have hl3 := ls_l3 h hn o hio.1 hio.2.1 span (tupX S.length m []) (by omega) htl (tupX S.length m []) [] rfl
        simp only [List.length_nil, Int.natCast_zero] at hl3 hl0
        obtain ⟨z, ok, f1, f2⟩ := fs_L h o hio.1 hio.2.1 span m [] (by simp) rfl
        have hfind := ext_find S.length (goalB S o span) (fun t ht => by rw [goalB, Bool.and_eq_true] at ht; exact stairB_up ht.1) m [] (by simp) (by simp)
        rw [hfind, f2] at hl3
        refine ⟨if ok = true then z else [], ok, ?_, ?_, ?_⟩
        · rw [L_shift]
          simp only [spec_LongestStair.j0, Bool.false_eq_true, if_false, L_bind, sp1, Option.bind_some, hl0, hl3]
          cases ok <;> rfl
        · rw [L_shift]
          simp only [impl_LongestStair.j0, Bool.false_eq_true, if_false, L_bind, sp2, f1, Option.bind_some, L_ite, L_const]
          cases ok <;> rfl
        · cases ok with
          | false => simp
          | true =>
            rw [← hfind, if_pos rfl] at f2
            have := htl z (List.mem_of_find?_eq_some f2)
            simp
            omega
theorem szIntSS_sum_l (r : List (List Int)) : ∀ (pre : List (List Int)) (v t : Int), (pre ++ r).length < 4611686018427387904 → 0 ≤ v → v ≤ 1048576 → (∀ x ∈ r, x.length ≤ 9223372036854775807) → L (fun k => laws_szIntSS.l0 k (pre ++ r) v (pre.length : Int)) = some t → 0 ≤ t → (sumLen r : Int) ≤ v := by
  induction r with
  | nil =>
    intro pre v t hb h0 h1 hr ht ht0
    simpa [sumLen] using h0
  | cons x r ih =>
    intro pre v t hb h0 h1 hr ht ht0
    have hl : pre.length < 4611686018427387904 := by simp at hb; omega
    have e : rd_L1 (pre ++ x :: r) (pre.length : Int) = x := getD_mid pre x r _
    rw [L_shift] at ht
    simp only [laws_szIntSS.l0, lt_mid, le_nat, if_true, e, wrap_mid pre x hl, szIntS_e x v (hr x List.mem_cons_self) h0 h1, Option.bind_some, L_ite, L_const] at ht
    by_cases h2 : (x.length : Int) ≤ v
    · rw [if_pos h2, if_neg (by omega), app_cons pre x r] at ht
      have := ih (pre ++ [x]) (v - (x.length : Int)) t (by simpa using hb) (by omega) (by omega) (fun y hy => hr y (List.mem_cons_of_mem _ hy)) ht ht0
      simp only [sumLen]
      omega
    · rw [if_neg h2, if_pos (by omega)] at ht
      obtain rfl := Option.some.inj ht
      omega
theorem szIntSS_sum (l : List (List Int)) (hl : l.length ≤ 9223372036854775807) (hr : ∀ x ∈ l, x.length ≤ 9223372036854775807) (t : Int) (h : L (fun k => laws_szIntSS.f k l 1048576) = some t) (ht0 : 0 ≤ t) : (sumLen l : Int) ≤ 1048576 := by
  simp only [laws_szIntSS.f] at h
  rw [wrap_id (show -9223372036854775808 ≤ 1048576 - (l.length : Int) by omega) (by omega)] at h
  by_cases h2 : 1048576 - (l.length : Int) < 0
  · simp only [if_pos h2, L_const] at h
    obtain rfl := Option.some.inj h
    omega
  · simp only [if_neg h2] at h
    have := szIntSS_sum_l l [] (1048576 - (l.length : Int)) t (by simp; omega) (by omega) (by omega) hr h ht0
    omega
theorem FnExactLongestStair : laws_FnExactLongestStair.Pure := by
  intro S o h1 hok1 h2 hok
  have e1 : maxLen = 9223372036854775807 := rfl
  refine rounds_of_L ?_
  simp only [laws_FnExactLongestStair.f]
  by_cases ho : o.length ≤ 1048576
  · rw [L_ite, if_neg (by omega)]
    have hrr : ∀ x ∈ S, x.length ≤ 9223372036854775807 := fun x hx => by have := (hok1 x hx).1; omega
    obtain ⟨t, ht, hd⟩ := szIntSS_L S 1048576 (by omega) (by omega) (by omega) hrr
    (rw [L_bind, ht, Option.bind_some]; try dsimp only)
    rcases hd with hd | ⟨hd, hS, hSr⟩
    · rw [L_ite, if_pos hd, L_const]
    · rw [L_ite, if_neg (by omega)]
      have hsum := szIntSS_sum S (by omega) hrr t ht hd
      obtain ⟨R, ok, hs, hi, hR⟩ := LongestStair_both S o hS hSr ho
      (rw [L_bind, (toIntSS_L S hS hSr), Option.bind_some]; try dsimp only)
      (rw [L_bind, (toIntS_L o ho), Option.bind_some]; try dsimp only)
      (rw [L_bind, hs, Option.bind_some]; try dsimp only)
      (rw [L_bind, (toIntSS_L S hS hSr), Option.bind_some]; try dsimp only)
      (rw [L_bind, (toIntS_L o ho), Option.bind_some]; try dsimp only)
      (rw [L_bind, hi, Option.bind_some]; try dsimp only)
      (rw [L_bind, (eqIntS_L R hR), Option.bind_some]; try dsimp only)
      rw [L_ite, if_pos rfl]
      rw [L_ite, if_pos rfl]
      (rw [L_bind, (toIntSS_L S hS hSr), Option.bind_some]; try dsimp only)
      (rw [L_bind, (eqIntSS_L S hS hSr), Option.bind_some]; try dsimp only)
      rw [L_ite, if_pos rfl]
      (rw [L_bind, (toIntS_L o ho), Option.bind_some]; try dsimp only)
      (rw [L_bind, (eqIntS_L o ho), Option.bind_some]; try dsimp only)
      rw [L_ite, if_pos rfl]
      (rw [L_bind, (markIntSS_L S 1 hS hSr (by omega) (by omega)), Option.bind_some]; try dsimp only)
      (rw [L_bind, (markIntS_L o _ ho (by omega) (by omega)), Option.bind_some]; try dsimp only)
      rw [L_ite, if_neg (by omega)]
      (rw [L_bind, (eqIntS_L R hR), Option.bind_some]; try dsimp only)
      rw [L_ite, if_pos rfl]
      rw [L_ite, if_pos rfl]
      (rw [L_bind, (markIntS_L R 1 hR (by omega) (by omega)), Option.bind_some]; try dsimp only)
      (rw [L_bind, (heldIntS_L R 1 hR (by omega) (by omega)), Option.bind_some]; try dsimp only)
      rw [L_ite, if_neg (by omega)]
      rw [L_ite, if_pos rfl]
      (rw [L_bind, (toIntSS_L S hS hSr), Option.bind_some]; try dsimp only)
      (rw [L_bind, (toIntS_L o ho), Option.bind_some]; try dsimp only)
      (rw [L_bind, hi, Option.bind_some]; try dsimp only)
      (rw [L_bind, (eqIntS_L R hR), Option.bind_some]; try dsimp only)
      rw [L_ite, if_pos rfl]
      rw [L_ite, if_pos rfl]
      (rw [L_bind, (heldIntS_L R 1 hR (by omega) (by omega)), Option.bind_some]; try dsimp only)
      rw [L_ite, if_neg (by omega)]
      rw [L_ite, if_pos rfl]
      rw [L_const]
  · rw [L_ite, if_pos (by omega), L_const]

end Go.Proofs.Ytenfjdjejnoofaa.Pure
