/- The program's IsBlockOrder answers what the reference's answers, for all lists of jobs, pairs and orders. -/
import Derived.Test.YtlnimgebhpfdjaaXSFnExactIsBlockOrder
import Derived.Test.YtlnimgebhpfdjaaXLim
namespace Go.Proofs.Ytlnimgebhpfdjaa.Pure
open Go.RowKit Go.Proofs.YtlnimgebhpfdjaaW.PrintWords Go.Proofs.YtlnimgebhpfdjaaW.PrintLast Go.Proofs.YtlnimgebhpfdjaaW.PrintMore Go.Proofs.Ytlnimgebhpfdjaa.X Go.Proofs.Ytlnimgebhpfdjaa.XRow Go.Proofs.Ytlnimgebhpfdjaa.XLim
set_option linter.unusedVariables false
set_option linter.unusedSimpArgs false
instance : ∀ a0 a1 a2, Mono (fun k => impl_IsBlockOrder.f k a0 a1 a2) := fun a0 a1 a2 => ⟨⟨impl_IsBlockOrder.mono a0 a1 a2⟩⟩
instance : ∀ a0, Mono (fun k => impl_IsJobs.f k a0) := fun a0 => ⟨⟨impl_IsJobs.mono a0⟩⟩
instance : ∀ a0 a1, Mono (fun k => impl_IsPrecedence.f k a0 a1) := fun a0 a1 => ⟨⟨impl_IsPrecedence.mono a0 a1⟩⟩
instance : ∀ a0 a1, Mono (fun k => impl_areDifferent.f k a0 a1) := fun a0 a1 => ⟨⟨impl_areDifferent.mono a0 a1⟩⟩
instance : ∀ a0 a1, Mono (fun k => impl_closure.f k a0 a1) := fun a0 a1 => ⟨⟨impl_closure.mono a0 a1⟩⟩
instance : ∀ a0 a1, Mono (fun k => impl_extends.f k a0 a1) := fun a0 a1 => ⟨⟨impl_extends.mono a0 a1⟩⟩
instance : ∀ a0 a1, Mono (fun k => impl_has.f k a0 a1) := fun a0 a1 => ⟨⟨impl_has.mono a0 a1⟩⟩
instance : ∀ a0 a1 a2, Mono (fun k => impl_isInitial.f k a0 a1 a2) := fun a0 a1 a2 => ⟨⟨impl_isInitial.mono a0 a1 a2⟩⟩
instance : ∀ a0 a1, Mono (fun k => impl_isOrder.f k a0 a1) := fun a0 a1 => ⟨⟨impl_isOrder.mono a0 a1⟩⟩
instance : ∀ a0 a1, Mono (fun k => impl_isPreceded.f k a0 a1) := fun a0 a1 => ⟨⟨impl_isPreceded.mono a0 a1⟩⟩
instance : ∀ a0, Mono (fun k => impl_listOf.f k a0) := fun a0 => ⟨⟨impl_listOf.mono a0⟩⟩
instance : ∀ a0 a1, Mono (fun k => impl_ratioOf.f k a0 a1) := fun a0 a1 => ⟨⟨impl_ratioOf.mono a0 a1⟩⟩
instance : ∀ a0, Mono (fun k => impl_setOf.f k a0) := fun a0 => ⟨⟨impl_setOf.mono a0⟩⟩
instance : ∀ a0 a1, Mono (fun k => impl_sidneyBlocks.f k a0 a1) := fun a0 a1 => ⟨⟨impl_sidneyBlocks.mono a0 a1⟩⟩
instance : ∀ a0 a1 a2, Mono (fun k => laws_FnExactIsBlockOrder.f k a0 a1 a2) := fun a0 a1 a2 => ⟨⟨laws_FnExactIsBlockOrder.mono a0 a1 a2⟩⟩
instance : ∀ a0 a1, Mono (fun k => laws_eqIntA2S.f k a0 a1) := fun a0 a1 => ⟨⟨laws_eqIntA2S.mono a0 a1⟩⟩
instance : ∀ a0 a1, Mono (fun k => laws_eqIntS.f k a0 a1) := fun a0 a1 => ⟨⟨laws_eqIntS.mono a0 a1⟩⟩
instance : ∀ a0 a1, Mono (fun k => laws_eqJobS.f k a0 a1) := fun a0 a1 => ⟨⟨laws_eqJobS.mono a0 a1⟩⟩
instance : ∀ a0, Mono (fun k => laws_toIntA2S.f k a0) := fun a0 => ⟨⟨laws_toIntA2S.mono a0⟩⟩
instance : ∀ a0, Mono (fun k => laws_toIntS.f k a0) := fun a0 => ⟨⟨laws_toIntS.mono a0⟩⟩
instance : ∀ a0, Mono (fun k => laws_toJobS.f k a0) := fun a0 => ⟨⟨laws_toJobS.mono a0⟩⟩
instance : ∀ a0 a1 a2, Mono (fun k => spec_IsBlockOrder.f k a0 a1 a2) := fun a0 a1 a2 => ⟨⟨spec_IsBlockOrder.mono a0 a1 a2⟩⟩
instance : ∀ a0 a1, Mono (fun k => spec_l1Has.f k a0 a1) := fun a0 a1 => ⟨⟨spec_l1Has.mono a0 a1⟩⟩
instance : ∀ a0, Mono (fun k => spec_l2Good.f k a0) := fun a0 => ⟨⟨spec_l2Good.mono a0⟩⟩
instance : ∀ a0 a1, Mono (fun k => spec_l2Order.f k a0 a1) := fun a0 a1 => ⟨⟨spec_l2Order.mono a0 a1⟩⟩
instance : ∀ a0 a1 a2, Mono (fun k => spec_l4Block.f k a0 a1 a2) := fun a0 a1 a2 => ⟨⟨spec_l4Block.mono a0 a1 a2⟩⟩
instance : ∀ a0 a1, Mono (fun k => spec_l4Extends.f k a0 a1) := fun a0 a1 => ⟨⟨spec_l4Extends.mono a0 a1⟩⟩
instance : ∀ a0 a1, Mono (fun k => spec_l4Good.f k a0 a1) := fun a0 a1 => ⟨⟨spec_l4Good.mono a0 a1⟩⟩
instance : ∀ a0 a1 a2, Mono (fun k => spec_l4Initial.f k a0 a1 a2) := fun a0 a1 a2 => ⟨⟨spec_l4Initial.mono a0 a1 a2⟩⟩
instance : ∀ a0 a1, Mono (fun k => spec_l4Pairs.f k a0 a1) := fun a0 a1 => ⟨⟨spec_l4Pairs.mono a0 a1⟩⟩
instance : ∀ a0 a1, Mono (fun k => spec_l4Set.f k a0 a1) := fun a0 a1 => ⟨⟨spec_l4Set.mono a0 a1⟩⟩
instance : ∀ a0 a1, Mono (fun k => spec_l4Sidney.f k a0 a1) := fun a0 a1 => ⟨⟨spec_l4Sidney.mono a0 a1⟩⟩
instance : ∀ a0 a1, Mono (fun k => spec_l4Sums.f k a0 a1) := fun a0 a1 => ⟨⟨spec_l4Sums.mono a0 a1⟩⟩
instance : ∀ a0 a1, Mono (fun k => spec_l4Table.f k a0 a1) := fun a0 a1 => ⟨⟨spec_l4Table.mono a0 a1⟩⟩
instance : ∀ a0 a1, Mono (fun k => spec_l4Two.f k a0 a1) := fun a0 a1 => ⟨⟨spec_l4Two.mono a0 a1⟩⟩
theorem lt_mid {α : Type} (pre : List α) (x : α) (r : List α) : ((pre.length : Int) < ((pre ++ x :: r).length : Int)) = True := by
  simp only [List.length_append, List.length_cons]
  exact eq_true (by omega)
theorem not_lt_end {α : Type} (pre : List α) : ((pre.length : Int) < ((pre ++ []).length : Int)) = False := by
  simp
theorem le_nat (n : Nat) : (0 ≤ (n : Int)) = True := eq_true (by omega)
theorem getD_mid {α : Type} (pre : List α) (x : α) (r : List α) (d : α) : (pre ++ x :: r).getD (pre.length : Int).toNat d = x := by
  simp [List.getD_eq_getElem?_getD]
theorem rd_mid (pre : List Int) (x : Int) (r : List Int) : rd (pre ++ x :: r) (pre.length : Int) = x := getD_mid pre x r 0
theorem wrap_mid {α : Type} (pre : List α) (x : α) (h : pre.length < 4611686018427387904) : wrap64 ((pre.length : Int) + 1) = ((pre ++ [x]).length : Int) := by
  rw [wrap_id (by omega) (by omega)]
  simp
theorem set_mid {α β : Type} (a : List α) (y v : α) (b : List α) (pre : List β) (h : pre.length = a.length) : (a ++ y :: b).set (pre.length : Int).toNat v = a ++ v :: b := by
  rw [Int.toNat_natCast, h, List.set_append_right _ _ (Nat.le_refl _)]
  simp
theorem rep_succ {α : Type} (x : α) (r : List α) {β : Type} (z : β) : List.replicate (x :: r).length z = z :: List.replicate r.length z := rfl
theorem app_cons {α : Type} (pre : List α) (x : α) (r : List α) : pre ++ x :: r = (pre ++ [x]) ++ r := by simp
theorem toIntS_l (r : List Int) : ∀ pre : List Int, (pre ++ r).length < 4611686018427387904 → L (fun k => laws_toIntS.l0 k (pre ++ r) (pre ++ List.replicate r.length 0) (pre.length : Int)) = some (pre ++ r) := by
  induction r with
  | nil =>
    intro pre hb
    rw [L_shift]
    simp only [laws_toIntS.l0, not_lt_end, if_false, L_const, List.length_nil, List.replicate_zero]
  | cons x r ih =>
    intro pre hb
    rw [L_shift]
    have hl : pre.length < 4611686018427387904 := by simp at hb; omega
    simp only [laws_toIntS.l0, lt_mid, le_nat, if_true, rep_succ, rd_mid, wrap_mid pre x hl, set_mid pre _ x _ pre rfl]
    rw [app_cons pre x r, app_cons pre x (List.replicate _ _)]
    exact ih (pre ++ [x]) (by simpa using hb)
theorem toIntS_L (l : List Int) (h : l.length ≤ 1048576) : L (fun k => laws_toIntS.f k l) = some l := by
  simp only [laws_toIntS.f, le_nat, if_true, Int.toNat_natCast, if_pos (show l.length ≤ 35184372088832 by omega)]
  exact toIntS_l l [] (by simp; omega)
theorem eqIntS_l (r : List Int) : ∀ pre : List Int, (pre ++ r).length < 4611686018427387904 → L (fun k => laws_eqIntS.l0 k (pre ++ r) (pre ++ r) (pre.length : Int)) = some true := by
  induction r with
  | nil =>
    intro pre hb
    rw [L_shift]
    simp only [laws_eqIntS.l0, not_lt_end, if_false, L_const]
  | cons x r ih =>
    intro pre hb
    rw [L_shift]
    have hl : pre.length < 4611686018427387904 := by simp at hb; omega
    simp only [laws_eqIntS.l0, lt_mid, le_nat, if_true, rd_mid, wrap_mid pre x hl]
    rw [app_cons pre x r]
    exact ih (pre ++ [x]) (by simpa using hb)
theorem eqIntS_L (l : List Int) (h : l.length ≤ 1048576) : L (fun k => laws_eqIntS.f k l l) = some true := by
  simp only [laws_eqIntS.f, if_true]
  exact eqIntS_l l [] (by simp; omega)
def toJobP (x : S46) : S44 := ⟨x.f0, x.f1, x.f2, x.f3⟩
theorem toJobS_l (r : List S46) : ∀ pre : List S46, (pre ++ r).length < 4611686018427387904 → L (fun k => laws_toJobS.l0 k (pre ++ r) (pre.map toJobP ++ List.replicate r.length z44) (pre.length : Int)) = some ((pre ++ r).map toJobP) := by
  induction r with
  | nil =>
    intro pre hb
    rw [L_shift]
    simp only [laws_toJobS.l0, not_lt_end, if_false, L_const, List.length_nil, List.replicate_zero]
    simp
  | cons x r ih =>
    intro pre hb
    rw [L_shift]
    have hl : pre.length < 4611686018427387904 := by simp at hb; omega
    have e : rd_T46 (pre ++ x :: r) (pre.length : Int) = x := getD_mid pre x r _
    have e2 : ((pre.length : Int) < ((pre.map toJobP ++ z44 :: List.replicate r.length z44).length : Int)) = True := by
      simp only [List.length_append, List.length_cons, List.length_map]
      exact eq_true (by omega)
    simp only [laws_toJobS.l0, laws_toJob.f, lt_mid, le_nat, if_true, rep_succ, e, e2, wrap_mid pre x hl, Option.bind_some, set_mid (pre.map toJobP) _ _ _ pre (by simp)]
    have := ih (pre ++ [x]) (by simpa using hb)
    simpa [toJobP] using this
theorem toJobS_L (l : List S46) (h : l.length ≤ 1048576) : L (fun k => laws_toJobS.f k l) = some (l.map toJobP) := by
  simp only [laws_toJobS.f, le_nat, if_true, Int.toNat_natCast, if_pos (show l.length ≤ 8796093022208 by omega)]
  exact toJobS_l l [] (by simp; omega)
theorem eqJobS_l (r : List S44) : ∀ pre : List S44, (pre ++ r).length < 4611686018427387904 → L (fun k => laws_eqJobS.l0 k (pre ++ r) (pre ++ r) (pre.length : Int)) = some true := by
  induction r with
  | nil =>
    intro pre hb
    rw [L_shift]
    simp only [laws_eqJobS.l0, not_lt_end, if_false, L_const]
  | cons x r ih =>
    intro pre hb
    rw [L_shift]
    have hl : pre.length < 4611686018427387904 := by simp at hb; omega
    simp only [laws_eqJobS.l0, laws_eqJob.f, lt_mid, le_nat, if_true, wrap_mid pre x hl, Option.bind_some]
    rw [app_cons pre x r]
    exact ih (pre ++ [x]) (by simpa using hb)
theorem eqJobS_L (l : List S44) (h : l.length ≤ 1048576) : L (fun k => laws_eqJobS.f k l l) = some true := by
  simp only [laws_eqJobS.f, if_true]
  exact eqJobS_l l [] (by simp; omega)
theorem szJobS_e (l : List S46) (h : l.length ≤ 9223372036854775807) : laws_szJobS.f l 1048576 = if l.length ≤ 1048576 then some (1048576 - (l.length : Int)) else some (-1) := by
  unfold laws_szJobS.f
  have e : wrap64 (1048576 - (l.length : Int)) = 1048576 - (l.length : Int) := wrap_id (by omega) (by omega)
  rw [e]
  by_cases h2 : l.length ≤ 1048576
  · rw [if_neg (by omega), if_pos h2]
  · rw [if_pos (by omega), if_neg h2]
/-- The numbers from v on, as many as a list has. -/
def countI {α : Type} : Int → List α → List Int
  | _, [] => []
  | v, _ :: r => v :: countI (v + 1) r
theorem ite_and (b c : Bool) : (if b = true then some c else some false) = some (b && c) := by cases b <;> rfl
theorem ite_not_and (b c : Bool) : (if b = true then some false else some c) = some (!b && c) := by cases b <;> rfl
theorem bind_self {α : Type} (o : Option α) : (o.bind fun t => some t) = o := by cases o <;> rfl
def inB (a lo hi : Int) : Bool := decide (lo ≤ a) && decide (a ≤ hi)
theorem inB_iff {a lo hi : Int} : inB a lo hi = true ↔ lo ≤ a ∧ a ≤ hi := by simp [inB]
theorem within_e (a lo hi : Int) : impl_within.f a lo hi = some (inB a lo hi) := by
  unfold impl_within.f inB
  by_cases h : lo ≤ a <;> simp [h]
theorem l1In_e (a lo hi : Int) : spec_l1In.f a lo hi = some (inB a lo hi) := by
  unfold spec_l1In.f inB
  by_cases h : lo ≤ a <;> simp [h]
theorem l1Has_l (x : Int) (r : List Int) : ∀ pre : List Int, (pre ++ r).length < 4611686018427387904 → L (fun k => spec_l1Has.l0 k (pre ++ r) x (pre.length : Int)) = some (decide (x ∈ r)) := by
  induction r with
  | nil =>
    intro pre hb
    rw [L_shift]
    simp only [spec_l1Has.l0, not_lt_end, if_false, L_const]
    simp
  | cons y r ih =>
    intro pre hb
    rw [L_shift]
    have hl : pre.length < 4611686018427387904 := by simp at hb; omega
    simp only [spec_l1Has.l0, lt_mid, le_nat, if_true, rd_mid, wrap_mid pre y hl, L_ite, L_const]
    rw [app_cons pre y r, ih (pre ++ [y]) (by simpa using hb)]
    by_cases h : y = x
    · subst h
      simp
    · rw [if_neg h]
      have : ¬ x = y := fun e => h e.symm
      simp [this]
theorem l1Has_L (l : List Int) (x : Int) (h : l.length < 4611686018427387904) : L (fun k => spec_l1Has.f k l x) = some (decide (x ∈ l)) := l1Has_l x l [] (by simpa using h)
theorem has_l (x : Int) (r : List Int) : ∀ pre : List Int, (pre ++ r).length < 4611686018427387904 → L (fun k => impl_has.l0 k x (pre ++ r) ((pre ++ r).length : Int) (pre.length : Int)) = some (decide (x ∈ r)) := by
  induction r with
  | nil =>
    intro pre hb
    rw [L_shift]
    simp only [impl_has.l0, not_lt_end, if_false, L_const]
    simp
  | cons y r ih =>
    intro pre hb
    rw [L_shift]
    have hl : pre.length < 4611686018427387904 := by simp at hb; omega
    simp only [impl_has.l0, lt_mid, le_nat, if_true, rd_mid, wrap_mid pre y hl, L_ite, L_const]
    rw [app_cons pre y r, ih (pre ++ [y]) (by simpa using hb)]
    by_cases h : y = x
    · subst h
      simp
    · rw [if_neg h]
      have : ¬ x = y := fun e => h e.symm
      simp [this]
theorem has_L (l : List Int) (x : Int) (h : l.length < 4611686018427387904) : L (fun k => impl_has.f k l x) = some (decide (x ∈ l)) := has_l x l [] (by simpa using h)
theorem perm_of : ∀ (a b : List Int), a.Nodup → (∀ x ∈ a, x ∈ b) → b.length ≤ a.length → a.Perm b
  | [], b, _, _, hl => by
    have : b = [] := List.length_eq_zero_iff.1 (by simpa using hl)
    rw [this]
  | x :: a, b, hn, hs, hl => by
    have hx : x ∈ b := hs x List.mem_cons_self
    have hn' := List.nodup_cons.1 hn
    have hp := List.perm_cons_erase hx
    have h1 : (b.erase x).length ≤ a.length := by
      have := List.length_erase_of_mem hx
      simp at hl
      omega
    have h2 : ∀ y ∈ a, y ∈ b.erase x := fun y hy => (List.mem_erase_of_ne (by rintro rfl; exact hn'.1 hy)).2 (hs y (List.mem_cons_of_mem _ hy))
    exact ((perm_of a (b.erase x) hn'.2 h2 h1).cons x).trans hp.symm
def numsTo (n : Nat) : List Int := (List.range n).map (fun i : Nat => (i : Int))
theorem numsTo_length (n : Nat) : (numsTo n).length = n := by simp [numsTo]
theorem mem_numsTo {n : Nat} {x : Int} : x ∈ numsTo n ↔ 0 ≤ x ∧ x < n := by
  simp only [numsTo, List.mem_map, List.mem_range]
  constructor
  · rintro ⟨i, hi, rfl⟩
    omega
  · intro h
    exact ⟨x.toNat, by omega, by omega⟩
theorem numsTo_nodup (n : Nat) : (numsTo n).Nodup := by
  unfold numsTo
  exact List.Pairwise.map _ (fun a b h => by omega) List.nodup_range
/-- Different numbers of n things, none of them in pre. -/
def diffB (n : Int) : List Int → List Int → Bool
  | _, [] => true
  | pre, x :: r => inB x 0 (n - 1) && (!decide (x ∈ pre) && diffB n (pre ++ [x]) r)
theorem diffB_iff (n : Int) : ∀ (r pre : List Int), diffB n pre r = true ↔ (∀ x ∈ r, 0 ≤ x ∧ x < n) ∧ r.Nodup ∧ ∀ x ∈ r, x ∉ pre
  | [], pre => by simp [diffB]
  | x :: r, pre => by
    rw [diffB, Bool.and_eq_true, Bool.and_eq_true, inB_iff, diffB_iff n r (pre ++ [x])]
    simp only [Bool.not_eq_true', decide_eq_false_iff_not, List.mem_cons, List.nodup_cons, List.mem_append, List.not_mem_nil, or_false, not_or]
    constructor
    · rintro ⟨h1, h2, h3, h4, h5⟩
      refine ⟨?_, ⟨fun hx => (h5 x hx).2 rfl, h4⟩, ?_⟩
      · rintro y (rfl | hy)
        · omega
        · exact h3 y hy
      · rintro y (rfl | hy)
        · exact h2
        · exact (h5 y hy).1
    · rintro ⟨h1, ⟨h2, h3⟩, h4⟩
      exact ⟨⟨(h1 x (.inl rfl)).1, by have := (h1 x (.inl rfl)).2; omega⟩, h4 x (.inl rfl), fun y hy => h1 y (.inr hy), h3, fun y hy => ⟨h4 y (.inr hy), fun e => h2 (e ▸ hy)⟩⟩
/-- An order of n jobs. -/
def orderB (n : Nat) (l : List Int) : Bool := decide ((l.length : Int) = n) && diffB n [] l
def IsOrd (n : Nat) (l : List Int) : Prop := l.length = n ∧ (∀ x ∈ l, 0 ≤ x ∧ x < n) ∧ l.Nodup
theorem orderB_iff {n : Nat} {l : List Int} : orderB n l = true ↔ IsOrd n l := by
  simp only [orderB, Bool.and_eq_true, decide_eq_true_eq, diffB_iff, IsOrd]
  constructor
  · rintro ⟨h, h1, h2, _⟩
    exact ⟨by omega, h1, h2⟩
  · rintro ⟨h, h1, h2⟩
    exact ⟨by omega, h1, h2, by simp⟩
theorem IsOrd.perm {n : Nat} {l : List Int} (h : IsOrd n l) : l.Perm (numsTo n) := perm_of l _ h.2.2 (fun x hx => mem_numsTo.2 (h.2.1 x hx)) (by rw [numsTo_length, h.1]; exact Nat.le_refl _)
theorem IsOrd.of_perm {n : Nat} {l : List Int} (h : l.Perm (numsTo n)) : IsOrd n l := ⟨by rw [h.length_eq, numsTo_length], fun x hx => mem_numsTo.1 (h.mem_iff.1 hx), h.nodup_iff.2 (numsTo_nodup n)⟩
theorem IsOrd.mem {n : Nat} {l : List Int} (h : IsOrd n l) {x : Int} : x ∈ l ↔ 0 ≤ x ∧ x < n := by rw [h.perm.mem_iff, mem_numsTo]
theorem isOrd_all {n : Nat} {l : List Int} (hl : l.length = n) (h : ∀ j : Nat, j < n → (j : Int) ∈ l) : IsOrd n l :=
  IsOrd.of_perm (perm_of _ l (numsTo_nodup n) (fun x hx => by
    obtain ⟨h0, h1⟩ := mem_numsTo.1 hx
    have := h x.toNat (by omega)
    rwa [Int.toNat_of_nonneg h0] at this) (by rw [numsTo_length, hl]; exact Nat.le_refl _)).symm
theorem l2Order_l (n : Nat) (l : List Int) (hn : n ≤ 1048576) (hl : l.length < 4611686018427387904) : ∀ (d i : Nat), i + d = n → L (fun k => spec_l2Order.l0 k (n : Int) l (i : Int)) = some (decide (∀ j : Nat, j < n → i ≤ j → (j : Int) ∈ l))
  | 0, i, hi => by
    rw [L_shift]
    simp only [spec_l2Order.l0, if_neg (show ¬ ((i : Int) < (n : Int)) by omega), L_const]
    congr 1
    symm
    rw [decide_eq_true_eq]
    intro j h1 h2
    omega
  | d + 1, i, hi => by
    rw [L_shift]
    have e : wrap64 ((i : Int) + 1) = ((i + 1 : Nat) : Int) := by
      rw [wrap_id (by omega) (by omega)]
      omega
    simp only [spec_l2Order.l0, if_pos (show ((i : Int) < (n : Int)) by omega), L_bind, l1Has_L l _ hl, Option.bind_some, e, L_ite, L_const]
    rw [l2Order_l n l hn hl d (i + 1) (by omega), ite_and]
    congr 1
    rw [← Bool.decide_and]
    apply decide_eq_decide.2
    constructor
    · rintro ⟨h1, h2⟩ j h4 h3
      rcases Nat.eq_or_lt_of_le h3 with rfl | h5
      · exact h1
      · exact h2 j h4 h5
    · intro h
      exact ⟨h i (by omega) (Nat.le_refl _), fun j h4 h3 => h j h4 (by omega)⟩
theorem l2Order_L (n : Nat) (l : List Int) (hn : n ≤ 1048576) (hl : l.length < 4611686018427387904) : L (fun k => spec_l2Order.f k (n : Int) l) = some (decide (n ≤ 8) && orderB n l) := by
  have hj : ∀ b : Bool, L (fun k => spec_l2Order.j0 k (n : Int) l b) = some (!b && decide (∀ j : Nat, j < n → (j : Int) ∈ l)) := by
    intro b
    rw [L_shift]
    simp only [spec_l2Order.j0, L_ite, L_const]
    rw [show ((0 : Int)) = ((0 : Nat) : Int) from rfl]
    rw [l2Order_l n l hn hl n 0 (by omega), ite_not_and]
    simp
  simp only [spec_l2Order.f, l1In_e, Option.bind_some, L_ite, hj]
  by_cases h8 : n ≤ 8
  · rw [if_pos (by rw [inB_iff]; omega)]
    simp only [h8, decide_true, Bool.true_and]
    congr 1
    by_cases hl2 : l.length = n
    · have e : ((l.length : Int) != (n : Int)) = false := by rw [hl2]; simp
      rw [e]
      simp only [Bool.not_false, Bool.true_and]
      by_cases h : ∀ j : Nat, j < n → (j : Int) ∈ l
      · rw [decide_eq_true h, orderB_iff.2 (isOrd_all hl2 h)]
      · rw [decide_eq_false h]
        symm
        rw [Bool.eq_false_iff]
        intro ho
        exact h (fun j hj => (orderB_iff.1 ho).mem.2 (by omega))
    · have e : ((l.length : Int) != (n : Int)) = true := by simp; omega
      rw [e]
      simp only [Bool.not_true, Bool.false_and]
      symm
      rw [Bool.eq_false_iff]
      intro ho
      exact hl2 (orderB_iff.1 ho).1
  · rw [if_neg (by rw [inB_iff]; omega)]
    simp [h8]
theorem isNumber_e (a n : Int) (h0 : -9223372036854775807 ≤ n) (h1 : n ≤ 9223372036854775807) : impl_isNumber.f a n = some (inB a 0 (n - 1)) := by
  simp only [impl_isNumber.f, within_e, Option.bind_some]
  rw [wrap_id (by omega) (by omega)]
theorem take_mid {α : Type} (pre : List α) (r : List α) : (pre ++ r).take (pre.length : Int).toNat = pre := by simp
theorem areDifferent_l (n : Nat) (hn : n ≤ 1048576) (r : List Int) : ∀ pre : List Int, (pre ++ r).length < 4611686018427387904 → L (fun k => impl_areDifferent.l0 k (n : Int) (pre ++ r) (pre ++ r) ((pre ++ r).length : Int) (pre.length : Int)) = some (diffB n pre r) := by
  induction r with
  | nil =>
    intro pre hb
    rw [L_shift]
    simp only [impl_areDifferent.l0, not_lt_end, if_false, L_const]
    simp [diffB]
  | cons x r ih =>
    intro pre hb
    rw [L_shift]
    have hl : pre.length < 4611686018427387904 := by simp at hb; omega
    have e : ((pre.length : Int) ≤ ((pre ++ x :: r).length : Int)) = True := eq_true (by simp; omega)
    simp only [impl_areDifferent.l0, lt_mid, le_nat, if_true, rd_mid, wrap_mid pre x hl, isNumber_e x (n : Int) (by omega) (by omega), Option.bind_some, e, take_mid, L_ite, L_bind, has_L pre x hl, L_const]
    rw [app_cons pre x r, ih (pre ++ [x]) (by simpa using hb), ite_not_and, ite_and]
    rfl
theorem areDifferent_L (n : Nat) (l : List Int) (hn : n ≤ 1048576) (hl : l.length < 4611686018427387904) : L (fun k => impl_areDifferent.f k (n : Int) l) = some (diffB n [] l) := areDifferent_l n hn l [] (by simpa using hl)
theorem isOrder_L (n : Nat) (l : List Int) (hn : n ≤ 1048576) (hl : l.length < 4611686018427387904) : L (fun k => impl_isOrder.f k (n : Int) l) = some (orderB n l) := by
  simp only [impl_isOrder.f, bind_self, L_ite, areDifferent_L n l hn hl, L_const, orderB]
  by_cases h : (l.length : Int) = n <;> simp [h]
def jobB (j : S44) : Bool := inB j.f0 1 50 && (inB j.f1 0 50 && (inB j.f2 0 500 && inB j.f3 0 500))
def goodB (l : List S44) : Bool := l.all jobB && decide ((l.length : Int) ≤ 8)
structure JobOk (j : S44) : Prop where
  t0 : 1 ≤ j.f0
  t1 : j.f0 ≤ 50
  w0 : 0 ≤ j.f1
  w1 : j.f1 ≤ 50
  r0 : 0 ≤ j.f2
  r1 : j.f2 ≤ 500
  d0 : 0 ≤ j.f3
  d1 : j.f3 ≤ 500
def Good (l : List S44) : Prop := l.length ≤ 8 ∧ ∀ j ∈ l, JobOk j
theorem goodB_iff {l : List S44} : goodB l = true ↔ Good l := by
  simp only [goodB, Good, Bool.and_eq_true, List.all_eq_true, decide_eq_true_eq, jobB, inB_iff]
  constructor
  · rintro ⟨h, hl⟩
    exact ⟨by omega, fun j hj => by
      obtain ⟨⟨a, b⟩, ⟨c, d⟩, ⟨e, f⟩, g, i⟩ := h j hj
      exact ⟨a, b, c, d, e, f, g, i⟩⟩
  · rintro ⟨hl, h⟩
    exact ⟨fun j hj => ⟨⟨(h j hj).t0, (h j hj).t1⟩, ⟨(h j hj).w0, (h j hj).w1⟩, ⟨(h j hj).r0, (h j hj).r1⟩, (h j hj).d0, (h j hj).d1⟩, by omega⟩
theorem l2Job_e (j : S44) : spec_l2Job.f j.f0 j.f1 j.f2 j.f3 = some (jobB j) := by
  simp only [spec_l2Job.f, l1In_e, Option.bind_some, ite_and, jobB]
theorem l2Good_l (r : List S44) : ∀ pre : List S44, (pre ++ r).length < 4611686018427387904 → L (fun k => spec_l2Good.l0 k (pre ++ r) (pre.length : Int)) = some (r.all jobB && decide (((pre ++ r).length : Int) ≤ 8)) := by
  induction r with
  | nil =>
    intro pre hb
    rw [L_shift]
    simp only [spec_l2Good.l0, not_lt_end, if_false, L_const]
    simp
  | cons x r ih =>
    intro pre hb
    rw [L_shift]
    have hl : pre.length < 4611686018427387904 := by simp at hb; omega
    have e : rd_T44 (pre ++ x :: r) (pre.length : Int) = x := getD_mid pre x r _
    simp only [spec_l2Good.l0, lt_mid, le_nat, if_true, e, wrap_mid pre x hl, l2Job_e, Option.bind_some, L_ite, L_const]
    rw [app_cons pre x r, ih (pre ++ [x]) (by simpa using hb), ite_and]
    rw [List.all_cons, Bool.and_assoc]
theorem l2Good_L (l : List S44) (h : l.length < 4611686018427387904) : L (fun k => spec_l2Good.f k l) = some (goodB l) := by
  have := l2Good_l l [] (by simpa using h)
  simpa [goodB, spec_l2Good.f] using this
theorem isDate_e (n : Int) : impl_isDate.f n = some (inB n 0 500) := by
  simp only [impl_isDate.f, within_e, Option.bind_some]
theorem IsJobs_l (r : List S44) : ∀ pre : List S44, (pre ++ r).length < 4611686018427387904 → L (fun k => impl_IsJobs.l0 k (pre ++ r) ((pre ++ r).length : Int) (pre.length : Int)) = some (r.all jobB) := by
  induction r with
  | nil =>
    intro pre hb
    rw [L_shift]
    simp only [impl_IsJobs.l0, not_lt_end, if_false, L_const]
    simp
  | cons x r ih =>
    intro pre hb
    rw [L_shift]
    have hl : pre.length < 4611686018427387904 := by simp at hb; omega
    have e : rd_T44 (pre ++ x :: r) (pre.length : Int) = x := getD_mid pre x r _
    simp only [impl_IsJobs.l0, lt_mid, le_nat, if_true, e, wrap_mid pre x hl, within_e, isDate_e, Option.bind_some, L_ite, L_const]
    rw [app_cons pre x r, ih (pre ++ [x]) (by simpa using hb)]
    simp only [ite_and, List.all_cons, jobB, Bool.and_assoc]
theorem IsJobs_L (l : List S44) (h : l.length < 4611686018427387904) : L (fun k => impl_IsJobs.f k l) = some (goodB l) := by
  have := IsJobs_l l [] (by simpa using h)
  simp only [List.nil_append, List.length_nil, Int.natCast_zero] at this
  simp only [impl_IsJobs.f, L_ite, L_const, this, goodB]
  by_cases h8 : (l.length : Int) ≤ 8
  · rw [if_neg (by omega)]
    simp [h8]
  · rw [if_pos (by omega)]
    simp [h8]
def jobAt (l : List S44) (x : Int) : S44 := l.getD x.toNat z44
/-- The ends, put into out by the jobs' numbers. -/
def endsF (l : List S44) : List Int → List Int → Int → List Int
  | [], out, _ => out
  | x :: r, out, now => endsF l r (out.set x.toNat (max now (jobAt l x).f2 + (jobAt l x).f0)) (max now (jobAt l x).f2 + (jobAt l x).f0)
def startsF (l : List S44) : List Int → List Int → Int → List Int
  | [], out, _ => out
  | x :: r, out, now => startsF l r (out.set x.toNat (max now (jobAt l x).f2)) (max now (jobAt l x).f2 + (jobAt l x).f0)
def endsP (l : List S44) (o : List Int) : List Int := endsF l o (List.replicate l.length 0) 0
def startsP (l : List S44) (o : List Int) : List Int := startsF l o (List.replicate l.length 0) 0
theorem eqIntA2S_l (r : List S47) : ∀ pre : List S47, (pre ++ r).length < 4611686018427387904 → L (fun k => laws_eqIntA2S.l0 k (pre ++ r) (pre ++ r) (pre.length : Int)) = some true := by
  induction r with
  | nil =>
    intro pre hb
    rw [L_shift]
    simp only [laws_eqIntA2S.l0, not_lt_end, if_false, L_const]
  | cons x r ih =>
    intro pre hb
    rw [L_shift]
    have hl : pre.length < 4611686018427387904 := by simp at hb; omega
    simp only [laws_eqIntA2S.l0, laws_eqIntA2.f, lt_mid, le_nat, if_true, wrap_mid pre x hl, Option.bind_some]
    rw [app_cons pre x r]
    exact ih (pre ++ [x]) (by simpa using hb)
theorem eqIntA2S_L (l : List S47) (h : l.length ≤ 1048576) : L (fun k => laws_eqIntA2S.f k l l) = some true := by
  simp only [laws_eqIntA2S.f, if_true]
  exact eqIntA2S_l l [] (by simp; omega)
/-- Rows of the numbers from v on, each as long as a list's rows. -/
def countSS {α : Type} : Int → List (List α) → List (List Int)
  | _, [] => []
  | v, x :: r => countI v x :: countSS (v + x.length) r
def sumLen {α : Type} : List (List α) → Nat
  | [] => 0
  | x :: r => x.length + sumLen r
theorem nodup_bd : ∀ (n : Nat) (x : List Int), x.Nodup → (∀ a ∈ x, 0 ≤ a ∧ a < (n : Int)) → x.length ≤ n
  | 0, x, _, h => by
    cases x with
    | nil => exact Nat.le_refl _
    | cons a x => have := h a List.mem_cons_self; omega
  | n + 1, x, hn, h => by
    by_cases hm : (n : Int) ∈ x
    · have hp := List.perm_cons_erase hm
      have hn2 := List.nodup_cons.1 (hp.nodup_iff.1 hn)
      have ih := nodup_bd n (x.erase (n : Int)) hn2.2 (fun a ha => by
        have h1 := h a (List.mem_of_mem_erase ha)
        have h2 : a ≠ (n : Int) := fun e => by rw [e] at ha; exact hn2.1 ha
        omega)
      have := hp.length_eq
      simp only [List.length_cons] at this
      omega
    · have ih := nodup_bd n x hn (fun a ha => by
        have h1 := h a ha
        have h2 : a ≠ (n : Int) := fun e => by rw [e] at ha; exact hm ha
        omega)
      omega
/-- Sooner: by date, then by number. -/
def dueQ (l : List S44) (a b : Int) : Bool := decide ((jobAt l a).f3 < (jobAt l b).f3) || (decide ((jobAt l a).f3 = (jobAt l b).f3) && decide (a < b))
/-- Whether no job of an order is late that starts at t. -/
def timF (l : List S44) : Int → List Int → Bool
  | _, [] => true
  | t, x :: r => decide (t + (jobAt l x).f0 ≤ (jobAt l x).f3) && timF l (t + (jobAt l x).f0) r
def sumD (l : List S44) (d : Int) : List Int → Int
  | [] => 0
  | x :: r => (if (jobAt l x).f3 ≤ d then (jobAt l x).f0 else 0) + sumD l d r
theorem szIntA2S_e (l : List S47) (v : Int) (h : l.length ≤ 9223372036854775807) (h0 : 0 ≤ v) (h1 : v ≤ 1048576) : laws_szIntA2S.f l v = some (if (l.length : Int) ≤ v then v - (l.length : Int) else -1) := by
  unfold laws_szIntA2S.f
  rw [wrap_id (show -9223372036854775808 ≤ v - (l.length : Int) by omega) (by omega)]
  by_cases h2 : (l.length : Int) ≤ v
  · rw [if_neg (by omega), if_pos h2]
  · rw [if_pos (by omega), if_neg h2]
theorem toIntA2S_l (r : List S47) : ∀ pre : List S47, (pre ++ r).length < 4611686018427387904 → L (fun k => laws_toIntA2S.l0 k (pre ++ r) (pre ++ List.replicate r.length z47) (pre.length : Int)) = some (pre ++ r) := by
  induction r with
  | nil =>
    intro pre hb
    rw [L_shift]
    simp only [laws_toIntA2S.l0, not_lt_end, if_false, L_const, List.length_nil, List.replicate_zero]
  | cons x r ih =>
    intro pre hb
    rw [L_shift]
    have hl : pre.length < 4611686018427387904 := by simp at hb; omega
    have e : rd_T47 (pre ++ x :: r) (pre.length : Int) = x := getD_mid pre x r _
    simp only [laws_toIntA2S.l0, lt_mid, le_nat, if_true, List.length_cons, List.replicate_succ, e, laws_toIntA2.f, Option.bind_some, wrap_mid pre x hl, set_mid pre _ _ _ pre rfl]
    rw [app_cons pre x r, app_cons pre x (List.replicate _ _)]
    exact ih (pre ++ [x]) (by simpa using hb)
theorem toIntA2S_L (l : List S47) (h : l.length ≤ 1048576) : L (fun k => laws_toIntA2S.f k l) = some l := by
  simp only [laws_toIntA2S.f, le_nat, if_true, Int.toNat_natCast, if_pos (show l.length ≤ 17592186044416 by omega)]
  exact toIntA2S_l l [] (by simp; omega)
/-- Sooner: by date, then by time, then by number. -/
def soonQ (l : List S44) (a b : Int) : Bool := decide ((jobAt l a).f3 < (jobAt l b).f3) || (decide ((jobAt l a).f3 = (jobAt l b).f3) && (decide ((jobAt l a).f0 < (jobAt l b).f0) || (decide ((jobAt l a).f0 = (jobAt l b).f0) && decide (a < b))))
/-- How many of a set are due by a date. -/
def dueC (l : List S44) (d : Int) (s : List Int) : Nat := s.countP (fun x => decide ((jobAt l x).f3 ≤ d))
/-- A set of unit jobs can be done in time. -/
def Ind (l : List S44) (s : List Int) : Prop := ∀ x ∈ s, (dueC l (jobAt l x).f3 s : Int) ≤ (jobAt l x).f3
theorem nodup_sub : ∀ (a b : List Int), a.Nodup → (∀ x ∈ a, x ∈ b) → a.length ≤ b.length
  | [], b, _, _ => Nat.zero_le _
  | x :: a, b, hn, hs => by
    have hx : x ∈ b := hs x List.mem_cons_self
    have hn' := List.nodup_cons.1 hn
    have h1 := List.length_erase_of_mem hx
    have h2 := nodup_sub a (b.erase x) hn'.2 (fun y hy => (List.mem_erase_of_ne (by rintro rfl; exact hn'.1 hy)).2 (hs y (List.mem_cons_of_mem _ hy)))
    have h3 := List.length_pos_of_mem hx
    simp only [List.length_cons]
    omega
/-- The list of a number's bits. -/
def blN (m i d : Nat) : List Int := ((List.range' i d).filter (fun j => m.testBit j)).map (fun j : Nat => (j : Int))
def bl (m : Nat) : List Int := blN m 0 8
theorem mem_bl {m : Nat} {x : Int} : x ∈ bl m ↔ (0 ≤ x ∧ x < 8) ∧ m.testBit x.toNat = true := by
  simp only [bl, blN, List.mem_map, List.mem_filter, List.mem_range']
  constructor
  · rintro ⟨j, ⟨⟨i, hi, rfl⟩, h2⟩, rfl⟩
    refine ⟨by omega, ?_⟩
    simpa using h2
  · rintro ⟨h1, h2⟩
    exact ⟨x.toNat, ⟨⟨x.toNat, by omega, by omega⟩, h2⟩, by omega⟩
theorem bl_asc (m : Nat) : (bl m).Pairwise (· < ·) := by
  unfold bl blN
  rw [List.pairwise_map]
  exact (List.pairwise_lt_range' (s := 0) (n := 8)).sublist List.filter_sublist |>.imp (fun h => by omega)
/-- The number with a list's bits. -/
def mkS (s : List Int) : Nat := s.foldl (fun m x => m ||| 2 ^ x.toNat) 0
theorem mkS_bit : ∀ (s : List Int) (m i : Nat), (s.foldl (fun m x => m ||| 2 ^ x.toNat) m).testBit i = (m.testBit i || s.any (fun x => decide (x.toNat = i)))
  | [], m, i => by simp
  | x :: r, m, i => by
    rw [List.foldl_cons, mkS_bit r, Nat.testBit_or, Nat.testBit_two_pow, List.any_cons, Bool.or_assoc]
theorem mkS_lt : ∀ (s : List Int) (m : Nat), m < 256 → (∀ x ∈ s, 0 ≤ x ∧ x < 8) → s.foldl (fun m x => m ||| 2 ^ x.toNat) m < 256
  | [], m, h, _ => h
  | x :: r, m, h, hs => by
    rw [List.foldl_cons]
    refine mkS_lt r _ ?_ (fun y hy => hs y (List.mem_cons_of_mem _ hy))
    have hx := hs x List.mem_cons_self
    have h2 : 2 ^ x.toNat < 2 ^ 8 := Nat.pow_lt_pow_right (by decide) (by omega)
    exact Nat.or_lt_two_pow (n := 8) h h2
theorem orBits : ∀ m : Fin 256, ∀ x : Fin 8, Go.bits .or .i64 (m.val : Int) (shl .i64 1 (x.val : Int)) = ((m.val ||| 2 ^ x.val : Nat) : Int) := by decide +kernel
theorem setOf_l (w : List Int) (hw : ∀ x ∈ w, 0 ≤ x ∧ x < 8) (hl : w.length ≤ 1000000) : ∀ (r pre : List Int) (m : Nat), pre ++ r = w → m < 256 → L (fun k => impl_setOf.l0 k (m : Int) w (w.length : Int) (pre.length : Int)) = some ((r.foldl (fun m x => m ||| 2 ^ x.toNat) m : Nat) : Int)
  | [], pre, m, e, hm => by
    rw [List.append_nil] at e
    subst e
    rw [L_shift]
    simp only [impl_setOf.l0, if_neg (show ¬ ((pre.length : Int) < (pre.length : Int)) by omega), L_const, List.foldl_nil]
  | y :: r, pre, m, e, hm => by
    have hlen : w.length = pre.length + (r.length + 1) := by rw [← e]; simp
    have ew : wrap64 ((pre.length : Int) + 1) = ((pre ++ [y]).length : Int) := wrap_mid pre y (by omega)
    have er : rd w (pre.length : Int) = y := by rw [← e]; exact rd_mid pre y r
    have hy := hw y (by rw [← e]; simp)
    have hb := orBits ⟨m, hm⟩ ⟨y.toNat, by omega⟩
    simp only at hb
    have hy2 : ((y.toNat : Nat) : Int) = y := Int.toNat_of_nonneg hy.1
    rw [hy2] at hb
    have hlt : m ||| 2 ^ y.toNat < 256 := Nat.or_lt_two_pow (n := 8) hm (Nat.pow_lt_pow_right (by decide) (by omega))
    have ih := setOf_l w hw hl r (pre ++ [y]) (m ||| 2 ^ y.toNat) (by rw [← e]; simp) hlt
    rw [L_shift]
    simp only [impl_setOf.l0, if_pos (show (pre.length : Int) < (w.length : Int) by omega), if_pos (show (0 : Int) ≤ (pre.length : Int) by omega), er, if_pos hy.1, ew, hb, ih, List.foldl_cons]
theorem setOf_L (w : List Int) (hw : ∀ x ∈ w, 0 ≤ x ∧ x < 8) (hl : w.length ≤ 1000000) : L (fun k => impl_setOf.f k w) = some ((mkS w : Nat) : Int) := setOf_l w hw hl w [] 0 rfl (by decide)
theorem shrBits : ∀ m : Fin 256, ∀ i : Fin 9, (shr .i64 (m.val : Int) (i.val : Int) > 0 ↔ 2 ^ i.val ≤ m.val) ∧ (Go.bits .and .i64 (shr .i64 (m.val : Int) (i.val : Int)) 1 = 1 ↔ m.val.testBit i.val = true) := by decide +kernel
theorem listOf_l (m : Nat) (hm : m < 256) : ∀ (d i : Nat) (out : List Int), i + d = 8 → out.length ≤ i → L (fun k => impl_listOf.l0 k (m : Int) out (i : Int)) = some (out ++ blN m i d)
  | 0, i, out, hi, ho => by
    obtain ⟨h1, _⟩ := shrBits ⟨m, hm⟩ ⟨i, by omega⟩
    simp only at h1
    have e : i = 8 := by omega
    have h2 : ¬ 2 ^ i ≤ m := by rw [e]; omega
    rw [L_shift]
    simp only [impl_listOf.l0, if_pos (show (0 : Int) ≤ (i : Int) by omega), if_neg (fun h => h2 (h1.1 h)), L_const]
    simp [blN]
  | d + 1, i, out, hi, ho => by
    obtain ⟨h1, h3⟩ := shrBits ⟨m, hm⟩ ⟨i, by omega⟩
    simp only at h1 h3
    have ew : wrap64 ((i : Int) + 1) = ((i + 1 : Nat) : Int) := by
      rw [wrap_id (by omega) (by omega)]
      omega
    have i1 := listOf_l m hm d (i + 1) out (by omega) (by omega)
    have i2 := listOf_l m hm d (i + 1) (out ++ [(i : Int)]) (by omega) (by simp; omega)
    rw [L_shift]
    by_cases h2 : 2 ^ i ≤ m
    · simp only [impl_listOf.l0, if_pos (show (0 : Int) ≤ (i : Int) by omega), if_pos (h1.2 h2), if_pos (show out.length < 17592186044416 by omega), ew, L_ite, i1, i2]
      have eb : blN m i (d + 1) = (if m.testBit i = true then (i : Int) :: blN m (i + 1) d else blN m (i + 1) d) := by
        unfold blN
        rw [List.range'_succ]
        by_cases hb : m.testBit i = true
        · rw [if_pos hb, List.filter_cons_of_pos (by simpa using hb)]
          rfl
        · rw [if_neg hb, List.filter_cons_of_neg (by simpa using hb)]
      rw [eb]
      by_cases hb : m.testBit i = true
      · rw [if_pos (h3.2 hb), if_pos hb, List.append_assoc]
        rfl
      · rw [if_neg (fun h => hb (h3.1 h)), if_neg hb]
    · simp only [impl_listOf.l0, if_pos (show (0 : Int) ≤ (i : Int) by omega), if_neg (fun h => h2 (h1.1 h)), L_const]
      have e : (List.range' i (d + 1)).filter (fun j => m.testBit j) = [] := by
        rw [List.filter_eq_nil_iff]
        intro j hj
        have hji : i ≤ j := by
          rw [List.mem_range'] at hj
          obtain ⟨q, _, rfl⟩ := hj
          omega
        have : m < 2 ^ j := Nat.lt_of_lt_of_le (by omega) (Nat.pow_le_pow_right (by decide) hji)
        rw [Nat.testBit_lt_two_pow this]
        simp
      rw [blN, e]
      simp
theorem listOf_L (m : Nat) (hm : m < 256) : L (fun k => impl_listOf.f k (m : Int)) = some (bl m) := by
  have := listOf_l m hm 8 0 [] rfl (Nat.le_refl _)
  simpa [impl_listOf.f, bl] using this
theorem andBits (p a : Fin 256) : Go.bits .andNot .i64 (p.val : Int) (a.val : Int) = 0 ↔ p.val &&& a.val = p.val := by
  have e : ∀ x : Fin 256, BitVec.ofInt 64 (x.val : Int) = BitVec.ofNat 64 x.val := fun x => BitVec.ofInt_natCast 64 x.val
  have hp := p.isLt
  have ha := a.isLt
  have h0 : Go.bits .andNot .i64 (p.val : Int) (a.val : Int) = IntKind.i64.wrap (((BitVec.ofInt 64 (p.val : Int)) &&& ~~~ (BitVec.ofInt 64 (a.val : Int))).toNat : Int) := rfl
  have hb : ∀ i, ((BitVec.ofNat 64 p.val) &&& ~~~ (BitVec.ofNat 64 a.val)).getLsbD i = (p.val.testBit i && !a.val.testBit i) := by
    intro i
    rw [BitVec.getLsbD_and, BitVec.getLsbD_not, BitVec.getLsbD_ofNat, BitVec.getLsbD_ofNat]
    by_cases hi : i < 64
    · simp [hi]
    · have : p.val < 2 ^ i := Nat.lt_of_lt_of_le (show p.val < 2 ^ 8 from hp) (Nat.pow_le_pow_right (by decide) (by omega))
      rw [Nat.testBit_lt_two_pow this]
      simp
  have hle : ((BitVec.ofNat 64 p.val) &&& ~~~ (BitVec.ofNat 64 a.val)).toNat ≤ p.val := by
    rw [BitVec.toNat_and, BitVec.toNat_ofNat]
    refine Nat.le_trans Nat.and_le_left ?_
    exact Nat.mod_le _ _
  rw [h0, e, e]
  have hz : IntKind.i64.wrap ((((BitVec.ofNat 64 p.val) &&& ~~~ (BitVec.ofNat 64 a.val)).toNat : Nat) : Int) = ((((BitVec.ofNat 64 p.val) &&& ~~~ (BitVec.ofNat 64 a.val)).toNat : Nat) : Int) := (i64_w _).trans (wrap_id (by omega) (by omega))
  rw [hz]
  constructor
  · intro h
    have h2 : ((BitVec.ofNat 64 p.val) &&& ~~~ (BitVec.ofNat 64 a.val)) = 0#64 := by
      apply BitVec.eq_of_toNat_eq
      rw [BitVec.toNat_ofNat]
      omega
    apply Nat.eq_of_testBit_eq
    intro i
    have h3 := hb i
    rw [h2, BitVec.getLsbD_zero] at h3
    rw [Nat.testBit_and]
    cases h4 : p.val.testBit i with
    | false => rfl
    | true =>
      rw [h4] at h3
      cases h5 : a.val.testBit i with
      | true => rfl
      | false => rw [h5] at h3; cases h3
  · intro h
    have h2 : ((BitVec.ofNat 64 p.val) &&& ~~~ (BitVec.ofNat 64 a.val)) = 0#64 := by
      apply BitVec.eq_of_getLsbD_eq
      intro i _
      rw [hb i, BitVec.getLsbD_zero]
      have h3 := congrArg (fun n => n.testBit i) h
      simp only [Nat.testBit_and] at h3
      cases h4 : p.val.testBit i with
      | false => rfl
      | true =>
        rw [h4] at h3
        cases h5 : a.val.testBit i with
        | true => rfl
        | false => rw [h5] at h3; cases h3
    rw [h2]
    rfl
/-- A table of n rows of n answers. -/
def tabN (n : Nat) (R : Nat → Nat → Bool) : List (List Bool) := (List.range n).map fun i => (List.range n).map (R i)
theorem tabN_length (n : Nat) (R : Nat → Nat → Bool) : (tabN n R).length = n := by simp [tabN]
theorem rangeRow_len (n : Nat) (f : Nat → Bool) : ((List.range n).map f).length = n := by simp
theorem tabN_row (n : Nat) (R : Nat → Nat → Bool) (i : Nat) (hi : i < n) : rd_L5 (tabN n R) (i : Int) = (List.range n).map (R i) := by
  show (tabN n R).getD (i : Int).toNat [] = _
  rw [Int.toNat_natCast]
  simp [tabN, List.getD_eq_getElem?_getD, hi]
theorem row_get (n : Nat) (f : Nat → Bool) (j : Nat) (hj : j < n) : rdOf false ((List.range n).map f) (j : Int) = f j := by
  show ((List.range n).map f).getD (j : Int).toNat false = _
  rw [Int.toNat_natCast]
  simp [List.getD_eq_getElem?_getD, hj]
def updR (R : Nat → Nat → Bool) (i j : Nat) (v : Bool) : Nat → Nat → Bool := fun a b => if a = i ∧ b = j then v else R a b
theorem tabN_congr (n : Nat) (R Q : Nat → Nat → Bool) (h : ∀ i j, i < n → j < n → R i j = Q i j) : tabN n R = tabN n Q := by
  refine List.map_congr_left fun i hi => List.map_congr_left fun j hj => h i j (List.mem_range.1 hi) (List.mem_range.1 hj)
theorem tabN_set (n : Nat) (R : Nat → Nat → Bool) (i j : Nat) (v : Bool) (hi : i < n) : (tabN n R).set (i : Int).toNat (((List.range n).map (R i)).set (j : Int).toNat v) = tabN n (updR R i j v) := by
  rw [Int.toNat_natCast, Int.toNat_natCast]
  refine List.ext_getElem (by simp [tabN]) fun a h1 h2 => ?_
  rw [List.getElem_set]
  by_cases e : i = a
  · subst e
    rw [if_pos rfl]
    refine List.ext_getElem (by simp [tabN]) fun b h3 h4 => ?_
    simp only [tabN, List.getElem_map, List.getElem_range, List.getElem_set, updR, true_and]
    by_cases e2 : j = b
    · rw [if_pos e2, if_pos e2.symm]
    · rw [if_neg e2, if_neg (fun h => e2 h.symm)]
  · rw [if_neg e]
    simp only [tabN, List.getElem_map, List.getElem_range]
    refine List.map_congr_left fun b _ => ?_
    simp only [updR, if_neg (fun h : a = i ∧ b = j => e h.1.symm)]
def stepR (k : Nat) (R : Nat → Nat → Bool) : Nat → Nat → Bool := fun i j => R i j || (R i k && R k j)
/-- Warshall's steps by the pivots k, k + 1, .. -/
def warR : Nat → Nat → (Nat → Nat → Bool) → Nat → Nat → Bool
  | 0, _, R => R
  | d + 1, k, R => warR d (k + 1) (stepR k R)
theorem stepR_col (k : Nat) (R : Nat → Nat → Bool) (i : Nat) : stepR k R i k = R i k := by
  unfold stepR
  cases R i k <;> cases R k k <;> rfl
theorem stepR_row (k : Nat) (R : Nat → Nat → Bool) (j : Nat) : stepR k R k j = R k j := by
  unfold stepR
  cases R k j <;> cases R k k <;> rfl
def ClosedR (R : Nat → Nat → Bool) (m : Nat) : Prop := ∀ i j, R i m = true → R m j = true → R i j = true
theorem stepR_iff (k : Nat) (R : Nat → Nat → Bool) (i j : Nat) : stepR k R i j = true ↔ R i j = true ∨ (R i k = true ∧ R k j = true) := by
  unfold stepR
  rw [Bool.or_eq_true, Bool.and_eq_true]
/-- Where a pivot's double loop stands. -/
def partR (k : Nat) (R : Nat → Nat → Bool) (i j : Nat) : Nat → Nat → Bool := fun a b => if a < i ∨ (a = i ∧ b < j) then stepR k R a b else R a b
theorem partR_col (k : Nat) (R : Nat → Nat → Bool) (i j a : Nat) : partR k R i j a k = R a k := by
  unfold partR
  split
  · exact stepR_col k R a
  · rfl
theorem partR_row (k : Nat) (R : Nat → Nat → Bool) (i j b : Nat) : partR k R i j k b = R k b := by
  unfold partR
  split
  · exact stepR_row k R b
  · rfl
theorem partR_at (k : Nat) (R : Nat → Nat → Bool) (i j : Nat) : partR k R i j i j = R i j := by
  unfold partR
  rw [if_neg (by omega)]
theorem partR_set (k : Nat) (R : Nat → Nat → Bool) (i j : Nat) (v : Bool) (hv : v = stepR k R i j) : updR (partR k R i j) i j v = partR k R i (j + 1) := by
  funext a b
  unfold updR partR
  by_cases e : a = i ∧ b = j
  · obtain ⟨rfl, rfl⟩ := e
    rw [if_pos ⟨rfl, rfl⟩, if_pos (by omega), hv]
  · rw [if_neg e]
    by_cases c : a < i ∨ a = i ∧ b < j
    · rw [if_pos c, if_pos (by omega)]
    · rw [if_neg c, if_neg (by omega)]
theorem partR_same (k : Nat) (R : Nat → Nat → Bool) (i j : Nat) (h : (R i k && R k j) = false) : partR k R i j = partR k R i (j + 1) := by
  funext a b
  unfold partR
  by_cases e : a = i ∧ b = j
  · obtain ⟨rfl, rfl⟩ := e
    rw [if_neg (by omega), if_pos (by omega), stepR, h, Bool.or_false]
  · by_cases c : a < i ∨ a = i ∧ b < j
    · rw [if_pos c, if_pos (by omega)]
    · rw [if_neg c, if_neg (by omega)]
theorem partR_next (n k : Nat) (R : Nat → Nat → Bool) (i : Nat) : tabN n (partR k R i n) = tabN n (partR k R (i + 1) 0) := by
  refine tabN_congr n _ _ fun a b ha hb => ?_
  unfold partR
  by_cases c : a < i + 1
  · rw [if_pos (by omega), if_pos (by omega)]
  · rw [if_neg (by omega), if_neg (by omega)]
theorem partR_done (n k : Nat) (R : Nat → Nat → Bool) : tabN n (partR k R n 0) = tabN n (stepR k R) := by
  refine tabN_congr n _ _ fun a b ha hb => ?_
  unfold partR
  rw [if_pos (.inl ha)]
theorem partR_zero (k : Nat) (R : Nat → Nat → Bool) : partR k R 0 0 = R := by
  funext a b
  unfold partR
  rw [if_neg (by omega)]
theorem nw1 {n : Nat} (hn : n ≤ 1000) (i : Nat) (hi : i < n) : wrap64 ((i : Int) + 1) = ((i + 1 : Nat) : Int) := by
  rw [wrap_id (by omega) (by omega)]; omega
theorem tab_l4 (n : Nat) (hn : n ≤ 1000) (k : Nat) (hk : k < n) (R : Nat → Nat → Bool) (i : Nat) (hi : i < n) : ∀ (d j : Nat), j + d = n → L (fun q => spec_l4Table.l4 q (n : Int) (tabN n (partR k R i j)) (k : Int) (i : Int) (j : Int)) = L (fun q => spec_l4Table.l3 q (n : Int) (tabN n (partR k R (i + 1) 0)) (k : Int) ((i + 1 : Nat) : Int))
  | 0, j, h => by
    have e : j = n := by omega
    subst e
    rw [L_shift]
    simp only [spec_l4Table.l4, if_neg (Int.lt_irrefl _), nw1 hn i hi, partR_next]
  | d + 1, j, h => by
    have ih := tab_l4 n hn k hk R i hi d (j + 1) (by omega)
    have hj : j < n := by omega
    have c1 : (j : Int) < (n : Int) := by omega
    have c2 : (i : Int) < (n : Int) := by omega
    have c3 : (k : Int) < (n : Int) := by omega
    rw [L_shift]
    simp only [spec_l4Table.l4, if_pos c1, le_nat, if_true, tabN_length, if_pos c2, if_pos c3, tabN_row n _ i hi, tabN_row n _ k hk, rangeRow_len, row_get n _ k hk, row_get n _ j hj, partR_col, partR_row, nw1 hn j hj, tabN_set n _ i j _ hi, L_ite]
    by_cases h1 : R i k = true
    · by_cases h2 : R k j = true
      · rw [if_pos h1, if_pos h2, partR_set k R i j true (by unfold stepR; rw [h1, h2]; cases R i j <;> rfl)]
        exact ih
      · rw [if_pos h1, if_neg h2, partR_same k R i j (by rw [h1, Bool.eq_false_iff.2 h2]; rfl)]
        exact ih
    · rw [if_neg h1, partR_same k R i j (by rw [Bool.eq_false_iff.2 h1]; rfl)]
      exact ih
theorem clo_l4 (n : Nat) (hn : n ≤ 1000) (k : Nat) (hk : k < n) (R : Nat → Nat → Bool) (i : Nat) (hi : i < n) : ∀ (d j : Nat), j + d = n → L (fun q => impl_closure.l4 q (n : Int) (tabN n (partR k R i j)) (k : Int) (i : Int) (j : Int)) = L (fun q => impl_closure.l3 q (n : Int) (tabN n (partR k R (i + 1) 0)) (k : Int) ((i + 1 : Nat) : Int))
  | 0, j, h => by
    have e : j = n := by omega
    subst e
    rw [L_shift]
    simp only [impl_closure.l4, if_neg (Int.lt_irrefl _), nw1 hn i hi, partR_next]
  | d + 1, j, h => by
    have ih := clo_l4 n hn k hk R i hi d (j + 1) (by omega)
    have hj : j < n := by omega
    have c1 : (j : Int) < (n : Int) := by omega
    have c2 : (i : Int) < (n : Int) := by omega
    have c3 : (k : Int) < (n : Int) := by omega
    rw [L_shift]
    simp only [impl_closure.l4, if_pos c1, le_nat, if_true, tabN_length, if_pos c2, if_pos c3, tabN_row n _ i hi, tabN_row n _ k hk, rangeRow_len, row_get n _ k hk, row_get n _ j hj, partR_col, partR_row, partR_at, nw1 hn j hj, tabN_set n _ i j _ hi, L_ite]
    by_cases h0 : R i j = true
    · rw [if_pos h0, partR_set k R i j true (by unfold stepR; rw [h0]; rfl)]
      exact ih
    · have h0' := Bool.eq_false_iff.2 h0
      rw [if_neg h0]
      by_cases h1 : R i k = true
      · rw [if_pos h1, partR_set k R i j (R k j) (by unfold stepR; rw [h0', h1]; cases R k j <;> rfl)]
        exact ih
      · rw [if_neg h1, partR_set k R i j false (by unfold stepR; rw [h0', Bool.eq_false_iff.2 h1]; rfl)]
        exact ih
theorem tab_l3 (n : Nat) (hn : n ≤ 1000) (k : Nat) (hk : k < n) (R : Nat → Nat → Bool) : ∀ (d i : Nat), i + d = n → L (fun q => spec_l4Table.l3 q (n : Int) (tabN n (partR k R i 0)) (k : Int) (i : Int)) = L (fun q => spec_l4Table.l2 q (n : Int) (tabN n (stepR k R)) ((k + 1 : Nat) : Int))
  | 0, i, h => by
    have e : i = n := by omega
    subst e
    rw [L_shift]
    simp only [spec_l4Table.l3, if_neg (Int.lt_irrefl _), nw1 hn k hk, partR_done]
  | d + 1, i, h => by
    have h4 := tab_l4 n hn k hk R i (by omega) n 0 (by omega)
    rw [Int.natCast_zero] at h4
    rw [L_shift]
    simp only [spec_l4Table.l3, if_pos (show (i : Int) < (n : Int) by omega), h4]
    exact tab_l3 n hn k hk R d (i + 1) (by omega)
theorem clo_l3 (n : Nat) (hn : n ≤ 1000) (k : Nat) (hk : k < n) (R : Nat → Nat → Bool) : ∀ (d i : Nat), i + d = n → L (fun q => impl_closure.l3 q (n : Int) (tabN n (partR k R i 0)) (k : Int) (i : Int)) = L (fun q => impl_closure.l2 q (n : Int) (tabN n (stepR k R)) ((k + 1 : Nat) : Int))
  | 0, i, h => by
    have e : i = n := by omega
    subst e
    rw [L_shift]
    simp only [impl_closure.l3, if_neg (Int.lt_irrefl _), nw1 hn k hk, partR_done]
  | d + 1, i, h => by
    have h4 := clo_l4 n hn k hk R i (by omega) n 0 (by omega)
    rw [Int.natCast_zero] at h4
    rw [L_shift]
    simp only [impl_closure.l3, if_pos (show (i : Int) < (n : Int) by omega), h4]
    exact clo_l3 n hn k hk R d (i + 1) (by omega)
theorem tab_l2 (n : Nat) (hn : n ≤ 1000) : ∀ (d k : Nat) (R : Nat → Nat → Bool), k + d = n → L (fun q => spec_l4Table.l2 q (n : Int) (tabN n R) (k : Int)) = some (tabN n (warR d k R))
  | 0, k, R, h => by
    have e : k = n := by omega
    subst e
    rw [L_shift]
    simp only [spec_l4Table.l2, if_neg (Int.lt_irrefl _), L_const, warR]
  | d + 1, k, R, h => by
    have h3 := tab_l3 n hn k (by omega) R n 0 (by omega)
    rw [partR_zero, Int.natCast_zero] at h3
    rw [L_shift]
    simp only [spec_l4Table.l2, if_pos (show (k : Int) < (n : Int) by omega), h3, warR]
    exact tab_l2 n hn d (k + 1) _ (by omega)
theorem clo_l2 (n : Nat) (hn : n ≤ 1000) : ∀ (d k : Nat) (R : Nat → Nat → Bool), k + d = n → L (fun q => impl_closure.l2 q (n : Int) (tabN n R) (k : Int)) = some (tabN n (warR d k R))
  | 0, k, R, h => by
    have e : k = n := by omega
    subst e
    rw [L_shift]
    simp only [impl_closure.l2, if_neg (Int.lt_irrefl _), L_const, warR]
  | d + 1, k, R, h => by
    have h3 := clo_l3 n hn k (by omega) R n 0 (by omega)
    rw [partR_zero, Int.natCast_zero] at h3
    rw [L_shift]
    simp only [impl_closure.l2, if_pos (show (k : Int) < (n : Int) by omega), h3, warR]
    exact clo_l2 n hn d (k + 1) _ (by omega)
def PairIn (n : Nat) (e : S47) : Prop := (0 ≤ e.f0 ∧ e.f0 < (n : Int)) ∧ (0 ≤ e.f1 ∧ e.f1 < (n : Int))
def markR (R : Nat → Nat → Bool) : List S47 → Nat → Nat → Bool
  | [] => R
  | e :: r => markR (updR R e.f0.toNat e.f1.toNat true) r
theorem markR_iff : ∀ (es : List S47) (R : Nat → Nat → Bool) (i j : Nat), markR R es i j = true ↔ R i j = true ∨ ∃ e ∈ es, e.f0.toNat = i ∧ e.f1.toNat = j
  | [], R, i, j => ⟨fun h => .inl h, fun h => h.elim id (fun ⟨_, h, _⟩ => nomatch h)⟩
  | e :: r, R, i, j => by
    rw [markR, markR_iff r]
    unfold updR
    constructor
    · rintro (h | ⟨x, hx, h⟩)
      · by_cases c : i = e.f0.toNat ∧ j = e.f1.toNat
        · exact .inr ⟨e, List.mem_cons_self, c.1.symm, c.2.symm⟩
        · rw [if_neg c] at h; exact .inl h
      · exact .inr ⟨x, List.mem_cons_of_mem _ hx, h⟩
    · rintro (h | ⟨x, hx, h⟩)
      · left
        split
        · rfl
        · exact h
      · rcases List.mem_cons.1 hx with rfl | hx
        · left; rw [if_pos ⟨h.1.symm, h.2.symm⟩]
        · exact .inr ⟨x, hx, h⟩
def noR : Nat → Nat → Bool := fun _ _ => false
/-- What lies behind what, over all ways. -/
def closR (n : Nat) (es : List S47) : Nat → Nat → Bool := warR n 0 (markR noR es)
theorem repRow (n : Nat) : List.replicate n (List.replicate n false) = tabN n noR := by
  refine List.ext_getElem (by simp [tabN]) fun a h1 h2 => ?_
  simp only [List.getElem_replicate, tabN, List.getElem_map, List.getElem_range]
  refine List.ext_getElem (by simp) fun b h3 h4 => ?_
  simp [noR]
theorem edge_nat {n : Nat} {e : S47} (h : PairIn n e) : ∃ a b : Nat, e.f0 = (a : Int) ∧ e.f1 = (b : Int) ∧ a < n ∧ b < n ∧ e.f0.toNat = a ∧ e.f1.toNat = b :=
  ⟨e.f0.toNat, e.f1.toNat, (Int.toNat_of_nonneg h.1.1).symm, (Int.toNat_of_nonneg h.2.1).symm, by have := h.1; omega, by have := h.2; omega, rfl, rfl⟩
theorem tab_l1 (n : Nat) (hn : n ≤ 1000) (es : List S47) (hl : es.length ≤ 2000000) (he : ∀ e ∈ es, PairIn n e) : ∀ (r pre : List S47) (R : Nat → Nat → Bool), es = pre ++ r → L (fun q => spec_l4Table.l1 q (n : Int) es (tabN n R) (pre.length : Int)) = some (tabN n (warR n 0 (markR R r)))
  | [], pre, R, e => by
    rw [List.append_nil] at e
    have h2 := tab_l2 n hn n 0 R (by omega)
    rw [Int.natCast_zero] at h2
    rw [L_shift]
    simp only [spec_l4Table.l1, if_neg (show ¬ ((pre.length : Int) < (es.length : Int)) by rw [e]; omega), h2, markR]
  | x :: r, pre, R, e => by
    have hl2 : es.length = pre.length + (r.length + 1) := by rw [e]; simp
    have ew : wrap64 ((pre.length : Int) + 1) = ((pre ++ [x]).length : Int) := wrap_mid pre x (by omega)
    have er : rd_T47 es (pre.length : Int) = x := by rw [e]; exact getD_mid pre x r _
    obtain ⟨a, b, ea, eb, ha, hb, na, nb⟩ := edge_nat (he x (by rw [e]; simp))
    have ih := tab_l1 n hn es hl he r (pre ++ [x]) (updR R a b true) (by rw [e]; simp)
    have ts := tabN_set n R a b true ha
    rw [Int.toNat_natCast, Int.toNat_natCast] at ts
    have c1 : (pre.length : Int) < (es.length : Int) := by omega
    have c2 : (a : Int) < (n : Int) := by omega
    have c3 : (b : Int) < (n : Int) := by omega
    rw [L_shift]
    simp only [spec_l4Table.l1, if_pos c1, le_nat, if_true, er, ea, eb, tabN_length, if_pos c2, tabN_row n _ a ha, rangeRow_len, if_pos c3, Int.toNat_natCast, ts, ew, ih, markR]
theorem clo_l1 (n : Nat) (hn : n ≤ 1000) (es : List S47) (hl : es.length ≤ 2000000) (he : ∀ e ∈ es, PairIn n e) : ∀ (r pre : List S47) (R : Nat → Nat → Bool), es = pre ++ r → L (fun q => impl_closure.l1 q (n : Int) (tabN n R) es (es.length : Int) (pre.length : Int)) = some (tabN n (warR n 0 (markR R r)))
  | [], pre, R, e => by
    rw [List.append_nil] at e
    have h2 := clo_l2 n hn n 0 R (by omega)
    rw [Int.natCast_zero] at h2
    rw [L_shift]
    simp only [impl_closure.l1, if_neg (show ¬ ((pre.length : Int) < (es.length : Int)) by rw [e]; omega), h2, markR]
  | x :: r, pre, R, e => by
    have hl2 : es.length = pre.length + (r.length + 1) := by rw [e]; simp
    have ew : wrap64 ((pre.length : Int) + 1) = ((pre ++ [x]).length : Int) := wrap_mid pre x (by omega)
    have er : rd_T47 es (pre.length : Int) = x := by rw [e]; exact getD_mid pre x r _
    obtain ⟨a, b, ea, eb, ha, hb, na, nb⟩ := edge_nat (he x (by rw [e]; simp))
    have ih := clo_l1 n hn es hl he r (pre ++ [x]) (updR R a b true) (by rw [e]; simp)
    have ts := tabN_set n R a b true ha
    rw [Int.toNat_natCast, Int.toNat_natCast] at ts
    have c1 : (pre.length : Int) < (es.length : Int) := by omega
    have c2 : (a : Int) < (n : Int) := by omega
    have c3 : (b : Int) < (n : Int) := by omega
    rw [L_shift]
    simp only [impl_closure.l1, if_pos c1, le_nat, if_true, er, ea, eb, tabN_length, if_pos c2, tabN_row n _ a ha, rangeRow_len, if_pos c3, Int.toNat_natCast, ts, ew, ih, markR]
theorem tab_l0 (n : Nat) (hn : n ≤ 1000) (es : List S47) (hl : es.length ≤ 2000000) (he : ∀ e ∈ es, PairIn n e) : ∀ (d i : Nat), i + d = n → L (fun q => spec_l4Table.l0 q (n : Int) es (List.replicate i (List.replicate n false)) (i : Int)) = some (tabN n (closR n es))
  | 0, i, h => by
    have e : i = n := by omega
    subst e
    have h1 := tab_l1 i hn es hl he es [] noR rfl
    rw [List.length_nil, Int.natCast_zero] at h1
    rw [L_shift]
    simp only [spec_l4Table.l0, if_neg (Int.lt_irrefl _), repRow, h1, closR]
  | d + 1, i, h => by
    have ih := tab_l0 n hn es hl he d (i + 1) (by omega)
    rw [List.replicate_succ'] at ih
    rw [L_shift]
    simp only [spec_l4Table.l0, if_pos (show (i : Int) < (n : Int) by omega), le_nat, if_true, Int.toNat_natCast, if_pos (show n ≤ 281474976710656 by omega), List.length_replicate, if_pos (show i < 5864062014805 by omega), nw1 hn i (by omega)]
    exact ih
theorem clo_l0 (n : Nat) (hn : n ≤ 1000) (es : List S47) (hl : es.length ≤ 2000000) (he : ∀ e ∈ es, PairIn n e) : ∀ (d i : Nat), i + d = n → L (fun q => impl_closure.l0 q (n : Int) es (List.replicate i (List.replicate n false) ++ List.replicate d []) (n : Int) (i : Int)) = some (tabN n (closR n es))
  | 0, i, h => by
    have e : i = n := by omega
    subst e
    have h1 := clo_l1 i hn es hl he es [] noR rfl
    rw [List.length_nil, Int.natCast_zero] at h1
    rw [L_shift]
    simp only [impl_closure.l0, if_neg (Int.lt_irrefl _), List.replicate_zero, List.append_nil, repRow, h1, closR]
  | d + 1, i, h => by
    have ih := clo_l0 n hn es hl he d (i + 1) (by omega)
    have el : (List.replicate i (List.replicate n false) ++ List.replicate (d + 1) ([] : List Bool)).length = n := by simp; omega
    have es2 : (List.replicate i (List.replicate n false) ++ List.replicate (d + 1) ([] : List Bool)).set i (List.replicate n false) = List.replicate (i + 1) (List.replicate n false) ++ List.replicate d [] := by
      rw [List.set_append_right _ _ (by simp), List.length_replicate, Nat.sub_self, List.replicate_succ, List.set_cons_zero, List.replicate_succ' , List.append_assoc]
      rfl
    rw [L_shift]
    simp only [impl_closure.l0, if_pos (show (i : Int) < (n : Int) by omega), le_nat, if_true, Int.toNat_natCast, if_pos (show n ≤ 281474976710656 by omega), el, es2, nw1 hn i (by omega)]
    exact ih
theorem l4Table_L (n : Nat) (hn : n ≤ 1000) (es : List S47) (hl : es.length ≤ 2000000) (he : ∀ e ∈ es, PairIn n e) : L (fun q => spec_l4Table.f q (n : Int) es) = some (tabN n (closR n es)) := tab_l0 n hn es hl he n 0 (by omega)
theorem closure_L (n : Nat) (hn : n ≤ 1000) (es : List S47) (hl : es.length ≤ 2000000) (he : ∀ e ∈ es, PairIn n e) : L (fun q => impl_closure.f q (n : Int) es) = some (tabN n (closR n es)) := by
  have h := clo_l0 n hn es hl he n 0 (by omega)
  rw [List.replicate_zero, List.nil_append, Int.natCast_zero] at h
  simp only [impl_closure.f, le_nat, if_true, Int.toNat_natCast, if_pos (show n ≤ 11728124029610 by omega), Option.bind_some, List.length_replicate, h]
def irrF (R : Nat → Nat → Bool) : Nat → Nat → Bool
  | 0, _ => true
  | d + 1, i => !(R i i) && irrF R d (i + 1)
theorem irrF_iff (R : Nat → Nat → Bool) : ∀ d i, irrF R d i = true ↔ ∀ j, i ≤ j → j < i + d → R j j = false
  | 0, i => ⟨fun _ j h1 h2 => absurd h1 (by omega), fun _ => rfl⟩
  | d + 1, i => by
    rw [irrF, Bool.and_eq_true, irrF_iff R d (i + 1), Bool.not_eq_true']
    exact ⟨fun h j h1 h2 => by
      by_cases e : j = i
      · subst e; exact h.1
      · exact h.2 j (by omega) (by omega), fun h => ⟨h i (by omega) (by omega), fun j h1 h2 => h j (by omega) (by omega)⟩⟩
theorem good_l0 (n : Nat) (hn : n ≤ 1000) (R : Nat → Nat → Bool) : ∀ d i, i + d = n → L (fun q => spec_l4Good.l0 q (n : Int) (tabN n R) (i : Int)) = some (irrF R d i)
  | 0, i, h => by
    rw [L_shift]
    simp only [spec_l4Good.l0, if_neg (show ¬ ((i : Int) < (n : Int)) by omega), L_const, irrF]
  | d + 1, i, h => by
    have hi : i < n := by omega
    have ih := good_l0 n hn R d (i + 1) (by omega)
    have c1 : (i : Int) < (n : Int) := by omega
    rw [L_shift]
    simp only [spec_l4Good.l0, if_pos c1, le_nat, if_true, tabN_length, tabN_row n _ i hi, rangeRow_len, row_get n _ i hi, nw1 hn i hi, L_ite, L_const, ih, irrF]
    cases R i i <;> simp
theorem prec_l1 (n : Nat) (hn : n ≤ 1000) (R : Nat → Nat → Bool) : ∀ d i, i + d = n → L (fun q => impl_IsPrecedence.l1 q (tabN n R) (n : Int) (i : Int)) = some (irrF R d i)
  | 0, i, h => by
    rw [L_shift]
    simp only [impl_IsPrecedence.l1, if_neg (show ¬ ((i : Int) < (n : Int)) by omega), L_const, irrF]
  | d + 1, i, h => by
    have hi : i < n := by omega
    have ih := prec_l1 n hn R d (i + 1) (by omega)
    have c1 : (i : Int) < (n : Int) := by omega
    rw [L_shift]
    simp only [impl_IsPrecedence.l1, if_pos c1, le_nat, if_true, tabN_length, tabN_row n _ i hi, rangeRow_len, row_get n _ i hi, nw1 hn i hi, L_ite, L_const, ih, irrF]
    cases R i i <;> simp
def befB (p e : S47) : Bool := if p.f0 < e.f0 then true else if p.f0 = e.f0 then decide (p.f1 < e.f1) else false
/-- A list of pairs, each behind the one before. -/
def pairsB (n : Nat) : Option S47 → List S47 → Bool
  | _, [] => true
  | p, e :: r => (inB e.f0 0 ((n : Int) - 1) && inB e.f1 0 ((n : Int) - 1)) && (!(e.f0 == e.f1) && ((match p with | none => true | some q => befB q e) && pairsB n (some e) r))
theorem pairsB_in (n : Nat) : ∀ (r : List S47) (p : Option S47), pairsB n p r = true → ∀ e ∈ r, PairIn n e
  | [], p, h, e, he => nomatch he
  | x :: r, p, h, e, he => by
    simp only [pairsB, Bool.and_eq_true, inB_iff] at h
    rcases List.mem_cons.1 he with rfl | he
    · exact ⟨⟨h.1.1.1, by have := h.1.1.2; omega⟩, ⟨h.1.2.1, by have := h.1.2.2; omega⟩⟩
    · exact pairsB_in n r (some x) h.2.2.2 e he
def lastO (pre : List S47) : Option S47 := pre.getLast?
theorem lastO_snoc (pre : List S47) (x : S47) : lastO (pre ++ [x]) = some x := by simp [lastO]
theorem l4Before_e (p e : S47) : spec_l4Before.f p.f0 p.f1 e.f0 e.f1 = some (befB p e) := by
  unfold spec_l4Before.f befB
  split
  · rfl
  · split <;> rfl
theorem isNumber_e2 (a : Int) (n : Nat) (hn : n ≤ 1000) : impl_isNumber.f a (n : Int) = some (inB a 0 ((n : Int) - 1)) := by
  simp only [impl_isNumber.f, within_e, wrap_id (show -9223372036854775808 ≤ (n : Int) - 1 by omega) (by omega), Option.bind_some]
theorem pre_cases (pre : List S47) : (pre = [] ∧ lastO pre = none) ∨ ∃ a q, pre = a ++ [q] ∧ lastO pre = some q := by
  cases h : pre.getLast? with
  | none => exact .inl ⟨List.getLast?_eq_none_iff.1 h, h⟩
  | some q =>
    obtain ⟨a, ha⟩ := List.getLast?_eq_some_iff.1 h
    exact .inr ⟨a, q, ha, h⟩
theorem pairs_l0 (n : Nat) (hn : n ≤ 8) (es : List S47) (hl : es.length ≤ 2000000) : ∀ (r pre : List S47), es = pre ++ r → L (fun q => spec_l4Pairs.l0 q (n : Int) es (pre.length : Int)) = some (pairsB n (lastO pre) r && decide ((es.length : Int) ≤ 28))
  | [], pre, e => by
    rw [List.append_nil] at e
    have h8 : inB (n : Int) 0 8 = true := inB_iff.2 (by omega)
    rw [L_shift]
    simp only [spec_l4Pairs.l0, if_neg (show ¬ ((pre.length : Int) < (es.length : Int)) by rw [e]; omega), l1In_e, h8, Option.bind_some, if_true, L_const, pairsB, Bool.true_and]
  | x :: r, pre, e => by
    have hl2 : es.length = pre.length + (r.length + 1) := by rw [e]; simp
    have ew : wrap64 ((pre.length : Int) + 1) = ((pre ++ [x]).length : Int) := wrap_mid pre x (by omega)
    have er : rd_T47 es (pre.length : Int) = x := by rw [e]; exact getD_mid pre x r _
    have c1 : (pre.length : Int) < (es.length : Int) := by omega
    have wn : wrap64 ((n : Int) - 1) = (n : Int) - 1 := wrap_id (by omega) (by omega)
    have ih := pairs_l0 n hn es hl r (pre ++ [x]) (by rw [e]; simp)
    rw [lastO_snoc] at ih
    rw [L_shift]
    simp only [spec_l4Pairs.l0, if_pos c1, le_nat, if_true, er, l1In_e, wn, Option.bind_some, ew, pairsB]
    cases h1 : inB x.f0 0 ((n : Int) - 1) with
    | false => simp only [Bool.false_eq_true, if_false, L_const, Bool.false_and]
    | true =>
      cases h2 : inB x.f1 0 ((n : Int) - 1) with
      | false => simp only [if_true, Bool.false_eq_true, if_false, L_const, Bool.and_false, Bool.false_and]
      | true =>
        by_cases h3 : x.f0 = x.f1
        · simp only [if_true, if_pos h3, L_const, beq_iff_eq.2 h3, Bool.and_self, Bool.not_true, Bool.false_and, Bool.and_false]
        · have h3b : (x.f0 == x.f1) = false := beq_eq_false_iff_ne.2 h3
          rcases pre_cases pre with ⟨rfl, hp⟩ | ⟨a, q, rfl, hp⟩
          · simp only [if_true, if_neg h3, List.length_nil, Int.natCast_zero, gt_iff_lt, Int.lt_irrefl, if_false, hp, h3b, Bool.not_false, Bool.true_and]
            exact ih
          · have cq : ((a ++ [q]).length : Int) > 0 := by rw [List.length_append, List.length_singleton]; omega
            have wq : wrap64 (((a ++ [q]).length : Int) - 1) = (a.length : Int) := by
              have e_ : ((a ++ [q]).length : Int) - 1 = (a.length : Int) := by simp
              rw [e_, wrap_id (by omega) (by simp at hl2; omega)]
            have cq2 : (a.length : Int) < (es.length : Int) := by simp at hl2; omega
            have eq : rd_T47 es (a.length : Int) = q := by rw [e, List.append_assoc]; exact getD_mid a q _ _
            simp only [if_true, if_neg h3, if_pos cq, wq, le_nat, if_pos cq2, eq, l4Before_e, Option.bind_some, hp, h3b, Bool.not_false, Bool.true_and]
            cases hb : befB q x with
            | false => simp only [Bool.false_eq_true, if_false, L_const, Bool.false_and]
            | true => simp only [if_true, Bool.true_and]; exact ih
def precB (n : Nat) (es : List S47) : Bool := decide ((es.length : Int) ≤ 28) && (pairsB n none es && irrF (closR n es) n 0)
theorem prec_l0 (n : Nat) (hn : n ≤ 8) (es : List S47) (hl : (es.length : Int) ≤ 28) : ∀ (r pre : List S47), es = pre ++ r → (∀ e ∈ pre, PairIn n e) → L (fun q => impl_IsPrecedence.l0 q (n : Int) es es (es.length : Int) (pre.length : Int)) = some (pairsB n (lastO pre) r && irrF (closR n es) n 0)
  | [], pre, e, hp => by
    rw [List.append_nil] at e
    have hc := closure_L n (by omega) es (by omega) (by rw [e]; exact hp)
    have h1 := prec_l1 n (by omega) (closR n es) n 0 (by omega)
    rw [Int.natCast_zero] at h1
    rw [L_shift]
    simp only [impl_IsPrecedence.l0, if_neg (show ¬ ((pre.length : Int) < (es.length : Int)) by rw [e]; omega), L_bind, hc, Option.bind_some, tabN_length, h1, pairsB, Bool.true_and]
  | x :: r, pre, e, hp => by
    have hl2 : es.length = pre.length + (r.length + 1) := by rw [e]; simp
    have ew : wrap64 ((pre.length : Int) + 1) = ((pre ++ [x]).length : Int) := wrap_mid pre x (by omega)
    have er : rd_T47 es (pre.length : Int) = x := by rw [e]; exact getD_mid pre x r _
    have c1 : (pre.length : Int) < (es.length : Int) := by omega
    have ih := prec_l0 n hn es hl r (pre ++ [x]) (by rw [e]; simp)
    rw [lastO_snoc] at ih
    have hj : ∀ b : Bool, L (fun q => impl_IsPrecedence.j2 q (n : Int) es (pre.length : Int) es (es.length : Int) (pre.length : Int) b x.f0 x.f1) = if b = true then some false else (if (match lastO pre with | none => true | some q => befB q x) = true then L (fun q => impl_IsPrecedence.l0 q (n : Int) es es (es.length : Int) ((pre ++ [x]).length : Int)) else some false) := fun b => by
      rw [L_shift]
      cases b with
      | true => simp only [impl_IsPrecedence.j2, if_true, L_const]
      | false =>
        rcases pre_cases pre with ⟨rfl, hpn⟩ | ⟨a, q, rfl, hpn⟩
        · simp only [impl_IsPrecedence.j2, Bool.false_eq_true, if_false, List.length_nil, Int.natCast_zero, gt_iff_lt, Int.lt_irrefl, hpn, if_true]
          simp only [List.length_nil, Int.natCast_zero] at ew
          rw [ew]
        · have cq : ((a ++ [q]).length : Int) > 0 := by rw [List.length_append, List.length_singleton]; omega
          have wq : wrap64 (((a ++ [q]).length : Int) - 1) = (a.length : Int) := by
            have e_ : ((a ++ [q]).length : Int) - 1 = (a.length : Int) := by simp
            rw [e_, wrap_id (by omega) (by simp at hl2; omega)]
          have cq2 : (a.length : Int) < (es.length : Int) := by simp at hl2; omega
          have eq : rd_T47 es (a.length : Int) = q := by rw [e, List.append_assoc]; exact getD_mid a q _ _
          simp only [impl_IsPrecedence.j2, Bool.false_eq_true, if_false, if_pos cq, wq, le_nat, if_true, if_pos cq2, eq, hpn, ew, L_ite, L_const]
          unfold befB
          by_cases h1 : q.f0 > x.f0
          · rw [if_pos h1, if_neg (show ¬ q.f0 < x.f0 by omega), if_neg (show ¬ q.f0 = x.f0 by omega), if_neg (by decide)]
          · rw [if_neg h1]
            by_cases h2 : q.f0 = x.f0
            · rw [if_pos h2, if_neg (show ¬ q.f0 < x.f0 by omega), if_pos h2]
              by_cases h3 : q.f1 ≥ x.f1
              · rw [if_pos h3, if_neg (by rw [decide_eq_true_eq]; omega)]
              · rw [if_neg h3, if_pos (by rw [decide_eq_true_eq]; omega)]
            · rw [if_neg h2, if_pos (show q.f0 < x.f0 by omega), if_pos rfl]
    rw [L_shift]
    simp only [impl_IsPrecedence.l0, if_pos c1, le_nat, if_true, er, isNumber_e2 _ n (show n ≤ 1000 by omega), Option.bind_some, pairsB]
    cases h1 : inB x.f0 0 ((n : Int) - 1) with
    | false => simp only [Bool.false_eq_true, if_false, hj, if_true, Bool.false_and]
    | true =>
      cases h2 : inB x.f1 0 ((n : Int) - 1) with
      | false => simp only [if_true, Bool.false_eq_true, if_false, hj, Bool.and_false, Bool.false_and]
      | true =>
        simp only [if_true, hj, Bool.true_and, Bool.and_self]
        cases h3 : (x.f0 == x.f1) with
        | true => simp only [if_true, Bool.not_true, Bool.false_and]
        | false =>
          simp only [Bool.false_eq_true, if_false, Bool.not_false, Bool.true_and]
          cases hb : (match lastO pre with | none => true | some q => befB q x) with
          | false => simp only [Bool.false_eq_true, if_false, Bool.false_and]
          | true =>
            simp only [if_true, Bool.true_and]
            rw [inB_iff] at h1 h2
            exact ih (fun y hy => by
              rcases List.mem_append.1 hy with hy | hy
              · exact hp y hy
              · rw [List.mem_singleton.1 hy]
                exact ⟨⟨h1.1, by omega⟩, ⟨h2.1, by omega⟩⟩)
theorem IsPrecedence_L (n : Nat) (hn : n ≤ 8) (es : List S47) : L (fun q => impl_IsPrecedence.f q (n : Int) es) = some (precB n es) := by
  have h8 : inB (n : Int) 0 8 = true := inB_iff.2 (by omega)
  have hj : ∀ b : Bool, L (fun q => impl_IsPrecedence.j0 q (n : Int) es b) = if b = true then some false else L (fun q => impl_IsPrecedence.l0 q (n : Int) es es (es.length : Int) 0) := fun b => by
    rw [L_shift]
    cases b <;> simp [impl_IsPrecedence.j0, L_const]
  simp only [impl_IsPrecedence.f, within_e, h8, Option.bind_some, if_true, hj, precB]
  by_cases hl : (es.length : Int) ≤ 28
  · have h0 := prec_l0 n hn es hl es [] rfl (fun _ h => nomatch h)
    rw [List.length_nil, Int.natCast_zero] at h0
    rw [if_neg (by rw [decide_eq_true_eq]; omega), h0, decide_eq_true hl, Bool.true_and]
    rfl
  · rw [if_pos (by rw [decide_eq_true_eq]; omega), decide_eq_false hl, Bool.false_and]
theorem l4Good_L (n : Nat) (hn : n ≤ 8) (es : List S47) (hl : es.length ≤ 2000000) : L (fun q => spec_l4Good.f q (n : Int) es) = some (precB n es) := by
  have hp := pairs_l0 n hn es hl es [] rfl
  rw [List.length_nil, Int.natCast_zero] at hp
  have hp2 : L (fun q => spec_l4Pairs.f q (n : Int) es) = some (pairsB n none es && decide ((es.length : Int) ≤ 28)) := hp
  simp only [spec_l4Good.f, L_bind, hp2, Option.bind_some, precB, L_ite, L_const]
  cases h1 : pairsB n none es with
  | false => simp
  | true =>
    by_cases h2 : (es.length : Int) ≤ 28
    · have h0 := good_l0 n (by omega) (closR n es) n 0 (by omega)
      rw [Int.natCast_zero] at h0
      rw [decide_eq_true h2]
      simp only [Bool.and_self, if_true, l4Table_L n (by omega) es hl (pairsB_in n es none h1), Option.bind_some, h0, Bool.true_and]
    · rw [decide_eq_false h2]
      simp
theorem precB_iff {n : Nat} {es : List S47} (h : precB n es = true) : es.length ≤ 28 ∧ (∀ e ∈ es, PairIn n e) ∧ ∀ j, j < n → closR n es j j = false := by
  simp only [precB, Bool.and_eq_true, decide_eq_true_eq] at h
  exact ⟨by omega, pairsB_in n es none h.2.1, fun j hj => (irrF_iff _ n 0).1 h.2.2 j (by omega) (by omega)⟩
def blM (m : Nat) : List Nat := (List.range 8).filter (fun j => m.testBit j)
theorem bl_blM (m : Nat) : bl m = (blM m).map (fun j : Nat => (j : Int)) := by
  unfold bl blN blM
  rw [List.range_eq_range']
set_option maxRecDepth 100000 in
theorem subs_eq : ∀ left : Fin 256, ((List.range' 1 left.val).filter (fun s => Nat.beq (s &&& left.val) s)).map blM = (List.range' 1 (2 ^ (blM left.val).length - 1)).map (fun c => (blM c).map (fun p => (blM left.val).getD p 0)) := by decide +kernel
/-- The subsets of a set, in the order of their numbers: as digits of a number, or picked by a shorter number's digits. -/
theorem subs_L (left : Nat) (h : left < 256) : ((List.range' 1 left).filter (fun s => Nat.beq (s &&& left) s)).map bl = (List.range' 1 (2 ^ (bl left).length - 1)).map (fun c => (bl c).map (fun p => (bl left).getD p.toNat 0)) := by
  have e := congrArg (List.map (List.map fun j : Nat => (j : Int))) (subs_eq ⟨left, h⟩)
  simp only [List.map_map] at e
  have e1 : (bl left).length = (blM left).length := by rw [bl_blM, List.length_map]
  rw [e1]
  refine Eq.trans ?_ (e.trans ?_)
  · exact List.map_congr_left fun s _ => bl_blM s
  · refine List.map_congr_left fun c _ => ?_
    show ((blM c).map fun p => (blM left).getD p 0).map (fun j : Nat => (j : Int)) = (bl c).map fun p => (bl left).getD p.toNat 0
    rw [bl_blM c, List.map_map, List.map_map]
    refine List.map_congr_left fun p _ => ?_
    show (((blM left).getD p 0 : Nat) : Int) = (bl left).getD (p : Int).toNat 0
    rw [bl_blM left, Int.toNat_natCast, List.getD_eq_getElem?_getD, List.getD_eq_getElem?_getD, List.getElem?_map]
    cases (blM left)[p]? <;> rfl
def ratF (l : List S44) : List Int → Int → Int → Int × Int
  | [], a, b => (a, b)
  | x :: r, a, b => ratF l r (wrap64 (a + (l.getD x.toNat z44).f1)) (wrap64 (b + (l.getD x.toNat z44).f0))
theorem ratioOf_l (l : List S44) (w : List Int) (hw : ∀ x ∈ w, 0 ≤ x ∧ x < (l.length : Int)) (hl : w.length ≤ 1000) : ∀ (r pre : List Int) (a b : Int), w = pre ++ r → L (fun q => impl_ratioOf.l0 q l w (w.length : Int) (pre.length : Int) a b) = some (ratF l r a b) ∧ L (fun q => spec_l4Sums.l0 q l w (pre.length : Int) a b) = some (ratF l r a b)
  | [], pre, a, b, e => by
    rw [List.append_nil] at e
    have c : ¬ ((pre.length : Int) < (w.length : Int)) := by rw [e]; omega
    refine ⟨?_, ?_⟩
    · rw [L_shift]
      simp only [impl_ratioOf.l0, if_neg c, L_const, ratF]
    · rw [L_shift]
      simp only [spec_l4Sums.l0, if_neg c, L_const, ratF]
  | x :: r, pre, a, b, e => by
    have hl2 : w.length = pre.length + (r.length + 1) := by rw [e]; simp
    have ew : wrap64 ((pre.length : Int) + 1) = ((pre ++ [x]).length : Int) := wrap_mid pre x (by omega)
    have er : rd w (pre.length : Int) = x := by rw [e]; exact rd_mid pre x r
    have hx := hw x (by rw [e]; simp)
    have c : (pre.length : Int) < (w.length : Int) := by omega
    have ej : rd_T44 l x = l.getD x.toNat z44 := rfl
    have ih := ratioOf_l l w hw hl r (pre ++ [x]) (wrap64 (a + (l.getD x.toNat z44).f1)) (wrap64 (b + (l.getD x.toNat z44).f0)) (by rw [e]; simp)
    refine ⟨?_, ?_⟩
    · rw [L_shift]
      simp only [impl_ratioOf.l0, if_pos c, le_nat, if_true, er, if_pos hx.1, if_pos hx.2, ew, ej, ratF]
      exact ih.1
    · rw [L_shift]
      simp only [spec_l4Sums.l0, if_pos c, le_nat, if_true, er, if_pos hx.1, if_pos hx.2, ew, ej, ratF]
      exact ih.2
theorem ratioOf_L (l : List S44) (w : List Int) (hw : ∀ x ∈ w, 0 ≤ x ∧ x < (l.length : Int)) (hl : w.length ≤ 1000) : L (fun q => impl_ratioOf.f q l w) = some (ratF l w 0 0) ∧ L (fun q => spec_l4Sums.f q l w) = some (ratF l w 0 0) := ratioOf_l l w hw hl w [] 0 0 rfl
def initB (R : Nat → Nat → Bool) (left cand : List Int) : Bool := cand.all fun x => left.all fun y => !(R y.toNat x.toNat) || decide (y ∈ cand)
theorem init_s1 (n : Nat) (hn : n ≤ 8) (R : Nat → Nat → Bool) (left cand : List Int) (hl : left.length ≤ 8) (hc : cand.length ≤ 8) (hL : ∀ x ∈ left, 0 ≤ x ∧ x < (n : Int)) (hC : ∀ x ∈ cand, 0 ≤ x ∧ x < (n : Int)) (x : Int) (pc rc : List Int) (ec : cand = pc ++ x :: rc) : ∀ (r pre : List Int), left = pre ++ r → L (fun q => spec_l4Initial.l1 q (tabN n R) left cand (pc.length : Int) (pre.length : Int)) = if (r.all fun y => !(R y.toNat x.toNat) || decide (y ∈ cand)) = true then L (fun q => spec_l4Initial.l0 q (tabN n R) left cand ((pc ++ [x]).length : Int)) else some false
  | [], pre, e => by
    rw [List.append_nil] at e
    have hcl : cand.length = pc.length + (rc.length + 1) := by rw [ec]; simp
    have ew : wrap64 ((pc.length : Int) + 1) = ((pc ++ [x]).length : Int) := wrap_mid pc x (by omega)
    rw [L_shift]
    simp only [spec_l4Initial.l1, if_neg (show ¬ ((pre.length : Int) < (left.length : Int)) by rw [e]; omega), ew, List.all_nil, if_true]
  | y :: r, pre, e => by
    have hcl : cand.length = pc.length + (rc.length + 1) := by rw [ec]; simp
    have hll : left.length = pre.length + (r.length + 1) := by rw [e]; simp
    have ew : wrap64 ((pre.length : Int) + 1) = ((pre ++ [y]).length : Int) := wrap_mid pre y (by omega)
    have er : rd left (pre.length : Int) = y := by rw [e]; exact rd_mid pre y r
    have ex : rd cand (pc.length : Int) = x := by rw [ec]; exact rd_mid pc x rc
    have hy := hL y (by rw [e]; simp)
    have hx := hC x (by rw [ec]; simp)
    have c1 : (pre.length : Int) < (left.length : Int) := by omega
    have c2 : (pc.length : Int) < (cand.length : Int) := by omega
    have ih := init_s1 n hn R left cand hl hc hL hC x pc rc ec r (pre ++ [y]) (by rw [e]; simp)
    have eT : rd_L5 (tabN n R) y = (List.range n).map (R y.toNat) := by
      have := tabN_row n R y.toNat (by omega)
      rwa [Int.toNat_of_nonneg hy.1] at this
    have eR : rdOf false ((List.range n).map (R y.toNat)) x = R y.toNat x.toNat := by
      have := row_get n (R y.toNat) x.toNat (by omega)
      rwa [Int.toNat_of_nonneg hx.1] at this
    rw [List.all_cons, L_shift]
    simp only [spec_l4Initial.l1, if_pos c1, le_nat, if_true, er, if_pos hy.1, tabN_length, if_pos hy.2, if_pos c2, ex, if_pos hx.1, eT, rangeRow_len, if_pos hx.2, eR, ew, L_ite, L_bind, l1Has_L cand y (by omega), Option.bind_some, L_const, ih]
    by_cases hR : R y.toNat x.toNat = true
    · rw [if_pos hR, hR, Bool.not_true, Bool.false_or]
      by_cases hm : y ∈ cand
      · rw [decide_eq_true hm, if_pos rfl, Bool.true_and]
      · rw [decide_eq_false hm, if_neg (by decide), Bool.false_and, if_neg (by decide)]
    · rw [if_neg hR, Bool.eq_false_iff.2 hR, Bool.not_false, Bool.true_or, Bool.true_and]
theorem init_s0 (n : Nat) (hn : n ≤ 8) (R : Nat → Nat → Bool) (left cand : List Int) (hl : left.length ≤ 8) (hc : cand.length ≤ 8) (hL : ∀ x ∈ left, 0 ≤ x ∧ x < (n : Int)) (hC : ∀ x ∈ cand, 0 ≤ x ∧ x < (n : Int)) : ∀ (r pre : List Int), cand = pre ++ r → L (fun q => spec_l4Initial.l0 q (tabN n R) left cand (pre.length : Int)) = some (r.all fun x => left.all fun y => !(R y.toNat x.toNat) || decide (y ∈ cand))
  | [], pre, e => by
    rw [List.append_nil] at e
    rw [L_shift]
    simp only [spec_l4Initial.l0, if_neg (show ¬ ((pre.length : Int) < (cand.length : Int)) by rw [e]; omega), L_const, List.all_nil]
  | x :: r, pre, e => by
    have hcl : cand.length = pre.length + (r.length + 1) := by rw [e]; simp
    have h1 := init_s1 n hn R left cand hl hc hL hC x pre r e left [] rfl
    rw [List.length_nil, Int.natCast_zero] at h1
    have ih := init_s0 n hn R left cand hl hc hL hC r (pre ++ [x]) (by rw [e]; simp)
    rw [L_shift]
    simp only [spec_l4Initial.l0, if_pos (show (pre.length : Int) < (cand.length : Int) by omega), h1, ih, List.all_cons]
    cases (left.all fun y => !(R y.toNat x.toNat) || decide (y ∈ cand)) <;> simp
theorem l4Initial_L (n : Nat) (hn : n ≤ 8) (R : Nat → Nat → Bool) (left cand : List Int) (hl : left.length ≤ 8) (hc : cand.length ≤ 8) (hL : ∀ x ∈ left, 0 ≤ x ∧ x < (n : Int)) (hC : ∀ x ∈ cand, 0 ≤ x ∧ x < (n : Int)) : L (fun q => spec_l4Initial.f q (tabN n R) left cand) = some (initB R left cand) := init_s0 n hn R left cand hl hc hL hC cand [] rfl
def inF (R : Nat → Nat → Bool) (set left j : Nat) : Nat → Nat → Bool
  | 0, _ => true
  | d + 1, i => (!(set.testBit j && (left.testBit i && R i j)) || set.testBit i) && inF R set left j d (i + 1)
theorem inF_iff (R : Nat → Nat → Bool) (set left j : Nat) : ∀ d k, inF R set left j d k = true ↔ ∀ i, k ≤ i → i < k + d → set.testBit j = true → left.testBit i = true → R i j = true → set.testBit i = true
  | 0, k => ⟨fun _ i h1 h2 => absurd h1 (by omega), fun _ => rfl⟩
  | d + 1, k => by
    rw [inF, Bool.and_eq_true, inF_iff R set left j d (k + 1)]
    constructor
    · rintro ⟨h1, h2⟩ i hi1 hi2 a b c
      by_cases e : i = k
      · subst e
        rw [a, b, c] at h1
        simpa using h1
      · exact h2 i (by omega) (by omega) a b c
    · intro h
      refine ⟨?_, fun i h1 h2 => h i (by omega) (by omega)⟩
      cases a : set.testBit j with
      | false => rfl
      | true =>
        cases b : left.testBit k with
        | false => rfl
        | true =>
          cases c : R k j with
          | false => rfl
          | true => rw [h k (by omega) (by omega) a b c]; rfl
theorem bit01 : ∀ m : Fin 256, ∀ i : Fin 9, (Go.bits .and .i64 (shr .i64 (m.val : Int) (i.val : Int)) 1 = 0 ↔ ¬ Go.bits .and .i64 (shr .i64 (m.val : Int) (i.val : Int)) 1 = 1) := by decide +kernel
theorem init_i1 (n : Nat) (hn : n ≤ 8) (R : Nat → Nat → Bool) (set left : Nat) (hs : set < 256) (hl : left < 256) (j : Nat) (hj : j < n) : ∀ (d i : Nat), i + d = n → L (fun q => impl_isInitial.l1 q (tabN n R) (set : Int) (left : Int) (j : Int) (n : Int) (j : Int) (n : Int) (i : Int)) = if inF R set left j d i = true then L (fun q => impl_isInitial.l0 q (tabN n R) (set : Int) (left : Int) (n : Int) ((j + 1 : Nat) : Int)) else some false
  | 0, i, e => by
    rw [L_shift]
    simp only [impl_isInitial.l1, if_neg (show ¬ ((i : Int) < (n : Int)) by omega), nw1 (show n ≤ 1000 by omega) j hj, inF, if_true]
  | d + 1, i, e => by
    have hi : i < n := by omega
    have ih := init_i1 n hn R set left hs hl j hj d (i + 1) (by omega)
    have b1 := (shrBits ⟨set, hs⟩ ⟨j, by omega⟩).2
    have b2 := (shrBits ⟨left, hl⟩ ⟨i, by omega⟩).2
    have b3 := (shrBits ⟨set, hs⟩ ⟨i, by omega⟩).2
    have b4 : Go.bits .and .i64 (shr .i64 (set : Int) (i : Int)) 1 = 0 ↔ ¬ set.testBit i = true := by
      rw [← (shrBits ⟨set, hs⟩ ⟨i, by omega⟩).2]
      exact bit01 ⟨set, hs⟩ ⟨i, by omega⟩
    simp only at b1 b2 b3
    have c1 : (i : Int) < (n : Int) := by omega
    have c2 : (j : Int) < (n : Int) := by omega
    rw [inF, L_shift]
    simp only [impl_isInitial.l1, if_pos c1, le_nat, if_true, b1, b2, b4, tabN_length, tabN_row n R i hi, rangeRow_len, if_pos c2, row_get n _ j hj, nw1 (show n ≤ 1000 by omega) i hi, L_ite, L_const, ih]
    by_cases s1 : set.testBit j = true
    · rw [if_pos s1, s1]
      by_cases s2 : left.testBit i = true
      · rw [if_pos s2, s2]
        by_cases s3 : R i j = true
        · rw [if_pos s3, s3]
          by_cases s4 : set.testBit i = true
          · rw [if_neg (fun h => h s4), s4, Bool.or_true, Bool.true_and]
          · rw [if_pos s4, Bool.eq_false_iff.2 s4, if_neg (by simp)]
        · rw [if_neg s3, Bool.eq_false_iff.2 s3, Bool.and_false, Bool.and_false, Bool.not_false, Bool.true_or, Bool.true_and]
      · rw [if_neg s2, Bool.eq_false_iff.2 s2, Bool.false_and, Bool.and_false, Bool.not_false, Bool.true_or, Bool.true_and]
    · rw [if_neg s1, Bool.eq_false_iff.2 s1, Bool.false_and, Bool.not_false, Bool.true_or, Bool.true_and]
theorem init_i0 (n : Nat) (hn : n ≤ 8) (R : Nat → Nat → Bool) (set left : Nat) (hs : set < 256) (hl : left < 256) : ∀ (d j : Nat), j + d = n → ∃ b : Bool, L (fun q => impl_isInitial.l0 q (tabN n R) (set : Int) (left : Int) (n : Int) (j : Int)) = some b ∧ (b = true ↔ ∀ a, j ≤ a → a < n → inF R set left a n 0 = true)
  | 0, j, e => by
    refine ⟨true, ?_, ⟨fun _ a h1 h2 => absurd h1 (by omega), fun _ => rfl⟩⟩
    rw [L_shift]
    simp only [impl_isInitial.l0, if_neg (show ¬ ((j : Int) < (n : Int)) by omega), L_const]
  | d + 1, j, e => by
    have h1 := init_i1 n hn R set left hs hl j (by omega) n 0 (by omega)
    rw [Int.natCast_zero] at h1
    obtain ⟨b, hb, hbi⟩ := init_i0 n hn R set left hs hl d (j + 1) (by omega)
    cases hin : inF R set left j n 0 with
    | false =>
      refine ⟨false, ?_, ⟨fun h => (by cases h), fun h => by rw [h j (Nat.le_refl _) (by omega)] at hin; cases hin⟩⟩
      rw [L_shift]
      simp only [impl_isInitial.l0, if_pos (show (j : Int) < (n : Int) by omega), tabN_length, h1, hin, Bool.false_eq_true, if_false]
    | true =>
      refine ⟨b, ?_, ⟨fun h a h2 h3 => ?_, fun h => hbi.2 fun a h2 h3 => h a (by omega) h3⟩⟩
      · rw [L_shift]
        simp only [impl_isInitial.l0, if_pos (show (j : Int) < (n : Int) by omega), tabN_length, h1, hin, if_true, hb]
      · by_cases ea : a = j
        · rw [ea]; exact hin
        · exact hbi.1 h a (by omega) h3
theorem isInitial_L (n : Nat) (hn : n ≤ 8) (R : Nat → Nat → Bool) (set left : Nat) (hs : set < 2 ^ n) (hl : left < 2 ^ n) (hs2 : set < 256) (hl2 : left < 256) : L (fun q => impl_isInitial.f q (tabN n R) (set : Int) (left : Int)) = some (initB R (bl left) (bl set)) := by
  obtain ⟨b, hb, hbi⟩ := init_i0 n hn R set left hs2 hl2 n 0 (by omega)
  rw [Int.natCast_zero] at hb
  have hin : ∀ (s i : Nat), s < 2 ^ n → s.testBit i = true → i < n := fun s i h1 h2 => by
    by_cases c : i < n
    · exact c
    · have := Nat.ge_two_pow_of_testBit h2
      have h3 : 2 ^ n ≤ 2 ^ i := Nat.pow_le_pow_right (by decide) (by omega)
      omega
  have e : b = initB R (bl left) (bl set) := by
    rw [Bool.eq_iff_iff, hbi]
    unfold initB
    rw [List.all_eq_true]
    constructor
    · intro h x hx
      rw [List.all_eq_true]
      intro y hy
      obtain ⟨x1, x2⟩ := mem_bl.1 hx
      obtain ⟨y1, y2⟩ := mem_bl.1 hy
      have h2 := (inF_iff R set left x.toNat n 0).1 (h x.toNat (by omega) (hin _ _ hs x2)) y.toNat (by omega) (by have := hin _ _ hl y2; omega) x2 y2
      cases hR : R y.toNat x.toNat with
      | false => rfl
      | true =>
        rw [Bool.not_true, Bool.false_or, decide_eq_true_eq]
        exact mem_bl.2 ⟨y1, h2 hR⟩
    · intro h a _ ha
      rw [inF_iff]
      intro i _ hi s1 s2 s3
      have h1 := h (a : Int) (mem_bl.2 ⟨by omega, by rw [Int.toNat_natCast]; exact s1⟩)
      rw [List.all_eq_true] at h1
      have h2 := h1 (i : Int) (mem_bl.2 ⟨by omega, by rw [Int.toNat_natCast]; exact s2⟩)
      rw [Int.toNat_natCast, Int.toNat_natCast, s3, Bool.not_true, Bool.false_or, decide_eq_true_eq] at h2
      have h3 := (mem_bl.1 h2).2
      rwa [Int.toNat_natCast] at h3
  rw [← e]
  simp only [impl_isInitial.f, tabN_length, hb]
def cmpF (a b : Int × Int) : Int := wrap64 (wrap64 (a.1 * b.2) - wrap64 (b.1 * a.2))
def stepS (l : List S44) (R : Nat → Nat → Bool) (left best cand : List Int) : List Int :=
  if initB R left cand = true then
    if (best.length : Int) = 0 then cand
    else if cmpF (ratF l cand 0 0) (ratF l best 0 0) > 0 then cand
    else if cmpF (ratF l cand 0 0) (ratF l best 0 0) = 0 then (if (cand.length : Int) > (best.length : Int) then cand else best) else best
  else best
theorem cmpI_e (a b : Int × Int) : impl_compareRatios.f a.1 a.2 b.1 b.2 = some (cmpF a b) := rfl
theorem cmpS_e (a b : Int × Int) : spec_l4Ratio.f a.1 a.2 b.1 b.2 = some (cmpF a b) := rfl
theorem stepS_or (l : List S44) (R : Nat → Nat → Bool) (left best cand : List Int) : stepS l R left best cand = best ∨ stepS l R left best cand = cand := by
  unfold stepS
  repeat' split
  all_goals first | exact .inl rfl | exact .inr rfl
theorem bl_pos : ∀ s : Fin 256, s.val ≠ 0 → 0 < (blM s.val).length := by decide +kernel
theorem blM_len : ∀ s : Fin 256, (blM s.val).length ≤ 8 := by decide +kernel
theorem bl_len (s : Nat) (h : s < 256) : (bl s).length ≤ 8 := by rw [bl_blM, List.length_map]; exact blM_len ⟨s, h⟩
theorem bl_in (n s : Nat) (h : s < 2 ^ n) : ∀ x ∈ bl s, 0 ≤ x ∧ x < (n : Int) := fun x hx => by
  obtain ⟨h1, h2⟩ := mem_bl.1 hx
  have h3 := Nat.ge_two_pow_of_testBit h2
  by_cases c : x.toNat < n
  · omega
  · have h4 : 2 ^ n ≤ 2 ^ x.toNat := Nat.pow_le_pow_right (by decide) (by omega)
    omega
structure OkL (n : Nat) (w : List Int) : Prop where
  len : w.length ≤ 8
  mem : ∀ x ∈ w, 0 ≤ x ∧ x < (n : Int)
theorem OkL.bl {n s : Nat} (h : s < 2 ^ n) (h2 : s < 256) : OkL n (bl s) := ⟨bl_len s h2, bl_in n s h⟩
def foldC (l : List S44) (R : Nat → Nat → Bool) (left : Nat) (best : List Int) (C : List (List Int)) : List Int := C.foldl (stepS l R (bl left)) best
theorem OkL.step {n : Nat} {l : List S44} {R : Nat → Nat → Bool} {left best cand : List Int} (h1 : OkL n best) (h2 : OkL n cand) : OkL n (stepS l R left best cand) := by
  rcases stepS_or l R left best cand with e | e
  · rw [e]; exact h1
  · rw [e]; exact h2
theorem sb_l1 (l : List S44) (h8 : l.length ≤ 8) (R : Nat → Nat → Bool) (out : List (List Int)) (left : Nat) (hl : left < 2 ^ l.length) (hl2 : left < 256) : ∀ (d s : Nat) (best : List Int), s + d = left + 1 → 1 ≤ s → OkL l.length best →
    L (fun q => impl_sidneyBlocks.l1 q l (tabN l.length R) out (left : Int) best (s : Int)) = L (fun q => impl_sidneyBlocks.l1 q l (tabN l.length R) out (left : Int) (foldC l R left best (((List.range' s d).filter (fun s => Nat.beq (s &&& left) s)).map bl)) ((left + 1 : Nat) : Int))
  | 0, s, best, e, h1, ho => by
    have e1 : s = left + 1 := by omega
    rw [e1]
    rfl
  | d + 1, s, best, e, h1, ho => by
    have hs2 : s < 256 := by omega
    have hsn : s < 2 ^ l.length := by omega
    have ew : wrap64 ((s : Int) + 1) = ((s + 1 : Nat) : Int) := by rw [wrap_id (by omega) (by omega)]; omega
    have hi := isInitial_L l.length h8 R s left hsn hl hs2 hl2
    have hlist := listOf_L s hs2
    have hoc : OkL l.length (bl s) := OkL.bl hsn hs2
    have hr1 := (ratioOf_L l (bl s) hoc.mem (by have := hoc.len; omega)).1
    have hr2 := (ratioOf_L l best ho.mem (by have := ho.len; omega)).1
    have hpos : 0 < (bl s).length := by rw [bl_blM, List.length_map]; exact bl_pos ⟨s, hs2⟩ (by show s ≠ 0; omega)
    have ih := fun b hb => sb_l1 l h8 R out left hl hl2 d (s + 1) b (by omega) (by omega) hb
    have hjt : L (fun q => impl_sidneyBlocks.j2 q l (tabN l.length R) out (left : Int) best (s : Int) true) = L (fun q => impl_sidneyBlocks.l1 q l (tabN l.length R) out (left : Int) best ((s + 1 : Nat) : Int)) := by
      rw [L_shift]
      simp only [impl_sidneyBlocks.j2, if_true, ew]
    have hjf : L (fun q => impl_sidneyBlocks.j2 q l (tabN l.length R) out (left : Int) best (s : Int) (!initB R (bl left) (bl s))) = L (fun q => impl_sidneyBlocks.l1 q l (tabN l.length R) out (left : Int) (stepS l R (bl left) best (bl s)) ((s + 1 : Nat) : Int)) := by
      cases hin : initB R (bl left) (bl s) with
      | false =>
        rw [Bool.not_false, hjt]
        unfold stepS
        rw [hin, if_neg (by decide)]
      | true =>
        rw [L_shift]
        unfold stepS
        rw [hin, if_pos rfl]
        simp only [impl_sidneyBlocks.j2, Bool.not_true, Bool.false_eq_true, if_false, L_bind, hlist, Option.bind_some, if_pos hpos, L_ite, hr1, hr2, cmpI_e, ew]
        by_cases c0 : (best.length : Int) = 0
        · rw [if_pos c0, if_pos c0]
        · rw [if_neg c0, if_neg c0]
          by_cases c1 : cmpF (ratF l (bl s) 0 0) (ratF l best 0 0) > 0
          · rw [if_pos c1, if_pos c1]
          · rw [if_neg c1, if_neg c1]
            by_cases c2 : cmpF (ratF l (bl s) 0 0) (ratF l best 0 0) = 0
            · rw [if_pos c2, if_pos c2]
              by_cases c3 : ((bl s).length : Int) > (best.length : Int)
              · rw [if_pos c3, if_pos c3]
              · rw [if_neg c3, if_neg c3]
            · rw [if_neg c2, if_neg c2]
    have ha := andBits ⟨s, hs2⟩ ⟨left, hl2⟩
    simp only at ha
    rw [L_shift, List.range'_succ]
    simp only [impl_sidneyBlocks.l1, if_pos (show (s : Int) ≤ (left : Int) by omega), L_ite, L_bind, hi, Option.bind_some, hjt, hjf, ha]
    by_cases hsub : s &&& left = s
    · rw [if_pos hsub, List.filter_cons_of_pos (by show Nat.beq (s &&& left) s = true; rw [Nat.beq_eq]; exact hsub), List.map_cons, ih _ (ho.step hoc)]
      rfl
    · rw [if_neg hsub, List.filter_cons_of_neg (by show ¬ Nat.beq (s &&& left) s = true; rw [Nat.beq_eq]; exact hsub), ih _ ho]
theorem shlP : ∀ k : Fin 9, shl .i64 1 (k.val : Int) = ((2 ^ k.val : Nat) : Int) := by decide +kernel
theorem l4Set_l (m : Nat) (hm : m < 256) (n : Nat) (hn : n ≤ 8) : ∀ (d i : Nat) (out : List Int), i + d = n → out.length ≤ i → L (fun q => spec_l4Set.l0 q (n : Int) (m : Int) out (i : Int)) = some (out ++ blN m i d)
  | 0, i, out, e, ho => by
    rw [L_shift]
    simp only [spec_l4Set.l0, if_neg (show ¬ ((i : Int) < (n : Int)) by omega), L_const]
    simp [blN]
  | d + 1, i, out, e, ho => by
    have hb := (shrBits ⟨m, hm⟩ ⟨i, by omega⟩).2
    simp only at hb
    have i1 := l4Set_l m hm n hn d (i + 1) (out ++ [(i : Int)]) (by omega) (by simp; omega)
    have i2 := l4Set_l m hm n hn d (i + 1) out (by omega) (by omega)
    rw [L_shift]
    simp only [spec_l4Set.l0, if_pos (show (i : Int) < (n : Int) by omega), le_nat, if_true, hb, if_pos (show out.length < 17592186044416 by omega), nw1 (show n ≤ 1000 by omega) i (by omega), L_ite, i1, i2]
    unfold blN
    rw [List.range'_succ]
    by_cases c : m.testBit i = true
    · rw [if_pos c, List.filter_cons_of_pos c, List.map_cons, List.append_assoc]
      rfl
    · rw [if_neg c, List.filter_cons_of_neg c]
theorem blN_short (m n : Nat) (hn : n ≤ 8) (h : m < 2 ^ n) : blN m 0 n = bl m := by
  unfold bl blN
  rw [show (8 : Nat) = n + (8 - n) by omega, ← List.range'_append_1, List.filter_append]
  have e : (List.range' (0 + n) (8 - n)).filter (fun j => m.testBit j) = [] := by
    rw [List.filter_eq_nil_iff]
    intro j hj hb
    rw [List.mem_range'_1] at hj
    have h1 := Nat.ge_two_pow_of_testBit hb
    have h2 : 2 ^ n ≤ 2 ^ j := Nat.pow_le_pow_right (by decide) (by omega)
    omega
  rw [e, List.append_nil]
theorem l4Set_L (m n : Nat) (hm : m < 256) (hn : n ≤ 8) (h : m < 2 ^ n) : L (fun q => spec_l4Set.f q (n : Int) (m : Int)) = some (bl m) := by
  have h1 := l4Set_l m hm n hn n 0 [] (by omega) (by simp)
  rw [blN_short m n hn h, List.nil_append, Int.natCast_zero] at h1
  exact h1
theorem pick_l1 (l : List S44) (T : List (List Bool)) (left best : List Int) (code : Int) (hl : left.length ≤ 8) (P : List Int) (hP : ∀ x ∈ P, 0 ≤ x ∧ x < (left.length : Int)) (hPl : P.length ≤ 8) : ∀ (r pre : List Int), P = pre ++ r → L (fun q => spec_l4Block.l1 q l T left best code P (pre.map (fun p => left.getD p.toNat 0)) (pre.length : Int)) = L (fun q => spec_l4Block.l1 q l T left best code P (P.map (fun p => left.getD p.toNat 0)) (P.length : Int))
  | [], pre, e => by
    rw [List.append_nil] at e
    rw [e]
  | x :: r, pre, e => by
    have hpl : P.length = pre.length + (r.length + 1) := by rw [e]; simp
    have ew : wrap64 ((pre.length : Int) + 1) = ((pre ++ [x]).length : Int) := wrap_mid pre x (by omega)
    have er : rd P (pre.length : Int) = x := by rw [e]; exact rd_mid pre x r
    have hx := hP x (by rw [e]; simp)
    have ih := pick_l1 l T left best code hl P hP hPl r (pre ++ [x]) (by rw [e]; simp)
    rw [← ih, L_shift]
    have ex : rd left x = left.getD x.toNat 0 := rfl
    simp only [spec_l4Block.l1, if_pos (show (pre.length : Int) < (P.length : Int) by omega), le_nat, if_true, er, if_pos hx.1, if_pos hx.2, List.length_map, if_pos (show pre.length < 17592186044416 by omega), ew, ex, List.map_append, List.map_cons, List.map_nil]
theorem dep_ok {n : Nat} {left : List Int} (h : OkL n left) (c : Nat) (hc : c < 2 ^ left.length) : OkL n ((bl c).map fun p => left.getD p.toNat 0) := by
  have hl := h.len
  have h256 : c < 256 := Nat.lt_of_lt_of_le hc (Nat.le_trans (Nat.pow_le_pow_right (by decide) hl) (by decide))
  refine ⟨by rw [List.length_map]; exact bl_len c h256, fun x hx => ?_⟩
  obtain ⟨p, hp, rfl⟩ := List.mem_map.1 hx
  have h1 := bl_in left.length c hc p hp
  refine h.mem _ ?_
  rw [List.getD_eq_getElem?_getD, List.getElem?_eq_getElem (by omega)]
  exact List.getElem_mem _
theorem spb_l0 (l : List S44) (h8 : l.length ≤ 8) (R : Nat → Nat → Bool) (left : List Int) (hL : OkL l.length left) : ∀ (d c : Nat) (best : List Int), c + d = 2 ^ left.length → 1 ≤ c → OkL l.length best →
    L (fun q => spec_l4Block.l0 q l (tabN l.length R) left best (c : Int)) = some (((List.range' c d).map (fun c => (bl c).map fun p => left.getD p.toNat 0)).foldl (stepS l R left) best)
  | 0, c, best, e, h1, ho => by
    have hsh := shlP ⟨left.length, by have := hL.len; omega⟩
    simp only at hsh
    rw [L_shift]
    simp only [spec_l4Block.l0, hsh, if_neg (show ¬ ((c : Int) < ((2 ^ left.length : Nat) : Int)) by omega), L_const]
    rfl
  | d + 1, c, best, e, h1, ho => by
    have hl := hL.len
    have hsh := shlP ⟨left.length, by omega⟩
    simp only at hsh
    have hpw : 2 ^ left.length ≤ 256 := Nat.le_trans (Nat.pow_le_pow_right (by decide) hl) (by decide)
    have hc : c < 2 ^ left.length := by omega
    have hset := l4Set_L c left.length (by omega) hl hc
    have hok := dep_ok hL c hc
    have hp := pick_l1 l (tabN l.length R) left best (c : Int) hl (bl c) (bl_in left.length c hc) (bl_len c (by omega)) (bl c) [] rfl
    rw [List.map_nil, List.length_nil, Int.natCast_zero] at hp
    have ew : wrap64 ((c : Int) + 1) = ((c + 1 : Nat) : Int) := by rw [wrap_id (by omega) (by omega)]; omega
    have ih := fun b hb => spb_l0 l h8 R left hL d (c + 1) b (by omega) (by omega) hb
    have hin := l4Initial_L l.length h8 R left _ hl hok.len hL.mem hok.mem
    have hr1 := (ratioOf_L l _ hok.mem (by have := hok.len; omega)).2
    have hr2 := (ratioOf_L l best ho.mem (by have := ho.len; omega)).2
    have hst := ho.step (l := l) (R := R) (left := left) hok
    rw [List.range'_succ, List.map_cons, List.foldl_cons]
    generalize ((bl c).map fun p => left.getD p.toNat 0) = cand at hp hin hr1 hst hok
    rw [← ih _ hst]
    have hend : L (fun q => spec_l4Block.l1 q l (tabN l.length R) left best (c : Int) (bl c) cand ((bl c).length : Int)) = L (fun q => spec_l4Block.l0 q l (tabN l.length R) left (stepS l R left best cand) ((c + 1 : Nat) : Int)) := by
      rw [L_shift]
      simp only [spec_l4Block.l1, Int.lt_irrefl, if_false, L_bind, hin, Option.bind_some, L_ite, hr1, hr2, cmpS_e, ew]
      unfold stepS
      by_cases ci : initB R left cand = true
      · rw [if_pos ci, if_pos ci]
        by_cases c0 : (best.length : Int) = 0
        · rw [if_pos c0, if_pos c0]
        · rw [if_neg c0, if_neg c0]
          by_cases c1 : cmpF (ratF l cand 0 0) (ratF l best 0 0) > 0
          · rw [if_pos c1, if_pos c1]
          · rw [if_neg c1, if_neg c1]
            by_cases c2 : cmpF (ratF l cand 0 0) (ratF l best 0 0) = 0
            · rw [if_pos c2, if_pos c2]
              by_cases c3 : (cand.length : Int) > (best.length : Int)
              · rw [if_pos c3, if_pos c3]
              · rw [if_neg c3, if_neg c3]
            · rw [if_neg c2, if_neg c2]
      · rw [if_neg ci, if_neg ci]
    rw [L_shift]
    simp only [spec_l4Block.l0, hsh, if_pos (show (c : Int) < ((2 ^ left.length : Nat) : Int) by omega), L_bind, hset, Option.bind_some, hp, hend]
/-- The block that both sides choose of what is left. -/
def blockF (l : List S44) (R : Nat → Nat → Bool) (left : Nat) : List Int := foldC l R left [] (((List.range' 1 left).filter (fun s => Nat.beq (s &&& left) s)).map bl)
theorem l4Block_L (l : List S44) (h8 : l.length ≤ 8) (R : Nat → Nat → Bool) (left : Nat) (hl : left < 2 ^ l.length) (hl2 : left < 256) : L (fun q => spec_l4Block.f q l (tabN l.length R) (bl left)) = some (blockF l R left) := by
  have hok : OkL l.length (bl left) := OkL.bl hl hl2
  have hp : 1 ≤ 2 ^ (bl left).length := Nat.one_le_two_pow
  have h := spb_l0 l h8 R (bl left) hok (2 ^ (bl left).length - 1) 1 [] (by omega) (Nat.le_refl _) ⟨by simp, fun x hx => nomatch hx⟩
  rw [← subs_L left hl2] at h
  exact h
set_option maxRecDepth 100000 in
theorem andNotB : ∀ a : Fin 256, ∀ b : Fin 256, Go.bits .andNot .i64 (a.val : Int) (b.val : Int) = ((a.val &&& (255 ^^^ b.val) : Nat) : Int) := by decide +kernel
theorem bit255 : ∀ j : Fin 8, (255 : Nat).testBit j.val = true := by decide
/-- What is left without some jobs. -/
def restN (left : Nat) (b : List Int) : Nat := left &&& (255 ^^^ mkS b)
theorem bl_rest (left : Nat) (b : List Int) (hb : ∀ x ∈ b, 0 ≤ x ∧ x < 8) : bl (restN left b) = (bl left).filter fun x => !decide (x ∈ b) := by
  unfold bl blN
  rw [List.filter_map, List.filter_filter]
  congr 1
  refine List.filter_congr fun j hj => ?_
  rw [List.mem_range'_1] at hj
  have h255 := bit255 ⟨j, by omega⟩
  simp only at h255
  unfold restN mkS
  rw [Nat.testBit_and, Nat.testBit_xor, h255, mkS_bit, Nat.zero_testBit, Bool.false_or, Bool.and_comm]
  congr 1
  show (true ^^ b.any fun x => decide (x.toNat = j)) = !decide ((j : Int) ∈ b)
  have e : (b.any fun x => decide (x.toNat = j)) = decide ((j : Int) ∈ b) := by
    rw [Bool.eq_iff_iff, List.any_eq_true, decide_eq_true_eq]
    constructor
    · rintro ⟨x, hx, h⟩
      have h1 : x.toNat = j := of_decide_eq_true h
      have h2 := hb x hx
      have h3 : (j : Int) = x := by omega
      rw [h3]; exact hx
    · intro h
      exact ⟨(j : Int), h, decide_eq_true (Int.toNat_natCast j)⟩
  rw [e]
  cases decide ((j : Int) ∈ b) <;> rfl
theorem init_self (R : Nat → Nat → Bool) (w : List Int) : initB R w w = true := by
  unfold initB
  rw [List.all_eq_true]
  intro x hx
  rw [List.all_eq_true]
  intro y hy
  rw [decide_eq_true hy, Bool.or_true]
theorem fold_ne (l : List S44) (R : Nat → Nat → Bool) (left : List Int) : ∀ (C : List (List Int)) (best : List Int), (∀ c ∈ C, c ≠ []) → (best ≠ [] ∨ ∃ c ∈ C, initB R left c = true) → C.foldl (stepS l R left) best ≠ []
  | [], best, h, hx => hx.elim id (fun ⟨c, hc, _⟩ => nomatch hc)
  | c :: C, best, h, hx => by
    rw [List.foldl_cons]
    refine fold_ne l R left C _ (fun c hc => h c (List.mem_cons_of_mem _ hc)) ?_
    have hcn := h c List.mem_cons_self
    by_cases hb : best = []
    · rcases hx with hx | ⟨x, hx1, hx2⟩
      · exact absurd hb hx
      · rcases List.mem_cons.1 hx1 with e | hx1
        · left
          subst e
          unfold stepS
          rw [if_pos hx2, hb, if_pos (by rfl)]
          exact hcn
        · exact .inr ⟨x, hx1, hx2⟩
    · left
      rcases stepS_or l R left best c with e | e
      · rw [e]; exact hb
      · rw [e]; exact hcn
theorem fold_mem (l : List S44) (R : Nat → Nat → Bool) (left : List Int) (Q : Int → Prop) : ∀ (C : List (List Int)) (best : List Int), (∀ x ∈ best, Q x) → (∀ c ∈ C, ∀ x ∈ c, Q x) → ∀ x ∈ C.foldl (stepS l R left) best, Q x
  | [], best, h, _ => h
  | c :: C, best, h, hc => by
    rw [List.foldl_cons]
    refine fold_mem l R left Q C _ ?_ (fun d hd => hc d (List.mem_cons_of_mem _ hd))
    rcases stepS_or l R left best c with e | e
    · rw [e]; exact h
    · rw [e]; exact hc c List.mem_cons_self
theorem fold_asc (l : List S44) (R : Nat → Nat → Bool) (left : List Int) : ∀ (C : List (List Int)) (best : List Int), C.foldl (stepS l R left) best = best ∨ C.foldl (stepS l R left) best ∈ C
  | [], best => .inl rfl
  | c :: C, best => by
    rw [List.foldl_cons]
    rcases fold_asc l R left C (stepS l R left best c) with h | h
    · rw [h]
      rcases stepS_or l R left best c with e | e
      · exact .inl e
      · rw [e]; exact .inr List.mem_cons_self
    · exact .inr (List.mem_cons_of_mem _ h)
theorem blockF_facts (l : List S44) (R : Nat → Nat → Bool) (left : Nat) (h : left < 256) (h0 : left ≠ 0) : blockF l R left ≠ [] ∧ (∀ x ∈ blockF l R left, x ∈ bl left) ∧ (blockF l R left).Pairwise (· < ·) ∧ (blockF l R left).length ≤ 8 := by
  have hC : ∀ c ∈ ((List.range' 1 left).filter (fun s => Nat.beq (s &&& left) s)).map bl, ∃ s, c = bl s ∧ 1 ≤ s ∧ s ≤ left ∧ s &&& left = s := fun c hc => by
    obtain ⟨s, hs, rfl⟩ := List.mem_map.1 hc
    rw [List.mem_filter, List.mem_range'_1] at hs
    exact ⟨s, rfl, by omega, by omega, Nat.beq_eq.mp hs.2⟩
  have hne : ∀ c ∈ ((List.range' 1 left).filter (fun s => Nat.beq (s &&& left) s)).map bl, c ≠ [] := fun c hc => by
    obtain ⟨s, rfl, h1, h2, _⟩ := hC c hc
    have hp := bl_pos ⟨s, by omega⟩ (by show s ≠ 0; omega)
    intro e
    rw [bl_blM] at e
    have := congrArg List.length e
    rw [List.length_map] at this
    simp only [List.length_nil] at this
    simp only at hp
    omega
  have hself : bl left ∈ ((List.range' 1 left).filter (fun s => Nat.beq (s &&& left) s)).map bl := by
    refine List.mem_map.2 ⟨left, ?_, rfl⟩
    rw [List.mem_filter, List.mem_range'_1]
    exact ⟨by omega, Nat.beq_eq.mpr (Nat.and_self left)⟩
  have h1 := fold_ne l R (bl left) _ [] hne (.inr ⟨bl left, hself, init_self R (bl left)⟩)
  refine ⟨h1, ?_, ?_⟩
  · refine fold_mem l R (bl left) (fun x => x ∈ bl left) _ [] (fun x hx => nomatch hx) fun c hc x hx => ?_
    obtain ⟨s, rfl, _, _, h3⟩ := hC c hc
    obtain ⟨x1, x2⟩ := mem_bl.1 hx
    refine mem_bl.2 ⟨x1, ?_⟩
    rw [← h3, Nat.testBit_and, Bool.and_eq_true] at x2
    exact x2.2
  · rcases fold_asc l R (bl left) (((List.range' 1 left).filter (fun s => Nat.beq (s &&& left) s)).map bl) [] with e | e
    · exact absurd e h1
    · obtain ⟨s, es, _, h2, _⟩ := hC _ e
      have e2 : blockF l R left = bl s := es
      rw [e2]
      exact ⟨bl_asc s, bl_len s (by omega)⟩
theorem restN_lt {l : List S44} {R : Nat → Nat → Bool} {left : Nat} (h : left < 256) (h0 : left ≠ 0) : restN left (blockF l R left) < left := by
  obtain ⟨b1, b2, _, _⟩ := blockF_facts l R left h h0
  obtain ⟨x, hx⟩ := List.exists_mem_of_ne_nil _ b1
  obtain ⟨x1, x2⟩ := mem_bl.1 (b2 x hx)
  have hle : restN left (blockF l R left) ≤ left := Nat.and_le_left
  have hne : restN left (blockF l R left) ≠ left := fun e => by
    have h1 : x ∈ bl (restN left (blockF l R left)) := by rw [e]; exact b2 x hx
    rw [bl_rest left _ (fun y hy => (mem_bl.1 (b2 y hy)).1), List.mem_filter, Bool.not_eq_true'] at h1
    exact absurd hx (of_decide_eq_false h1.2)
  omega
/-- The Sidney blocks. -/
def sidL (l : List S44) (R : Nat → Nat → Bool) : Nat → Nat → List (List Int)
  | 0, _ => []
  | f + 1, left => if left = 0 then [] else blockF l R left :: sidL l R f (restN left (blockF l R left))
theorem rest_l1 (l : List S44) (T : List (List Bool)) (out : List (List Int)) (left b : List Int) (hl : left.length ≤ 8) (hb : b.length ≤ 8) (ho : out.length ≤ 1000) : ∀ (r pre acc : List Int), left = pre ++ r → acc.length ≤ pre.length → L (fun q => spec_l4Sidney.l1 q l out left T b acc (pre.length : Int)) = L (fun q => spec_l4Sidney.l0 q l (out ++ [b]) (acc ++ r.filter fun x => !decide (x ∈ b)) T)
  | [], pre, acc, e, ha => by
    rw [List.append_nil] at e
    rw [L_shift]
    simp only [spec_l4Sidney.l1, if_neg (show ¬ ((pre.length : Int) < (left.length : Int)) by rw [e]; omega), if_pos (show out.length < 5864062014805 by omega), List.filter_nil, List.append_nil]
  | x :: r, pre, acc, e, ha => by
    have hll : left.length = pre.length + (r.length + 1) := by rw [e]; simp
    have ew : wrap64 ((pre.length : Int) + 1) = ((pre ++ [x]).length : Int) := wrap_mid pre x (by omega)
    have er : rd left (pre.length : Int) = x := by rw [e]; exact rd_mid pre x r
    have i1 := rest_l1 l T out left b hl hb ho r (pre ++ [x]) acc (by rw [e]; simp) (by simp; omega)
    have i2 := rest_l1 l T out left b hl hb ho r (pre ++ [x]) (acc ++ [x]) (by rw [e]; simp) (by simp; omega)
    rw [L_shift]
    simp only [spec_l4Sidney.l1, if_pos (show (pre.length : Int) < (left.length : Int) by omega), le_nat, if_true, er, L_bind, l1Has_L b x (by omega), Option.bind_some, ew, L_ite, if_pos (show acc.length < 17592186044416 by omega), i1, i2]
    by_cases hm : x ∈ b
    · rw [decide_eq_true hm, if_pos rfl, List.filter_cons_of_neg (by rw [decide_eq_true hm]; decide)]
    · rw [decide_eq_false hm, if_neg (by decide), List.filter_cons_of_pos (by rw [decide_eq_false hm]; rfl), List.append_assoc]
      rfl
theorem sid_both (l : List S44) (h8 : l.length ≤ 8) (R : Nat → Nat → Bool) : ∀ (f left : Nat) (out : List (List Int)), left ≤ f → left < 2 ^ l.length → left < 256 → out.length + left ≤ 1000 →
    L (fun q => impl_sidneyBlocks.l0 q l (tabN l.length R) out (left : Int)) = some (out ++ sidL l R f left) ∧ L (fun q => spec_l4Sidney.l0 q l out (bl left) (tabN l.length R)) = some (out ++ sidL l R f left)
  | f, 0, out, hf, hl, h2, ho => by
    have e : sidL l R f 0 = [] := by cases f <;> rfl
    have eb : bl 0 = [] := by decide
    rw [e, List.append_nil, eb]
    refine ⟨?_, ?_⟩
    · rw [L_shift]
      simp only [impl_sidneyBlocks.l0, Int.natCast_zero, if_true, L_const]
    · rw [L_shift]
      simp only [spec_l4Sidney.l0, List.length_nil, Int.natCast_zero, gt_iff_lt, Int.lt_irrefl, if_false, L_const]
  | 0, n + 1, out, hf, hl, h2, ho => absurd hf (by omega)
  | f + 1, n + 1, out, hf, hl, h2, ho => by
    have h0 : n + 1 ≠ 0 := by omega
    obtain ⟨b1, b2, b3, b4⟩ := blockF_facts l R (n + 1) h2 h0
    have hlt := restN_lt (l := l) (R := R) h2 h0
    have hb8 : ∀ x ∈ blockF l R (n + 1), 0 ≤ x ∧ x < 8 := fun x hx => (mem_bl.1 (b2 x hx)).1
    have ih := sid_both l h8 R f (restN (n + 1) (blockF l R (n + 1))) (out ++ [blockF l R (n + 1)]) (by omega) (by omega) (by omega) (by simp; omega)
    rw [List.append_assoc, List.singleton_append] at ih
    have es : sidL l R (f + 1) (n + 1) = blockF l R (n + 1) :: sidL l R f (restN (n + 1) (blockF l R (n + 1))) := by rw [sidL, if_neg h0]
    rw [es]
    have hmk : mkS (blockF l R (n + 1)) < 256 := mkS_lt _ 0 (by decide) hb8
    have han := andNotB ⟨n + 1, h2⟩ ⟨mkS (blockF l R (n + 1)), hmk⟩
    simp only at han
    refine ⟨?_, ?_⟩
    · have h1 := sb_l1 l h8 R out (n + 1) hl h2 (n + 1) 1 [] (by omega) (Nat.le_refl _) ⟨by simp, fun x hx => nomatch hx⟩
      have hso := setOf_L (blockF l R (n + 1)) hb8 (by omega)
      have hend : L (fun q => impl_sidneyBlocks.l1 q l (tabN l.length R) out ((n + 1 : Nat) : Int) (blockF l R (n + 1)) ((n + 1 + 1 : Nat) : Int)) = some (out ++ blockF l R (n + 1) :: sidL l R f (restN (n + 1) (blockF l R (n + 1)))) := by
        rw [L_shift]
        simp only [impl_sidneyBlocks.l1, if_neg (show ¬ (((n + 1 + 1 : Nat) : Int) ≤ ((n + 1 : Nat) : Int)) by omega), if_pos (show out.length < 5864062014805 by omega), L_bind, hso, Option.bind_some, han]
        exact ih.1
      rw [L_shift]
      simp only [impl_sidneyBlocks.l0, if_neg (show ¬ (((n + 1 : Nat) : Int) = 0) by omega)]
      exact h1.trans hend
    · have hbl := l4Block_L l h8 R (n + 1) hl h2
      have hln := bl_len (n + 1) h2
      have hpos : 0 < (bl (n + 1)).length := by
        obtain ⟨x, hx⟩ := List.exists_mem_of_ne_nil _ b1
        exact List.length_pos_of_mem (b2 x hx)
      have hr := rest_l1 l (tabN l.length R) out (bl (n + 1)) (blockF l R (n + 1)) hln b4 (by omega) (bl (n + 1)) [] [] rfl (Nat.le_refl _)
      rw [List.length_nil, Int.natCast_zero, List.nil_append, ← bl_rest (n + 1) _ hb8] at hr
      rw [L_shift]
      simp only [spec_l4Sidney.l0, if_pos (show ((bl (n + 1)).length : Int) > 0 by omega), L_bind, hbl, Option.bind_some, hr]
      exact ih.2
def extB (R : Nat → Nat → Bool) : List Int → List Int → Bool
  | _, [] => true
  | pre, x :: r => (pre.all fun y => !(R x.toNat y.toNat)) && extB R (pre ++ [x]) r
theorem ext_l1 (n : Nat) (hn : n ≤ 8) (R : Nat → Nat → Bool) (o : List Int) (hO : ∀ x ∈ o, 0 ≤ x ∧ x < (n : Int)) (hol : o.length ≤ 8) (pre r : List Int) (x : Int) (e : o = pre ++ x :: r) : ∀ (r2 p2 : List Int), pre = p2 ++ r2 → L (fun q => impl_extends.l1 q (tabN n R) o x o (o.length : Int) (pre.length : Int) pre (pre.length : Int) (p2.length : Int)) = if (r2.all fun y => !(R x.toNat y.toNat)) = true then L (fun q => impl_extends.l0 q (tabN n R) o o (o.length : Int) ((pre ++ [x]).length : Int)) else some false
  | [], p2, e2 => by
    have hl : o.length = pre.length + (r.length + 1) := by rw [e]; simp
    have ew : wrap64 ((pre.length : Int) + 1) = ((pre ++ [x]).length : Int) := wrap_mid pre x (by omega)
    rw [List.append_nil] at e2
    rw [L_shift]
    simp only [impl_extends.l1, if_neg (show ¬ ((p2.length : Int) < (pre.length : Int)) by rw [e2]; omega), ew, List.all_nil, if_true]
  | y :: r2, p2, e2 => by
    have hl : o.length = pre.length + (r.length + 1) := by rw [e]; simp
    have hpl : pre.length = p2.length + (r2.length + 1) := by rw [e2]; simp
    have ew : wrap64 ((p2.length : Int) + 1) = ((p2 ++ [y]).length : Int) := wrap_mid p2 y (by omega)
    have er : rd pre (p2.length : Int) = y := by rw [e2]; exact rd_mid p2 y r2
    have hx := hO x (by rw [e]; simp)
    have hy := hO y (by rw [e, e2]; simp)
    have ih := ext_l1 n hn R o hO hol pre r x e r2 (p2 ++ [y]) (by rw [e2]; simp)
    have eT : rd_L5 (tabN n R) x = (List.range n).map (R x.toNat) := by
      have := tabN_row n R x.toNat (by omega)
      rwa [Int.toNat_of_nonneg hx.1] at this
    have eR : rdOf false ((List.range n).map (R x.toNat)) y = R x.toNat y.toNat := by
      have := row_get n (R x.toNat) y.toNat (by omega)
      rwa [Int.toNat_of_nonneg hy.1] at this
    rw [List.all_cons, L_shift]
    simp only [impl_extends.l1, if_pos (show (p2.length : Int) < (pre.length : Int) by omega), le_nat, if_true, if_pos hx.1, tabN_length, if_pos hx.2, er, if_pos hy.1, eT, rangeRow_len, if_pos hy.2, eR, ew, L_ite, L_const, ih]
    by_cases hR : R x.toNat y.toNat = true
    · rw [if_pos hR, hR, Bool.not_true, Bool.false_and, if_neg (by decide)]
    · rw [if_neg hR, Bool.eq_false_iff.2 hR, Bool.not_false, Bool.true_and]
theorem ext_l0 (n : Nat) (hn : n ≤ 8) (R : Nat → Nat → Bool) (o : List Int) (hO : ∀ x ∈ o, 0 ≤ x ∧ x < (n : Int)) (hol : o.length ≤ 8) : ∀ (r pre : List Int), o = pre ++ r → L (fun q => impl_extends.l0 q (tabN n R) o o (o.length : Int) (pre.length : Int)) = some (extB R pre r)
  | [], pre, e => by
    rw [List.append_nil] at e
    rw [L_shift]
    simp only [impl_extends.l0, if_neg (show ¬ ((pre.length : Int) < (o.length : Int)) by rw [e]; omega), L_const, extB]
  | x :: r, pre, e => by
    have hl : o.length = pre.length + (r.length + 1) := by rw [e]; simp
    have er : rd o (pre.length : Int) = x := by rw [e]; exact rd_mid pre x r
    have et : o.take pre.length = pre := by rw [e]; simp
    have h1 := ext_l1 n hn R o hO hol pre r x e pre [] rfl
    rw [List.length_nil, Int.natCast_zero] at h1
    have ih := ext_l0 n hn R o hO hol r (pre ++ [x]) (by rw [e]; simp)
    rw [L_shift]
    simp only [impl_extends.l0, if_pos (show (pre.length : Int) < (o.length : Int) by omega), if_pos (show (pre.length : Int) ≤ (o.length : Int) by omega), le_nat, if_true, er, Int.toNat_natCast, et, h1, ih, extB]
    cases (pre.all fun y => !R x.toNat y.toNat) <;> simp
theorem extends_L (n : Nat) (hn : n ≤ 8) (R : Nat → Nat → Bool) (o : List Int) (hO : ∀ x ∈ o, 0 ≤ x ∧ x < (n : Int)) (hol : o.length ≤ 8) : L (fun q => impl_extends.f q (tabN n R) o) = some (extB R [] o) := ext_l0 n hn R o hO hol o [] rfl
theorem extB_iff (R : Nat → Nat → Bool) : ∀ (r pre : List Int), extB R pre r = true ↔ ∀ a x b, r = a ++ x :: b → ∀ y ∈ pre ++ a, R x.toNat y.toNat = false
  | [], pre => ⟨fun _ a x b e => by simp at e, fun _ => rfl⟩
  | z :: r, pre => by
    rw [extB, Bool.and_eq_true, List.all_eq_true, extB_iff R r (pre ++ [z])]
    constructor
    · rintro ⟨h1, h2⟩ a x b e y hy
      cases a with
      | nil =>
        rw [List.nil_append, List.cons.injEq] at e
        rw [← e.1]
        have := h1 y (by rwa [List.append_nil] at hy)
        rwa [Bool.not_eq_true'] at this
      | cons c a =>
        rw [List.cons_append, List.cons.injEq] at e
        refine h2 a x b e.2 y ?_
        rw [← e.1] at hy
        rw [List.append_assoc]
        exact hy
    · intro h
      refine ⟨fun y hy => ?_, fun a x b e y hy => ?_⟩
      · rw [Bool.not_eq_true']
        exact h [] z r rfl y (by rwa [List.append_nil])
      · exact h (z :: a) x b (by rw [e]; rfl) y (by rw [List.append_assoc] at hy; exact hy)
def posV (v : Int) : List Int → Nat → Int → Int
  | [], _, a => a
  | x :: r, i, a => posV v r (i + 1) (if x = v then (i : Int) else a)
theorem posV_none (v : Int) : ∀ (r : List Int) (i : Nat) (a : Int), v ∉ r → posV v r i a = a
  | [], i, a, h => rfl
  | x :: r, i, a, h => by
    rw [posV, posV_none v r _ _ (fun q => h (List.mem_cons_of_mem _ q)), if_neg (fun q => h (by rw [q]; exact List.mem_cons_self))]
theorem posV_at (v : Int) (r : List Int) (hr : v ∉ r) : ∀ (pre : List Int) (i : Nat) (a : Int), posV v (pre ++ v :: r) i a = ((i + pre.length : Nat) : Int)
  | [], i, a => by rw [List.nil_append, posV, posV_none v r _ _ hr, if_pos rfl]; rfl
  | x :: pre, i, a => by
    rw [List.cons_append, posV, posV_at v r hr pre]
    simp only [List.length_cons]
    omega
theorem exs_l1 (es : List S47) (o : List Int) (hol : o.length ≤ 8) (ep er_ : List S47) (e : S47) (ee : es = ep ++ e :: er_) (hel : es.length ≤ 1000) : ∀ (r pre : List Int) (a b : Int), o = pre ++ r → L (fun q => spec_l4Extends.l1 q es o (ep.length : Int) a b (pre.length : Int)) = if posV e.f0 r pre.length a > posV e.f1 r pre.length b then some false else L (fun q => spec_l4Extends.l0 q es o ((ep ++ [e]).length : Int))
  | [], pre, a, b, eo => by
    rw [List.append_nil] at eo
    have hel2 : es.length = ep.length + (er_.length + 1) := by rw [ee]; simp
    have ew : wrap64 ((ep.length : Int) + 1) = ((ep ++ [e]).length : Int) := wrap_mid ep e (by omega)
    rw [posV, posV, L_shift]
    simp only [spec_l4Extends.l1, if_neg (show ¬ ((pre.length : Int) < (o.length : Int)) by rw [eo]; omega), ew, L_ite, L_const]
  | x :: r, pre, a, b, eo => by
    have hl : o.length = pre.length + (r.length + 1) := by rw [eo]; simp
    have hel2 : es.length = ep.length + (er_.length + 1) := by rw [ee]; simp
    have ew : wrap64 ((pre.length : Int) + 1) = ((pre ++ [x]).length : Int) := wrap_mid pre x (by omega)
    have er : rd o (pre.length : Int) = x := by rw [eo]; exact rd_mid pre x r
    have ee2 : rd_T47 es (ep.length : Int) = e := by rw [ee]; exact getD_mid ep e er_ _
    have ih := fun a b => exs_l1 es o hol ep er_ e ee hel r (pre ++ [x]) a b (by rw [eo]; simp)
    have el : (pre ++ [x]).length = pre.length + 1 := by simp
    rw [el] at ih ew
    rw [posV, posV, L_shift]
    simp only [spec_l4Extends.l1, if_pos (show (pre.length : Int) < (o.length : Int) by omega), le_nat, if_true, if_pos (show (ep.length : Int) < (es.length : Int) by omega), er, ee2, ew, L_ite, ih]
    by_cases c0 : x = e.f0
    · rw [if_pos c0, if_pos c0]
      by_cases c1 : x = e.f1
      · rw [if_pos c1, if_pos c1]
      · rw [if_neg c1, if_neg c1]
    · rw [if_neg c0, if_neg c0]
      by_cases c1 : x = e.f1
      · rw [if_pos c1, if_pos c1]
      · rw [if_neg c1, if_neg c1]
theorem exs_l0 (es : List S47) (o : List Int) (hol : o.length ≤ 8) (hel : es.length ≤ 1000) : ∀ (r pre : List S47), es = pre ++ r → L (fun q => spec_l4Extends.l0 q es o (pre.length : Int)) = some (r.all fun e => !decide (posV e.f0 o 0 0 > posV e.f1 o 0 0))
  | [], pre, e => by
    rw [List.append_nil] at e
    rw [L_shift]
    simp only [spec_l4Extends.l0, if_neg (show ¬ ((pre.length : Int) < (es.length : Int)) by rw [e]; omega), L_const, List.all_nil]
  | x :: r, pre, e => by
    have hl : es.length = pre.length + (r.length + 1) := by rw [e]; simp
    have h1 := exs_l1 es o hol pre r x e hel o [] 0 0 rfl
    rw [List.length_nil, Int.natCast_zero] at h1
    have ih := exs_l0 es o hol hel r (pre ++ [x]) (by rw [e]; simp)
    rw [L_shift]
    simp only [spec_l4Extends.l0, if_pos (show (pre.length : Int) < (es.length : Int) by omega), h1, ih, List.all_cons]
    by_cases c : posV x.f0 o 0 0 > posV x.f1 o 0 0
    · rw [if_pos c, decide_eq_true c]; simp
    · rw [if_neg c, decide_eq_false c]; simp
theorem warR_sub : ∀ (d k : Nat) (R Q : Nat → Nat → Bool), (∀ m, ClosedR Q m) → (∀ i j, R i j = true → Q i j = true) → ∀ i j, warR d k R i j = true → Q i j = true
  | 0, k, R, Q, hQ, h, i, j, hr => h i j hr
  | d + 1, k, R, Q, hQ, h, i, j, hr => warR_sub d (k + 1) (stepR k R) Q hQ (fun a b hab => by
      rw [stepR_iff] at hab
      rcases hab with hab | ⟨h1, h2⟩
      · exact h _ _ hab
      · exact hQ k _ _ (h _ _ h1) (h _ _ h2)) i j hr
theorem warR_ge : ∀ (d k : Nat) (R : Nat → Nat → Bool) (i j : Nat), R i j = true → warR d k R i j = true
  | 0, k, R, i, j, h => h
  | d + 1, k, R, i, j, h => warR_ge d (k + 1) (stepR k R) i j ((stepR_iff k R i j).2 (.inl h))
theorem ext_same (n : Nat) (es : List S47) (he : ∀ e ∈ es, PairIn n e) (hirr : ∀ j, j < n → closR n es j j = false) (o : List Int) (ho : IsOrd n o) : (es.all fun e => !decide (posV e.f0 o 0 0 > posV e.f1 o 0 0)) = extB (closR n es) [] o := by
  have hnd := ho.2.2
  have hpos : ∀ pre x r, o = pre ++ x :: r → posV x o 0 0 = (pre.length : Int) := fun pre x r e => by
    have hx : x ∉ r := by
      rw [e] at hnd
      have h1 := (List.nodup_append.1 hnd).2.1
      exact (List.nodup_cons.1 h1).1
    rw [e, posV_at x r hx pre 0 0, Nat.zero_add]
  rw [Bool.eq_iff_iff, List.all_eq_true, extB_iff]
  constructor
  · intro h a x b e y hy
    rw [List.nil_append] at hy
    cases hR : closR n es x.toNat y.toNat with
    | false => rfl
    | true =>
      exfalso
      have hQ := warR_sub n 0 (markR noR es) (fun i j => decide (posV (i : Int) o 0 0 < posV (j : Int) o 0 0)) (fun m i j h1 h2 => by
        rw [decide_eq_true_eq] at h1 h2 ⊢
        omega) (fun i j hij => by
        rw [decide_eq_true_eq]
        rcases (markR_iff es noR i j).1 hij with hij2 | ⟨e2, he2, ea, eb⟩
        · cases hij2
        · obtain ⟨p1, p2⟩ := he e2 he2
          have h3 := h e2 he2
          rw [Bool.not_eq_true', decide_eq_false_iff_not] at h3
          have e0 : e2.f0 = (i : Int) := by omega
          have e1 : e2.f1 = (j : Int) := by omega
          rw [e0, e1] at h3
          have hne : i ≠ j := fun q => by
            have h4 := hirr i (by omega)
            rw [q] at hij h4
            have h5 := warR_ge n 0 _ j j hij
            rw [closR] at h4
            rw [h4] at h5
            cases h5
          have hi : (i : Int) ∈ o := ho.mem.2 ⟨by omega, by omega⟩
          have hj : (j : Int) ∈ o := ho.mem.2 ⟨by omega, by omega⟩
          obtain ⟨u, w, eu⟩ := List.append_of_mem hi
          have k1 := hpos u _ w eu
          have hj2 := hj
          rw [eu] at hj2
          rcases List.mem_append.1 hj2 with hj3 | hj3
          · obtain ⟨u1, u2, e3⟩ := List.append_of_mem hj3
            have k2 := hpos u1 (j : Int) (u2 ++ (i : Int) :: w) (by rw [eu, e3]; simp)
            rw [e3] at k1
            simp at k1
            omega
          · rcases List.mem_cons.1 hj3 with hj3 | hj3
            · omega
            · obtain ⟨w1, w2, e3⟩ := List.append_of_mem hj3
              have k2 := hpos (u ++ (i : Int) :: w1) (j : Int) w2 (by rw [eu, e3]; simp)
              simp at k2
              omega) x.toNat y.toNat hR
      rw [decide_eq_true_eq] at hQ
      have hx := ho.2.1 x (by rw [e]; simp)
      have hy2 := ho.2.1 y (by rw [e]; exact List.mem_append_left _ hy)
      rw [Int.toNat_of_nonneg hx.1, Int.toNat_of_nonneg hy2.1, hpos a x b e] at hQ
      obtain ⟨a1, a2, e3⟩ := List.append_of_mem hy
      have k2 := hpos a1 y (a2 ++ x :: b) (by rw [e, e3]; simp)
      rw [k2, e3] at hQ
      simp at hQ
      omega
  · intro h e2 he2
    rw [Bool.not_eq_true', decide_eq_false_iff_not]
    intro hgt
    obtain ⟨p1, p2⟩ := he e2 he2
    have hR : closR n es e2.f0.toNat e2.f1.toNat = true := warR_ge n 0 _ _ _ ((markR_iff es noR _ _).2 (.inr ⟨e2, he2, rfl, rfl⟩))
    have hi : e2.f0 ∈ o := ho.mem.2 p1
    have hj : e2.f1 ∈ o := ho.mem.2 p2
    obtain ⟨u, w, eu⟩ := List.append_of_mem hi
    have k1 := hpos u _ w eu
    rw [eu] at hj
    rcases List.mem_append.1 hj with hj3 | hj3
    · have := h u e2.f0 w eu e2.f1 (by rw [List.nil_append]; exact hj3)
      rw [hR] at this
      cases this
    · rcases List.mem_cons.1 hj3 with hj3 | hj3
      · rw [hj3] at hgt
        omega
      · obtain ⟨w1, w2, e3⟩ := List.append_of_mem hj3
        have k2 := hpos (u ++ e2.f0 :: w1) e2.f1 w2 (by rw [eu, e3]; simp)
        simp at k2
        omega
def blkB : List (List Int) → List Int → Bool
  | [], _ => true
  | b :: B, o => ((o.take b.length).all fun x => decide (x ∈ b)) && blkB B (o.drop b.length)
structure OkB (b : List Int) : Prop where
  nd : b.Nodup
  r8 : ∀ x ∈ b, 0 ≤ x ∧ x < 8
theorem flt_len : ∀ (w b : List Int), w.Nodup → b.Nodup → (∀ x ∈ b, x ∈ w) → w.length = b.length + (w.filter fun x => !decide (x ∈ b)).length := fun w b hw hb hs => by
  have h1 : ∀ l : List Int, l.length = (l.filter fun x => decide (x ∈ b)).length + (l.filter fun x => !decide (x ∈ b)).length := fun l => by
    induction l with
    | nil => rfl
    | cons x l ih =>
      by_cases hm : x ∈ b
      · rw [List.filter_cons_of_pos (by rw [decide_eq_true hm]), List.filter_cons_of_neg (by rw [decide_eq_true hm]; decide), List.length_cons, List.length_cons]
        omega
      · rw [List.filter_cons_of_neg (by rw [decide_eq_false hm]; decide), List.filter_cons_of_pos (by rw [decide_eq_false hm]; rfl), List.length_cons, List.length_cons]
        omega
  have h2 := nodup_sub (w.filter fun x => decide (x ∈ b)) b (hw.filter _) (fun x hx => of_decide_eq_true (List.mem_filter.1 hx).2)
  have h3 := nodup_sub b (w.filter fun x => decide (x ∈ b)) hb (fun x hx => List.mem_filter.2 ⟨hs x hx, decide_eq_true hx⟩)
  have h4 := h1 w
  omega
theorem asc_nodup {w : List Int} (h : w.Pairwise (· < ·)) : w.Nodup := h.imp (fun h => by omega)
theorem sid_facts (l : List S44) (R : Nat → Nat → Bool) : ∀ (f left : Nat), left ≤ f → left < 256 → sumLen (sidL l R f left) = (bl left).length ∧ ∀ b ∈ sidL l R f left, OkB b
  | f, 0, hf, h2 => by
    have e : sidL l R f 0 = [] := by cases f <;> rfl
    rw [e]
    exact ⟨by decide, fun b hb => nomatch hb⟩
  | 0, n + 1, hf, h2 => absurd hf (by omega)
  | f + 1, n + 1, hf, h2 => by
    have h0 : n + 1 ≠ 0 := by omega
    obtain ⟨b1, b2, b3, b4⟩ := blockF_facts l R (n + 1) h2 h0
    have hlt := restN_lt (l := l) (R := R) h2 h0
    have hb8 : ∀ x ∈ blockF l R (n + 1), 0 ≤ x ∧ x < 8 := fun x hx => (mem_bl.1 (b2 x hx)).1
    have es : sidL l R (f + 1) (n + 1) = blockF l R (n + 1) :: sidL l R f (restN (n + 1) (blockF l R (n + 1))) := by rw [sidL, if_neg h0]
    obtain ⟨i1, i2⟩ := sid_facts l R f (restN (n + 1) (blockF l R (n + 1))) (by omega) (by omega)
    rw [bl_rest (n + 1) _ hb8] at i1
    rw [es]
    refine ⟨?_, fun b hb => ?_⟩
    · rw [sumLen, i1, flt_len (bl (n + 1)) (blockF l R (n + 1)) (asc_nodup (bl_asc _)) (asc_nodup b3) b2]
    · rcases List.mem_cons.1 hb with e | hb
      · rw [e]; exact ⟨asc_nodup b3, hb8⟩
      · exact i2 b hb
theorem mkS_mem {s : List Int} (hs : ∀ x ∈ s, 0 ≤ x ∧ x < 8) {x : Int} (hx : 0 ≤ x) : (mkS s).testBit x.toNat = true ↔ x ∈ s := by
  unfold mkS
  rw [mkS_bit, Nat.zero_testBit, Bool.false_or, List.any_eq_true]
  constructor
  · rintro ⟨y, hy, h⟩
    have h1 : y.toNat = x.toNat := of_decide_eq_true h
    have h2 := hs y hy
    have h3 : x = y := by omega
    rw [h3]; exact hy
  · intro h
    exact ⟨x, h, decide_eq_true rfl⟩
theorem mkS_eq {s b : List Int} (hs : OkB s) (hb : OkB b) (hl : s.length = b.length) : mkS s = mkS b ↔ (s.all fun x => decide (x ∈ b)) = true := by
  rw [List.all_eq_true]
  constructor
  · intro h x hx
    rw [decide_eq_true_eq, ← mkS_mem hb.r8 (hs.r8 x hx).1, ← h, mkS_mem hs.r8 (hs.r8 x hx).1]
    exact hx
  · intro h
    have hp := perm_of s b hs.nd (fun x hx => of_decide_eq_true (h x hx)) (by omega)
    refine Nat.eq_of_testBit_eq fun i => ?_
    rw [Bool.eq_iff_iff]
    have e1 := mkS_mem hs.r8 (x := (i : Int)) (by omega)
    have e2 := mkS_mem hb.r8 (x := (i : Int)) (by omega)
    rw [Int.toNat_natCast] at e1 e2
    rw [e1, e2]
    exact hp.mem_iff
theorem fin_i (o : List Int) (ho : OkB o) (hol : o.length ≤ 8) (B : List (List Int)) (hBl : B.length ≤ 1000) : ∀ (r pre : List (List Int)) (fr : Nat), B = pre ++ r → (∀ b ∈ r, OkB b) → fr + sumLen r ≤ o.length → L (fun q => impl_IsBlockOrder.l0 q o (fr : Int) B (B.length : Int) (pre.length : Int)) = some (blkB r (o.drop fr), true)
  | [], pre, fr, e, hr, hs => by
    rw [List.append_nil] at e
    rw [L_shift]
    simp only [impl_IsBlockOrder.l0, if_neg (show ¬ ((pre.length : Int) < (B.length : Int)) by rw [e]; omega), L_const, blkB]
  | b :: r, pre, fr, e, hr, hs => by
    have hbl : B.length = pre.length + (r.length + 1) := by rw [e]; simp
    rw [sumLen] at hs
    have hb := hr b List.mem_cons_self
    have ew : wrap64 ((pre.length : Int) + 1) = ((pre ++ [b]).length : Int) := wrap_mid pre b (by omega)
    have er : rd_L6 B (pre.length : Int) = b := by rw [e]; exact getD_mid pre b r []
    have ew2 : wrap64 ((fr : Int) + (b.length : Int)) = ((fr + b.length : Nat) : Int) := by rw [wrap_id (by omega) (by omega)]; omega
    have ih := fin_i o ho hol B hBl r (pre ++ [b]) (fr + b.length) (by rw [e]; simp) (fun x hx => hr x (List.mem_cons_of_mem _ hx)) (by omega)
    have esl : (o.take (fr + b.length)).drop fr = (o.drop fr).take b.length := by rw [List.drop_take, Nat.add_sub_cancel_left]
    have hsl : OkB ((o.drop fr).take b.length) := ⟨(ho.nd.sublist (List.drop_sublist _ _)).sublist (List.take_sublist _ _), fun x hx => ho.r8 x (List.mem_of_mem_drop (List.mem_of_mem_take hx))⟩
    have hsll : ((o.drop fr).take b.length).length = b.length := by rw [List.length_take, List.length_drop]; omega
    have s1 := setOf_L _ hsl.r8 (by omega)
    have s2 := setOf_L b hb.r8 (by omega)
    have hm := mkS_eq hsl hb hsll
    rw [L_shift]
    simp only [impl_IsBlockOrder.l0, if_pos (show (pre.length : Int) < (B.length : Int) by omega), le_nat, if_true, er, ew2, if_pos (show (fr : Int) ≤ ((fr + b.length : Nat) : Int) by omega), if_pos (show ((fr + b.length : Nat) : Int) ≤ (o.length : Int) by omega), Int.toNat_natCast, esl, L_bind, s1, s2, Option.bind_some, ew, L_ite, L_const, ih, blkB, List.drop_drop]
    by_cases c : mkS ((o.drop fr).take b.length) = mkS b
    · rw [if_pos (by rw [c]), hm.1 c, Bool.true_and]
    · rw [if_neg (show ¬ ((mkS ((o.drop fr).take b.length) : Nat) : Int) = ((mkS b : Nat) : Int) from fun q => c (Int.ofNat_inj.1 q)), Bool.eq_false_iff.2 (fun q => c (hm.2 q)), Bool.false_and]
theorem fin_s1 (es : List S47) (o : List Int) (hol : o.length ≤ 8) (B : List (List Int)) (hBl : B.length ≤ 1000) (bp br : List (List Int)) (b : List Int) (eB : B = bp ++ b :: br) (fr : Nat) (hf : fr + b.length ≤ o.length) : ∀ (r2 p2 : List Int), b = p2 ++ r2 → L (fun q => spec_IsBlockOrder.l1 q es o B ((fr + p2.length : Nat) : Int) (bp.length : Int) (p2.length : Int)) = if (((o.drop (fr + p2.length)).take r2.length).all fun x => decide (x ∈ b)) = true then L (fun q => spec_IsBlockOrder.l0 q es o B ((fr + b.length : Nat) : Int) ((bp ++ [b]).length : Int)) else some (false, true)
  | [], p2, e2 => by
    have hbl : B.length = bp.length + (br.length + 1) := by rw [eB]; simp
    have er : rd_L6 B (bp.length : Int) = b := by rw [eB]; exact getD_mid bp b br []
    have ew : wrap64 ((bp.length : Int) + 1) = ((bp ++ [b]).length : Int) := wrap_mid bp b (by omega)
    rw [List.append_nil] at e2
    rw [List.length_nil, List.take_zero, List.all_nil, if_pos rfl, L_shift]
    simp only [spec_IsBlockOrder.l1, le_nat, if_true, if_pos (show (bp.length : Int) < (B.length : Int) by omega), er, e2, if_neg (Int.lt_irrefl _), ew]
  | z :: r2, p2, e2 => by
    have hbl : B.length = bp.length + (br.length + 1) := by rw [eB]; simp
    have hb2 : b.length = p2.length + (r2.length + 1) := by rw [e2]; simp
    have er : rd_L6 B (bp.length : Int) = b := by rw [eB]; exact getD_mid bp b br []
    have hlt : fr + p2.length < o.length := by omega
    have elz : (p2 ++ [z]).length = p2.length + 1 := by simp
    have ew1 : wrap64 (((fr + p2.length : Nat) : Int) + 1) = ((fr + (p2 ++ [z]).length : Nat) : Int) := by rw [elz, wrap_id (by omega) (by omega)]; omega
    have c3 : ((fr + p2.length : Nat) : Int) < (o.length : Int) := by omega
    have c1 : (bp.length : Int) < (B.length : Int) := by omega
    have c2 : (p2.length : Int) < (b.length : Int) := by omega
    have cl : b.length < 4611686018427387904 := by omega
    have el : fr + (p2 ++ [z]).length = fr + p2.length + 1 := by rw [elz]; omega
    have ew2 : wrap64 ((p2.length : Int) + 1) = ((p2 ++ [z]).length : Int) := wrap_mid p2 z (by omega)
    have ed : o.drop (fr + p2.length) = o.getD (fr + p2.length) 0 :: o.drop (fr + p2.length + 1) := by
      rw [List.drop_eq_getElem_cons hlt, List.getD_eq_getElem?_getD, List.getElem?_eq_getElem hlt]
      rfl
    have ih := fin_s1 es o hol B hBl bp br b eB fr hf r2 (p2 ++ [z]) (by rw [e2]; simp)
    have eo : rd o ((fr + p2.length : Nat) : Int) = o.getD (fr + p2.length) 0 := by show o.getD ((fr + p2.length : Nat) : Int).toNat 0 = _; rw [Int.toNat_natCast]
    rw [ed, List.length_cons, List.take_succ_cons, List.all_cons, ← el, L_shift]
    simp only [spec_IsBlockOrder.l1, le_nat, if_true, if_pos c1, er, if_pos c2, if_pos c3, eo, L_bind, l1Has_L b _ cl, Option.bind_some, ew1, ew2, L_ite, L_const, ih]
    by_cases hm : o.getD (fr + p2.length) 0 ∈ b
    · rw [decide_eq_true hm, if_pos rfl, Bool.true_and]
    · rw [decide_eq_false hm, if_neg (by decide), Bool.false_and, if_neg (by decide)]
theorem fin_s0 (es : List S47) (o : List Int) (hol : o.length ≤ 8) (hel : es.length ≤ 1000) (B : List (List Int)) (hBl : B.length ≤ 1000) : ∀ (r pre : List (List Int)) (fr : Nat), B = pre ++ r → fr + sumLen r ≤ o.length → L (fun q => spec_IsBlockOrder.l0 q es o B (fr : Int) (pre.length : Int)) = if blkB r (o.drop fr) = true then some (es.all fun e => !decide (posV e.f0 o 0 0 > posV e.f1 o 0 0), true) else some (false, true)
  | [], pre, fr, e, hs => by
    have hx := exs_l0 es o hol hel es [] rfl
    rw [List.length_nil, Int.natCast_zero] at hx
    have hx2 : L (fun q => spec_l4Extends.f q es o) = some (es.all fun e => !decide (posV e.f0 o 0 0 > posV e.f1 o 0 0)) := hx
    rw [List.append_nil] at e
    rw [blkB, if_pos rfl, L_shift]
    simp only [spec_IsBlockOrder.l0, if_neg (show ¬ ((pre.length : Int) < (B.length : Int)) by rw [e]; omega), L_bind, hx2, Option.bind_some, L_const]
  | b :: r, pre, fr, e, hs => by
    have hbl : B.length = pre.length + (r.length + 1) := by rw [e]; simp
    rw [sumLen] at hs
    have h1 := fin_s1 es o hol B hBl pre r b e fr (by omega) b [] rfl
    rw [List.length_nil, Int.natCast_zero, Nat.add_zero] at h1
    have ih := fin_s0 es o hol hel B hBl r (pre ++ [b]) (fr + b.length) (by rw [e]; simp) (by omega)
    rw [blkB, List.drop_drop, L_shift]
    simp only [spec_IsBlockOrder.l0, if_pos (show (pre.length : Int) < (B.length : Int) by omega), h1, ih]
    cases (((o.drop fr).take b.length).all fun x => decide (x ∈ b)) <;> simp

theorem pow_lt9 : ∀ k : Fin 9, 2 ^ k.val - 1 < 256 ∧ 1 ≤ 2 ^ k.val := by decide
theorem sidL_len (l : List S44) (R : Nat → Nat → Bool) : ∀ (f left : Nat), (sidL l R f left).length ≤ f
  | 0, left => Nat.le_refl _
  | f + 1, left => by
    have ih := sidL_len l R f (restN left (blockF l R left))
    rw [sidL]
    split
    · exact Nat.zero_le _
    · rw [List.length_cons]; omega
theorem IsBlockOrder_both (l : List S44) (es : List S47) (o : List Int) (hl : l.length ≤ 1048576) (he : es.length ≤ 1048576) (ho : o.length ≤ 1048576) : ∃ a b : Bool, L (fun q => spec_IsBlockOrder.f q l es o) = some (a, b) ∧ L (fun q => impl_IsBlockOrder.f q l es o) = some (a, b) := by
  have hj1 : L (fun q => spec_IsBlockOrder.j0 q l es o true) = some (false, false) := by
    rw [L_shift]
    simp only [spec_IsBlockOrder.j0, if_true, L_const]
  have hj2 : L (fun q => impl_IsBlockOrder.j0 q l es o true) = some (false, false) := by
    rw [L_shift]
    simp only [impl_IsBlockOrder.j0, if_true, L_const]
  simp only [spec_IsBlockOrder.f, impl_IsBlockOrder.f, spec_l4Two.f, impl_isPreceded.f, bind_self, L_bind, L_ite, L_const, l2Good_L l (by omega), IsJobs_L l (by omega), Option.bind_some, l2Order_L l.length o hl (by omega), isOrder_L l.length o hl (by omega), hj1, hj2]
  cases hgb : goodB l with
  | false => exact ⟨false, false, by simp, by simp⟩
  | true =>
    have hg := goodB_iff.1 hgb
    have h8 := hg.1
    rw [l4Good_L l.length h8 es (by omega), IsPrecedence_L l.length h8 es]
    cases hp : precB l.length es with
    | false => exact ⟨false, false, by simp, by simp⟩
    | true =>
      cases hob : orderB l.length o with
      | false => exact ⟨false, false, by simp [hj1], by simp [hj2]⟩
      | true =>
        have hi := orderB_iff.1 hob
        obtain ⟨p1, p2, p3⟩ := precB_iff hp
        have hol : o.length ≤ 8 := by rw [hi.1]; exact h8
        have hok : OkB o := ⟨hi.2.2, fun x hx => by have := hi.2.1 x hx; omega⟩
        obtain ⟨w1, w2⟩ := pow_lt9 ⟨l.length, by omega⟩
        simp only at w1 w2
        have hlt : 2 ^ l.length - 1 < 2 ^ l.length := by omega
        have hsh := shlP ⟨l.length, by omega⟩
        simp only at hsh
        have hw : wrap64 (((2 ^ l.length : Nat) : Int) - 1) = ((2 ^ l.length - 1 : Nat) : Int) := by
          generalize 2 ^ l.length = p at w1 w2
          rw [wrap_id (by omega) (by omega)]
          omega
        obtain ⟨s1, s2⟩ := sid_both l h8 (closR l.length es) 256 (2 ^ l.length - 1) [] (by omega) hlt w1 (by simp only [List.length_nil]; omega)
        obtain ⟨f1, f2⟩ := sid_facts l (closR l.length es) 256 (2 ^ l.length - 1) (by omega) w1
        have hbll : (bl (2 ^ l.length - 1)).length ≤ l.length := nodup_bd l.length _ (asc_nodup (bl_asc _)) (bl_in l.length _ hlt)
        have hB0 := sidL_len l (closR l.length es) 256 (2 ^ l.length - 1)
        rw [List.nil_append] at s1 s2
        generalize sidL l (closR l.length es) 256 (2 ^ l.length - 1) = B at s1 s2 f1 f2 hB0
        have hol2 := hi.1
        have hsum : 0 + sumLen B ≤ o.length := by omega
        have hBl : B.length ≤ 1000 := by omega
        have hext := extends_L l.length h8 (closR l.length es) o hi.2.1 hol
        have hfi := fin_i o hok hol B hBl B [] 0 rfl f2 hsum
        have hfs := fin_s0 es o hol (by omega) B hBl B [] 0 rfl hsum
        rw [List.length_nil, Int.natCast_zero, List.drop_zero] at hfi hfs
        rw [ext_same l.length es p2 p3 o hi] at hfs
        have hclo := closure_L l.length (by omega) es (by omega) p2
        have htab := l4Table_L l.length (by omega) es (by omega) p2
        have hset := l4Set_L (2 ^ l.length - 1) l.length w1 h8 hlt
        have hsi : L (fun q => impl_sidneyBlocks.f q l es) = some B := by
          simp only [impl_sidneyBlocks.f, L_bind, hclo, Option.bind_some, hsh, hw, s1]
        have hss : L (fun q => spec_l4Sidney.f q l es) = some B := by
          simp only [spec_l4Sidney.f, L_bind, hsh, hw, hset, htab, Option.bind_some, s2]
        refine ⟨extB (closR l.length es) [] o && blkB B o, true, ?_, ?_⟩
        · have hj : L (fun q => spec_IsBlockOrder.j0 q l es o false) = some (extB (closR l.length es) [] o && blkB B o, true) := by
            rw [L_shift]
            simp only [spec_IsBlockOrder.j0, Bool.false_eq_true, if_false, L_bind, hss, Option.bind_some, hfs]
            cases blkB B o <;> simp
          simp only [if_true, Option.bind_some, decide_eq_true h8, Bool.and_self, Bool.not_true, hj]
        · have hj : L (fun q => impl_IsBlockOrder.j0 q l es o false) = some (extB (closR l.length es) [] o && blkB B o, true) := by
            rw [L_shift]
            simp only [impl_IsBlockOrder.j0, Bool.false_eq_true, if_false, L_bind, hclo, Option.bind_some, hext, L_ite, hsi, hfi, L_const]
            cases extB (closR l.length es) [] o <;> simp
          simp only [if_true, Option.bind_some, Bool.not_true, hj]
theorem FnExactIsBlockOrder : laws_FnExactIsBlockOrder.Pure := by
  intro l es o h1 _ h2 _ h3 _
  have e1 : maxLen = 9223372036854775807 := rfl
  refine rounds_of_L ?_
  simp only [laws_FnExactIsBlockOrder.f, L_ite, L_const, szJobS_e l (by omega)]
  by_cases ho : o.length ≤ 1048576
  · rw [if_neg (by omega)]
    by_cases hl : l.length ≤ 1048576
    · have hl2 : (l.map toJobP).length ≤ 1048576 := by simpa using hl
      rw [if_pos hl]
      have hd0 : 0 ≤ 1048576 - (l.length : Int) := by omega
      have hd1 : 1048576 - (l.length : Int) ≤ 1048576 := by omega
      simp only [Option.bind_some]
      rw [L_ite, if_neg (by omega), szIntA2S_e es _ (by omega) hd0 hd1]
      simp only [Option.bind_some]
      by_cases hQv : (es.length : Int) ≤ 1048576 - (l.length : Int)
      · rw [if_pos hQv, L_ite, if_neg (by omega)]
        have hQ : es.length ≤ 1048576 := by omega
        obtain ⟨b, ok, hs, hi⟩ := IsBlockOrder_both (l.map toJobP) es o hl2 hQ ho
        (rw [L_bind, (toJobS_L l hl), Option.bind_some]; try dsimp only)
        (rw [L_bind, (toIntA2S_L es hQ), Option.bind_some]; try dsimp only)
        (rw [L_bind, (toIntS_L o ho), Option.bind_some]; try dsimp only)
        (rw [L_bind, hs, Option.bind_some]; try dsimp only)
        (rw [L_bind, (toJobS_L l hl), Option.bind_some]; try dsimp only)
        (rw [L_bind, (toIntA2S_L es hQ), Option.bind_some]; try dsimp only)
        (rw [L_bind, (toIntS_L o ho), Option.bind_some]; try dsimp only)
        (rw [L_bind, hi, Option.bind_some]; try dsimp only)
        simp only [bne_self_eq_false, Bool.false_eq_true, if_false]
        rw [L_shift]
        simp only [laws_FnExactIsBlockOrder.j0, Bool.false_eq_true, if_false]
        (rw [L_bind, (toJobS_L l hl), Option.bind_some]; try dsimp only)
        (rw [L_bind, (eqJobS_L _ hl2), Option.bind_some]; try dsimp only)
        rw [L_ite, if_pos rfl]
        (rw [L_bind, (toIntA2S_L es hQ), Option.bind_some]; try dsimp only)
        (rw [L_bind, (eqIntA2S_L es hQ), Option.bind_some]; try dsimp only)
        rw [L_ite, if_pos rfl]
        (rw [L_bind, (toIntS_L o ho), Option.bind_some]; try dsimp only)
        (rw [L_bind, (eqIntS_L o ho), Option.bind_some]; try dsimp only)
        rw [L_ite, if_pos rfl]
        rw [L_const]
      · rw [if_neg hQv, L_ite, if_pos (show (-1 : Int) < 0 by decide), L_const]
    · rw [if_neg hl]
      simp only [Option.bind_some, if_pos (show (-1 : Int) < 0 by decide), L_const]
  · rw [if_pos (by omega)]

end Go.Proofs.Ytlnimgebhpfdjaa.Pure
