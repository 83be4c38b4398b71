/- The program's UnitRank answers what the reference's answers, for all lists of jobs and sets. -/
import Derived.Test.YtmfdbdpgfbpbpaaXSFnExactUnitRank
import Derived.Test.YtmfdbdpgfbpbpaaXLim
namespace Go.Proofs.Ytmfdbdpgfbpbpaa.Pure
open Go.RowKit Go.Proofs.YtmfdbdpgfbpbpaaW.PrintWords Go.Proofs.YtmfdbdpgfbpbpaaW.PrintLast Go.Proofs.YtmfdbdpgfbpbpaaW.PrintMore Go.Proofs.Ytmfdbdpgfbpbpaa.X Go.Proofs.Ytmfdbdpgfbpbpaa.XRow Go.Proofs.Ytmfdbdpgfbpbpaa.XLim
set_option linter.unusedVariables false
set_option linter.unusedSimpArgs false
instance : ∀ a0, Mono (fun k => impl_IsJobs.f k a0) := fun a0 => ⟨⟨impl_IsJobs.mono a0⟩⟩
instance : ∀ a0, Mono (fun k => impl_IsPlain.f k a0) := fun a0 => ⟨⟨impl_IsPlain.mono a0⟩⟩
instance : ∀ a0 a1, Mono (fun k => impl_UnitRank.f k a0 a1) := fun a0 a1 => ⟨⟨impl_UnitRank.mono a0 a1⟩⟩
instance : ∀ a0 a1, Mono (fun k => impl_areDifferent.f k a0 a1) := fun a0 a1 => ⟨⟨impl_areDifferent.mono a0 a1⟩⟩
instance : ∀ a0, Mono (fun k => impl_areUnit.f k a0) := fun a0 => ⟨⟨impl_areUnit.mono a0⟩⟩
instance : ∀ a0 a1, Mono (fun k => impl_has.f k a0 a1) := fun a0 a1 => ⟨⟨impl_has.mono a0 a1⟩⟩
instance : ∀ a0, Mono (fun k => impl_isPlain.f k a0) := fun a0 => ⟨⟨impl_isPlain.mono a0⟩⟩
instance : ∀ a0, Mono (fun k => impl_isRising.f k a0) := fun a0 => ⟨⟨impl_isRising.mono a0⟩⟩
instance : ∀ a0 a1, Mono (fun k => impl_isSet.f k a0 a1) := fun a0 a1 => ⟨⟨impl_isSet.mono a0 a1⟩⟩
instance : ∀ a0, Mono (fun k => impl_listOf.f k a0) := fun a0 => ⟨⟨impl_listOf.mono a0⟩⟩
instance : ∀ a0, Mono (fun k => impl_setOf.f k a0) := fun a0 => ⟨⟨impl_setOf.mono a0⟩⟩
instance : ∀ a0 a1, Mono (fun k => laws_FnExactUnitRank.f k a0 a1) := fun a0 a1 => ⟨⟨laws_FnExactUnitRank.mono a0 a1⟩⟩
instance : ∀ a0 a1, Mono (fun k => laws_eqIntS.f k a0 a1) := fun a0 a1 => ⟨⟨laws_eqIntS.mono a0 a1⟩⟩
instance : ∀ a0 a1, Mono (fun k => laws_eqJobS.f k a0 a1) := fun a0 a1 => ⟨⟨laws_eqJobS.mono a0 a1⟩⟩
instance : ∀ a0, Mono (fun k => laws_toIntS.f k a0) := fun a0 => ⟨⟨laws_toIntS.mono a0⟩⟩
instance : ∀ a0, Mono (fun k => laws_toJobS.f k a0) := fun a0 => ⟨⟨laws_toJobS.mono a0⟩⟩
instance : ∀ a0 a1, Mono (fun k => spec_UnitRank.f k a0 a1) := fun a0 a1 => ⟨⟨spec_UnitRank.mono a0 a1⟩⟩
instance : ∀ a0 a1, Mono (fun k => spec_l10Rank.f k a0 a1) := fun a0 a1 => ⟨⟨spec_l10Rank.mono a0 a1⟩⟩
instance : ∀ a0, Mono (fun k => spec_l10Unit.f k a0) := fun a0 => ⟨⟨spec_l10Unit.mono a0⟩⟩
instance : ∀ a0 a1 a2, Mono (fun k => spec_l1Rising.f k a0 a1 a2) := fun a0 a1 a2 => ⟨⟨spec_l1Rising.mono a0 a1 a2⟩⟩
instance : ∀ a0, Mono (fun k => spec_l2Good.f k a0) := fun a0 => ⟨⟨spec_l2Good.mono a0⟩⟩
instance : ∀ a0, Mono (fun k => spec_l4Free.f k a0) := fun a0 => ⟨⟨spec_l4Free.mono a0⟩⟩
instance : ∀ a0, Mono (fun k => spec_l6Good.f k a0) := fun a0 => ⟨⟨spec_l6Good.mono a0⟩⟩
instance : ∀ a0 a1, Mono (fun k => spec_l6Set.f k a0 a1) := fun a0 a1 => ⟨⟨spec_l6Set.mono a0 a1⟩⟩
instance : ∀ a0 a1, Mono (fun k => spec_l6Timely.f k a0 a1) := fun a0 a1 => ⟨⟨spec_l6Timely.mono a0 a1⟩⟩
theorem lt_mid {α : Type} (pre : List α) (x : α) (r : List α) : ((pre.length : Int) < ((pre ++ x :: r).length : Int)) = True := by
  simp only [List.length_append, List.length_cons]
  exact eq_true (by omega)
theorem not_lt_end {α : Type} (pre : List α) : ((pre.length : Int) < ((pre ++ []).length : Int)) = False := by
  simp
theorem le_nat (n : Nat) : (0 ≤ (n : Int)) = True := eq_true (by omega)
theorem getD_mid {α : Type} (pre : List α) (x : α) (r : List α) (d : α) : (pre ++ x :: r).getD (pre.length : Int).toNat d = x := by
  simp [List.getD_eq_getElem?_getD]
theorem rd_mid (pre : List Int) (x : Int) (r : List Int) : rd (pre ++ x :: r) (pre.length : Int) = x := getD_mid pre x r 0
theorem wrap_mid {α : Type} (pre : List α) (x : α) (h : pre.length < 4611686018427387904) : wrap64 ((pre.length : Int) + 1) = ((pre ++ [x]).length : Int) := by
  rw [wrap_id (by omega) (by omega)]
  simp
theorem set_mid {α β : Type} (a : List α) (y v : α) (b : List α) (pre : List β) (h : pre.length = a.length) : (a ++ y :: b).set (pre.length : Int).toNat v = a ++ v :: b := by
  rw [Int.toNat_natCast, h, List.set_append_right _ _ (Nat.le_refl _)]
  simp
theorem rep_succ {α : Type} (x : α) (r : List α) {β : Type} (z : β) : List.replicate (x :: r).length z = z :: List.replicate r.length z := rfl
theorem app_cons {α : Type} (pre : List α) (x : α) (r : List α) : pre ++ x :: r = (pre ++ [x]) ++ r := by simp
theorem lt0 {a : Int} (h : 0 ≤ a) : (a < 0) = False := eq_false (by omega)
theorem toIntS_l (r : List Int) : ∀ pre : List Int, (pre ++ r).length < 4611686018427387904 → L (fun k => laws_toIntS.l0 k (pre ++ r) (pre ++ List.replicate r.length 0) (pre.length : Int)) = some (pre ++ r) := by
  induction r with
  | nil =>
    intro pre hb
    rw [L_shift]
    simp only [laws_toIntS.l0, not_lt_end, if_false, L_const, List.length_nil, List.replicate_zero]
  | cons x r ih =>
    intro pre hb
    rw [L_shift]
    have hl : pre.length < 4611686018427387904 := by simp at hb; omega
    simp only [laws_toIntS.l0, lt_mid, le_nat, if_true, rep_succ, rd_mid, wrap_mid pre x hl, set_mid pre _ x _ pre rfl]
    rw [app_cons pre x r, app_cons pre x (List.replicate _ _)]
    exact ih (pre ++ [x]) (by simpa using hb)
theorem toIntS_L (l : List Int) (h : l.length ≤ 1048576) : L (fun k => laws_toIntS.f k l) = some l := by
  simp only [laws_toIntS.f, le_nat, if_true, Int.toNat_natCast, if_pos (show l.length ≤ 35184372088832 by omega)]
  exact toIntS_l l [] (by simp; omega)
theorem eqIntS_l (r : List Int) : ∀ pre : List Int, (pre ++ r).length < 4611686018427387904 → L (fun k => laws_eqIntS.l0 k (pre ++ r) (pre ++ r) (pre.length : Int)) = some true := by
  induction r with
  | nil =>
    intro pre hb
    rw [L_shift]
    simp only [laws_eqIntS.l0, not_lt_end, if_false, L_const]
  | cons x r ih =>
    intro pre hb
    rw [L_shift]
    have hl : pre.length < 4611686018427387904 := by simp at hb; omega
    simp only [laws_eqIntS.l0, lt_mid, le_nat, if_true, rd_mid, wrap_mid pre x hl]
    rw [app_cons pre x r]
    exact ih (pre ++ [x]) (by simpa using hb)
theorem eqIntS_L (l : List Int) (h : l.length ≤ 1048576) : L (fun k => laws_eqIntS.f k l l) = some true := by
  simp only [laws_eqIntS.f, if_true]
  exact eqIntS_l l [] (by simp; omega)
def toJobP (x : S43) : S41 := ⟨x.f0, x.f1, x.f2, x.f3⟩
theorem toJobS_l (r : List S43) : ∀ pre : List S43, (pre ++ r).length < 4611686018427387904 → L (fun k => laws_toJobS.l0 k (pre ++ r) (pre.map toJobP ++ List.replicate r.length z41) (pre.length : Int)) = some ((pre ++ r).map toJobP) := by
  induction r with
  | nil =>
    intro pre hb
    rw [L_shift]
    simp only [laws_toJobS.l0, not_lt_end, if_false, L_const, List.length_nil, List.replicate_zero]
    simp
  | cons x r ih =>
    intro pre hb
    rw [L_shift]
    have hl : pre.length < 4611686018427387904 := by simp at hb; omega
    have e : rd_T43 (pre ++ x :: r) (pre.length : Int) = x := getD_mid pre x r _
    have e2 : ((pre.length : Int) < ((pre.map toJobP ++ z41 :: List.replicate r.length z41).length : Int)) = True := by
      simp only [List.length_append, List.length_cons, List.length_map]
      exact eq_true (by omega)
    simp only [laws_toJobS.l0, laws_toJob.f, lt_mid, le_nat, if_true, rep_succ, e, e2, wrap_mid pre x hl, Option.bind_some, set_mid (pre.map toJobP) _ _ _ pre (by simp)]
    have := ih (pre ++ [x]) (by simpa using hb)
    simpa [toJobP] using this
theorem toJobS_L (l : List S43) (h : l.length ≤ 1048576) : L (fun k => laws_toJobS.f k l) = some (l.map toJobP) := by
  simp only [laws_toJobS.f, le_nat, if_true, Int.toNat_natCast, if_pos (show l.length ≤ 8796093022208 by omega)]
  exact toJobS_l l [] (by simp; omega)
theorem eqJobS_l (r : List S41) : ∀ pre : List S41, (pre ++ r).length < 4611686018427387904 → L (fun k => laws_eqJobS.l0 k (pre ++ r) (pre ++ r) (pre.length : Int)) = some true := by
  induction r with
  | nil =>
    intro pre hb
    rw [L_shift]
    simp only [laws_eqJobS.l0, not_lt_end, if_false, L_const]
  | cons x r ih =>
    intro pre hb
    rw [L_shift]
    have hl : pre.length < 4611686018427387904 := by simp at hb; omega
    simp only [laws_eqJobS.l0, laws_eqJob.f, lt_mid, le_nat, if_true, wrap_mid pre x hl, Option.bind_some]
    rw [app_cons pre x r]
    exact ih (pre ++ [x]) (by simpa using hb)
theorem eqJobS_L (l : List S41) (h : l.length ≤ 1048576) : L (fun k => laws_eqJobS.f k l l) = some true := by
  simp only [laws_eqJobS.f, if_true]
  exact eqJobS_l l [] (by simp; omega)
theorem szJobS_e (l : List S43) (h : l.length ≤ 9223372036854775807) : laws_szJobS.f l 1048576 = if l.length ≤ 1048576 then some (1048576 - (l.length : Int)) else some (-1) := by
  unfold laws_szJobS.f
  have e : wrap64 (1048576 - (l.length : Int)) = 1048576 - (l.length : Int) := wrap_id (by omega) (by omega)
  rw [e]
  by_cases h2 : l.length ≤ 1048576
  · rw [if_neg (by omega), if_pos h2]
  · rw [if_pos (by omega), if_neg h2]
theorem ite_and (b c : Bool) : (if b = true then some c else some false) = some (b && c) := by cases b <;> rfl
theorem ite_not_and (b c : Bool) : (if b = true then some false else some c) = some (!b && c) := by cases b <;> rfl
theorem bind_self {α : Type} (o : Option α) : (o.bind fun t => some t) = o := by cases o <;> rfl
def inB (a lo hi : Int) : Bool := decide (lo ≤ a) && decide (a ≤ hi)
theorem inB_iff {a lo hi : Int} : inB a lo hi = true ↔ lo ≤ a ∧ a ≤ hi := by simp [inB]
theorem within_e (a lo hi : Int) : impl_within.f a lo hi = some (inB a lo hi) := by
  unfold impl_within.f inB
  by_cases h : lo ≤ a <;> simp [h]
theorem l1In_e (a lo hi : Int) : spec_l1In.f a lo hi = some (inB a lo hi) := by
  unfold spec_l1In.f inB
  by_cases h : lo ≤ a <;> simp [h]
theorem has_l (x : Int) (r : List Int) : ∀ pre : List Int, (pre ++ r).length < 4611686018427387904 → L (fun k => impl_has.l0 k x (pre ++ r) ((pre ++ r).length : Int) (pre.length : Int)) = some (decide (x ∈ r)) := by
  induction r with
  | nil =>
    intro pre hb
    rw [L_shift]
    simp only [impl_has.l0, not_lt_end, if_false, L_const]
    simp
  | cons y r ih =>
    intro pre hb
    rw [L_shift]
    have hl : pre.length < 4611686018427387904 := by simp at hb; omega
    simp only [impl_has.l0, lt_mid, le_nat, if_true, rd_mid, wrap_mid pre y hl, L_ite, L_const]
    rw [app_cons pre y r, ih (pre ++ [y]) (by simpa using hb)]
    by_cases h : y = x
    · subst h
      simp
    · rw [if_neg h]
      have : ¬ x = y := fun e => h e.symm
      simp [this]
theorem has_L (l : List Int) (x : Int) (h : l.length < 4611686018427387904) : L (fun k => impl_has.f k l x) = some (decide (x ∈ l)) := has_l x l [] (by simpa using h)
def numsTo (n : Nat) : List Int := (List.range n).map (fun i : Nat => (i : Int))
/-- Different numbers of n things, none of them in pre. -/
def diffB (n : Int) : List Int → List Int → Bool
  | _, [] => true
  | pre, x :: r => inB x 0 (n - 1) && (!decide (x ∈ pre) && diffB n (pre ++ [x]) r)
theorem diffB_iff (n : Int) : ∀ (r pre : List Int), diffB n pre r = true ↔ (∀ x ∈ r, 0 ≤ x ∧ x < n) ∧ r.Nodup ∧ ∀ x ∈ r, x ∉ pre
  | [], pre => by simp [diffB]
  | x :: r, pre => by
    rw [diffB, Bool.and_eq_true, Bool.and_eq_true, inB_iff, diffB_iff n r (pre ++ [x])]
    simp only [Bool.not_eq_true', decide_eq_false_iff_not, List.mem_cons, List.nodup_cons, List.mem_append, List.not_mem_nil, or_false, not_or]
    constructor
    · rintro ⟨h1, h2, h3, h4, h5⟩
      refine ⟨?_, ⟨fun hx => (h5 x hx).2 rfl, h4⟩, ?_⟩
      · rintro y (rfl | hy)
        · omega
        · exact h3 y hy
      · rintro y (rfl | hy)
        · exact h2
        · exact (h5 y hy).1
    · rintro ⟨h1, ⟨h2, h3⟩, h4⟩
      exact ⟨⟨(h1 x (.inl rfl)).1, by have := (h1 x (.inl rfl)).2; omega⟩, h4 x (.inl rfl), fun y hy => h1 y (.inr hy), h3, fun y hy => ⟨h4 y (.inr hy), fun e => h2 (e ▸ hy)⟩⟩
/-- An order of n jobs. -/
def orderB (n : Nat) (l : List Int) : Bool := decide ((l.length : Int) = n) && diffB n [] l
def IsOrd (n : Nat) (l : List Int) : Prop := l.length = n ∧ (∀ x ∈ l, 0 ≤ x ∧ x < n) ∧ l.Nodup
theorem isNumber_e (a n : Int) (h0 : -9223372036854775807 ≤ n) (h1 : n ≤ 9223372036854775807) : impl_isNumber.f a n = some (inB a 0 (n - 1)) := by
  simp only [impl_isNumber.f, within_e, Option.bind_some]
  rw [wrap_id (by omega) (by omega)]
theorem take_mid {α : Type} (pre : List α) (r : List α) : (pre ++ r).take (pre.length : Int).toNat = pre := by simp
theorem areDifferent_l (n : Nat) (hn : n ≤ 1048576) (r : List Int) : ∀ pre : List Int, (pre ++ r).length < 4611686018427387904 → L (fun k => impl_areDifferent.l0 k (n : Int) (pre ++ r) (pre ++ r) ((pre ++ r).length : Int) (pre.length : Int)) = some (diffB n pre r) := by
  induction r with
  | nil =>
    intro pre hb
    rw [L_shift]
    simp only [impl_areDifferent.l0, not_lt_end, if_false, L_const]
    simp [diffB]
  | cons x r ih =>
    intro pre hb
    rw [L_shift]
    have hl : pre.length < 4611686018427387904 := by simp at hb; omega
    have e : ((pre.length : Int) ≤ ((pre ++ x :: r).length : Int)) = True := eq_true (by simp; omega)
    simp only [impl_areDifferent.l0, lt_mid, le_nat, if_true, rd_mid, wrap_mid pre x hl, isNumber_e x (n : Int) (by omega) (by omega), Option.bind_some, e, take_mid, L_ite, L_bind, has_L pre x hl, L_const]
    rw [app_cons pre x r, ih (pre ++ [x]) (by simpa using hb), ite_not_and, ite_and]
    rfl
theorem areDifferent_L (n : Nat) (l : List Int) (hn : n ≤ 1048576) (hl : l.length < 4611686018427387904) : L (fun k => impl_areDifferent.f k (n : Int) l) = some (diffB n [] l) := areDifferent_l n hn l [] (by simpa using hl)
def jobB (j : S41) : Bool := inB j.f0 1 50 && (inB j.f1 0 50 && (inB j.f2 0 500 && inB j.f3 0 500))
def goodB (l : List S41) : Bool := l.all jobB && decide ((l.length : Int) ≤ 8)
structure JobOk (j : S41) : Prop where
  t0 : 1 ≤ j.f0
  t1 : j.f0 ≤ 50
  w0 : 0 ≤ j.f1
  w1 : j.f1 ≤ 50
  r0 : 0 ≤ j.f2
  r1 : j.f2 ≤ 500
  d0 : 0 ≤ j.f3
  d1 : j.f3 ≤ 500
def Good (l : List S41) : Prop := l.length ≤ 8 ∧ ∀ j ∈ l, JobOk j
theorem goodB_iff {l : List S41} : goodB l = true ↔ Good l := by
  simp only [goodB, Good, Bool.and_eq_true, List.all_eq_true, decide_eq_true_eq, jobB, inB_iff]
  constructor
  · rintro ⟨h, hl⟩
    exact ⟨by omega, fun j hj => by
      obtain ⟨⟨a, b⟩, ⟨c, d⟩, ⟨e, f⟩, g, i⟩ := h j hj
      exact ⟨a, b, c, d, e, f, g, i⟩⟩
  · rintro ⟨hl, h⟩
    exact ⟨fun j hj => ⟨⟨(h j hj).t0, (h j hj).t1⟩, ⟨(h j hj).w0, (h j hj).w1⟩, ⟨(h j hj).r0, (h j hj).r1⟩, (h j hj).d0, (h j hj).d1⟩, by omega⟩
theorem l2Job_e (j : S41) : spec_l2Job.f j.f0 j.f1 j.f2 j.f3 = some (jobB j) := by
  simp only [spec_l2Job.f, l1In_e, Option.bind_some, ite_and, jobB]
theorem l2Good_l (r : List S41) : ∀ pre : List S41, (pre ++ r).length < 4611686018427387904 → L (fun k => spec_l2Good.l0 k (pre ++ r) (pre.length : Int)) = some (r.all jobB && decide (((pre ++ r).length : Int) ≤ 8)) := by
  induction r with
  | nil =>
    intro pre hb
    rw [L_shift]
    simp only [spec_l2Good.l0, not_lt_end, if_false, L_const]
    simp
  | cons x r ih =>
    intro pre hb
    rw [L_shift]
    have hl : pre.length < 4611686018427387904 := by simp at hb; omega
    have e : rd_T41 (pre ++ x :: r) (pre.length : Int) = x := getD_mid pre x r _
    simp only [spec_l2Good.l0, lt_mid, le_nat, if_true, e, wrap_mid pre x hl, l2Job_e, Option.bind_some, L_ite, L_const]
    rw [app_cons pre x r, ih (pre ++ [x]) (by simpa using hb), ite_and]
    rw [List.all_cons, Bool.and_assoc]
theorem l2Good_L (l : List S41) (h : l.length < 4611686018427387904) : L (fun k => spec_l2Good.f k l) = some (goodB l) := by
  have := l2Good_l l [] (by simpa using h)
  simpa [goodB, spec_l2Good.f] using this
theorem isDate_e (n : Int) : impl_isDate.f n = some (inB n 0 500) := by
  simp only [impl_isDate.f, within_e, Option.bind_some]
theorem IsJobs_l (r : List S41) : ∀ pre : List S41, (pre ++ r).length < 4611686018427387904 → L (fun k => impl_IsJobs.l0 k (pre ++ r) ((pre ++ r).length : Int) (pre.length : Int)) = some (r.all jobB) := by
  induction r with
  | nil =>
    intro pre hb
    rw [L_shift]
    simp only [impl_IsJobs.l0, not_lt_end, if_false, L_const]
    simp
  | cons x r ih =>
    intro pre hb
    rw [L_shift]
    have hl : pre.length < 4611686018427387904 := by simp at hb; omega
    have e : rd_T41 (pre ++ x :: r) (pre.length : Int) = x := getD_mid pre x r _
    simp only [impl_IsJobs.l0, lt_mid, le_nat, if_true, e, wrap_mid pre x hl, within_e, isDate_e, Option.bind_some, L_ite, L_const]
    rw [app_cons pre x r, ih (pre ++ [x]) (by simpa using hb)]
    simp only [ite_and, List.all_cons, jobB, Bool.and_assoc]
theorem IsJobs_L (l : List S41) (h : l.length < 4611686018427387904) : L (fun k => impl_IsJobs.f k l) = some (goodB l) := by
  have := IsJobs_l l [] (by simpa using h)
  simp only [List.nil_append, List.length_nil, Int.natCast_zero] at this
  simp only [impl_IsJobs.f, L_ite, L_const, this, goodB]
  by_cases h8 : (l.length : Int) ≤ 8
  · rw [if_neg (by omega)]
    simp [h8]
  · rw [if_pos (by omega)]
    simp [h8]
def jobAt (l : List S41) (x : Int) : S41 := l.getD x.toNat z41
theorem jobAt_mem {l : List S41} {x : Int} (h0 : 0 ≤ x) (h1 : x < l.length) : jobAt l x ∈ l := by
  unfold jobAt
  rw [List.getD_eq_getElem?_getD, List.getElem?_eq_getElem (by omega)]
  exact List.getElem_mem _
/-- The ends, put into out by the jobs' numbers. -/
def endsF (l : List S41) : List Int → List Int → Int → List Int
  | [], out, _ => out
  | x :: r, out, now => endsF l r (out.set x.toNat (max now (jobAt l x).f2 + (jobAt l x).f0)) (max now (jobAt l x).f2 + (jobAt l x).f0)
def startsF (l : List S41) : List Int → List Int → Int → List Int
  | [], out, _ => out
  | x :: r, out, now => startsF l r (out.set x.toNat (max now (jobAt l x).f2)) (max now (jobAt l x).f2 + (jobAt l x).f0)
def endsP (l : List S41) (o : List Int) : List Int := endsF l o (List.replicate l.length 0) 0
def startsP (l : List S41) (o : List Int) : List Int := startsF l o (List.replicate l.length 0) 0
def plainB (l : List S41) : Bool := l.all (fun j => decide (j.f2 = 0))
theorem isPlain_l (r : List S41) : ∀ pre : List S41, (pre ++ r).length < 4611686018427387904 → L (fun k => impl_isPlain.l0 k (pre ++ r) ((pre ++ r).length : Int) (pre.length : Int)) = some (plainB r) := by
  induction r with
  | nil =>
    intro pre hb
    rw [L_shift]
    simp only [impl_isPlain.l0, not_lt_end, if_false, L_const]
    rfl
  | cons x r ih =>
    intro pre hb
    rw [L_shift]
    have hl : pre.length < 4611686018427387904 := by simp at hb; omega
    have e : rd_T41 (pre ++ x :: r) (pre.length : Int) = x := getD_mid pre x r _
    simp only [impl_isPlain.l0, lt_mid, le_nat, if_true, e, wrap_mid pre x hl, L_ite, L_const]
    rw [app_cons pre x r, ih (pre ++ [x]) (by simpa using hb)]
    by_cases h : x.f2 = 0 <;> simp [h, plainB]
theorem isPlain_L (l : List S41) (h : l.length < 4611686018427387904) : L (fun k => impl_isPlain.f k l) = some (plainB l) := by
  have := isPlain_l l [] (by simpa using h)
  simpa [impl_isPlain.f] using this
theorem IsPlain_L (l : List S41) (h : l.length < 4611686018427387904) : L (fun k => impl_IsPlain.f k l) = some (goodB l && plainB l) := by
  simp only [impl_IsPlain.f, bind_self, L_bind, IsJobs_L l h, Option.bind_some, L_ite, isPlain_L l h, L_const, ite_and]
theorem l4Free_l (r : List S41) : ∀ pre : List S41, (pre ++ r).length < 4611686018427387904 → L (fun k => spec_l4Free.l0 k (pre ++ r) (pre.length : Int)) = some (r.all (fun j => decide (j.f2 ≤ 0))) := by
  induction r with
  | nil =>
    intro pre hb
    rw [L_shift]
    simp only [spec_l4Free.l0, not_lt_end, if_false, L_const]
    rfl
  | cons x r ih =>
    intro pre hb
    rw [L_shift]
    have hl : pre.length < 4611686018427387904 := by simp at hb; omega
    have e : rd_T41 (pre ++ x :: r) (pre.length : Int) = x := getD_mid pre x r _
    simp only [spec_l4Free.l0, lt_mid, le_nat, if_true, e, wrap_mid pre x hl, L_ite, L_const]
    rw [app_cons pre x r, ih (pre ++ [x]) (by simpa using hb)]
    by_cases h : x.f2 > 0
    · have h2 : ¬ x.f2 ≤ 0 := by omega
      simp [h, h2]
    · have h2 : x.f2 ≤ 0 := by omega
      simp [h, h2]
theorem l6Good_L (l : List S41) (h : l.length < 4611686018427387904) : L (fun k => spec_l6Good.f k l) = some (goodB l && plainB l) := by
  have h4 := l4Free_l l [] (by simpa using h)
  simp only [List.nil_append, List.length_nil, Int.natCast_zero] at h4
  simp only [spec_l6Good.f, spec_l4Free.f, bind_self, L_bind, l2Good_L l h, Option.bind_some, L_ite, L_const]
  rw [h4, ite_and]
  congr 1
  cases hg : goodB l with
  | false => rfl
  | true =>
    have hg2 := (goodB_iff.1 hg).2
    simp only [Bool.true_and]
    rw [Bool.eq_iff_iff]
    simp only [plainB, List.all_eq_true, decide_eq_true_eq]
    constructor
    · intro h5 j hj
      have := h5 j hj
      have := (hg2 j hj).r0
      omega
    · intro h5 j hj
      have := h5 j hj
      omega
/-- Rising from y on. -/
def riseB : Int → List Int → Bool
  | _, [] => true
  | y, x :: r => decide (y < x) && riseB x r
def risesB : List Int → Bool
  | [] => true
  | x :: r => riseB x r
/-- A set of numbers of n things. -/
def setB (n : Nat) (l : List Int) : Bool := risesB l && l.all (fun x => inB x 0 ((n : Int) - 1))
theorem riseB_all : ∀ (y : Int) (r : List Int), riseB y r = true → (∀ x ∈ r, y < x) ∧ r.Nodup
  | y, [], _ => by simp
  | y, x :: r, h => by
    simp only [riseB, Bool.and_eq_true, decide_eq_true_eq] at h
    obtain ⟨h1, h2⟩ := riseB_all x r h.2
    refine ⟨?_, List.nodup_cons.2 ⟨fun hx => by have := h1 x hx; omega, h2⟩⟩
    intro z hz
    rcases List.mem_cons.1 hz with rfl | hz
    · exact h.1
    · have := h1 z hz
      omega
theorem risesB_nodup : ∀ l : List Int, risesB l = true → l.Nodup
  | [], _ => by simp
  | x :: r, h => by
    obtain ⟨h1, h2⟩ := riseB_all x r h
    exact List.nodup_cons.2 ⟨fun hx => by have := h1 x hx; omega, h2⟩
theorem setB_range {n : Nat} {l : List Int} (h : setB n l = true) : ∀ x ∈ l, 0 ≤ x ∧ x < n := by
  simp only [setB, Bool.and_eq_true, List.all_eq_true, inB_iff] at h
  intro x hx
  have := h.2 x hx
  omega
theorem setB_diff (n : Nat) (l : List Int) : (risesB l && diffB (n : Int) [] l) = setB n l := by
  unfold setB
  cases h : risesB l with
  | false => rfl
  | true =>
    simp only [Bool.true_and]
    rw [Bool.eq_iff_iff, diffB_iff]
    simp only [List.all_eq_true, inB_iff]
    constructor
    · intro h2 x hx
      have := h2.1 x hx
      omega
    · intro h2
      exact ⟨fun x hx => by have := h2 x hx; omega, risesB_nodup l h, by simp⟩
theorem last_idx {α : Type} (pre : List α) (y : α) (h : pre.length < 4611686018427387904) : wrap64 (((pre ++ [y]).length : Int) - 1) = (pre.length : Int) := by
  have e : ((pre ++ [y]).length : Int) = (pre.length : Int) + 1 := by simp
  rw [e, wrap_id (by omega) (by omega)]
  omega
theorem app_two {α : Type} (pre : List α) (y x : α) (r : List α) : pre ++ [y] ++ x :: r = pre ++ y :: x :: r := by simp
theorem lt_mid2 {α : Type} (pre : List α) (x y : α) (r : List α) : ((pre.length : Int) < ((pre ++ [x] ++ y :: r).length : Int)) = True := eq_true (by simp only [List.length_append, List.length_cons, List.length_nil]; omega)
theorem isRising_l (r : List Int) : ∀ (pre : List Int) (y : Int), (pre ++ [y] ++ r).length < 4611686018427387904 → L (fun k => impl_isRising.l0 k (pre ++ [y] ++ r) ((pre ++ [y]).length : Int)) = some (riseB y r) := by
  induction r with
  | nil =>
    intro pre y hb
    rw [L_shift]
    simp only [impl_isRising.l0, not_lt_end, if_false, L_const]
    rfl
  | cons x r ih =>
    intro pre y hb
    rw [L_shift]
    have hl : pre.length < 4611686018427387904 := by simp at hb; omega
    have hl2 : (pre ++ [y]).length < 4611686018427387904 := by simp at hb ⊢; omega
    have e : rd (pre ++ [y] ++ x :: r) (pre.length : Int) = y := by rw [app_two]; exact rd_mid pre y (x :: r)
    simp only [impl_isRising.l0, lt_mid, lt_mid2, le_nat, last_idx pre y hl, if_true, rd_mid, e, wrap_mid _ x hl2, L_ite, L_const]
    rw [app_cons (pre ++ [y]) x r, ih (pre ++ [y]) x (by simpa using hb)]
    by_cases h : y < x
    · rw [if_neg (by omega)]
      simp [riseB, h]
    · rw [if_pos (by omega)]
      simp [riseB, h]
theorem isRising_L (l : List Int) (h : l.length < 4611686018427387904) : L (fun k => impl_isRising.f k l) = some (risesB l) := by
  simp only [impl_isRising.f]
  cases l with
  | nil =>
    rw [L_shift]
    simp only [impl_isRising.l0, List.length_nil, if_neg (show ¬ ((1 : Int) < ((0 : Nat) : Int)) by omega), L_const]
    rfl
  | cons x r => exact isRising_l r [] x (by simpa using h)
theorem isSet_L (n : Nat) (l : List Int) (hn : n ≤ 1048576) (hl : l.length < 4611686018427387904) : L (fun k => impl_isSet.f k (n : Int) l) = some (setB n l) := by
  simp only [impl_isSet.f, bind_self, L_bind, isRising_L l hl, Option.bind_some, L_ite, areDifferent_L n l hn hl, L_const, ite_and, setB_diff]
theorem l1Rising_l (lo hi : Int) (r : List Int) : ∀ (pre : List Int) (y : Int), (pre ++ [y] ++ r).length < 4611686018427387904 → L (fun k => spec_l1Rising.l0 k (pre ++ [y] ++ r) lo hi ((pre ++ [y]).length : Int)) = some (riseB y r && r.all (fun x => inB x lo hi)) := by
  induction r with
  | nil =>
    intro pre y hb
    rw [L_shift]
    simp only [spec_l1Rising.l0, not_lt_end, if_false, L_const]
    rfl
  | cons x r ih =>
    intro pre y hb
    rw [L_shift]
    have hl : pre.length < 4611686018427387904 := by simp at hb; omega
    have hl2 : (pre ++ [y]).length < 4611686018427387904 := by simp at hb ⊢; omega
    have e : rd (pre ++ [y] ++ x :: r) (pre.length : Int) = y := by rw [app_two]; exact rd_mid pre y (x :: r)
    have e3 : (((pre ++ [y]).length : Int) > 0) = True := eq_true (by simp only [List.length_append, List.length_cons, List.length_nil]; omega)
    simp only [spec_l1Rising.l0, lt_mid, lt_mid2, le_nat, last_idx pre y hl, if_true, rd_mid, e, e3, wrap_mid _ x hl2, l1In_e, Option.bind_some, L_ite, L_const]
    rw [app_cons (pre ++ [y]) x r, ih (pre ++ [y]) x (by simpa using hb)]
    simp only [riseB, List.all_cons]
    generalize r.all (fun x => inB x lo hi) = A
    generalize riseB x r = B
    by_cases h : y < x
    · rw [if_neg (show ¬ (y ≥ x) by omega)]
      cases inB x lo hi <;> cases A <;> cases B <;> simp [h]
    · rw [if_pos (show y ≥ x by omega)]
      cases inB x lo hi <;> simp [h]
theorem l1Rising_L (l : List Int) (lo hi : Int) (h : l.length < 4611686018427387904) : L (fun k => spec_l1Rising.f k l lo hi) = some (risesB l && l.all (fun x => inB x lo hi)) := by
  simp only [spec_l1Rising.f]
  cases l with
  | nil =>
    rw [L_shift]
    simp only [spec_l1Rising.l0, List.length_nil, Int.natCast_zero, Int.lt_irrefl, if_false, L_const]
    rfl
  | cons x r =>
    rw [L_shift]
    have := l1Rising_l lo hi r [] x (by simpa using h)
    simp only [List.nil_append, List.singleton_append, List.length_singleton, Int.natCast_one] at this
    have e : rd (x :: r) 0 = x := rfl
    have e2 : ((0 : Int) < ((x :: r).length : Int)) = True := eq_true (by simp only [List.length_append, List.length_cons, List.length_nil]; omega)
    have e3 : wrap64 ((0 : Int) + 1) = 1 := (wrap_id (by omega) (by omega)).trans (by omega)
    simp only [spec_l1Rising.l0, e2, Int.le_refl, if_true, e, e3, l1In_e, Option.bind_some, show ¬ ((0 : Int) > 0) by omega, if_false, L_ite, L_const, this]
    simp only [risesB, List.all_cons]
    generalize r.all (fun x => inB x lo hi) = A
    generalize riseB x r = B
    cases inB x lo hi <;> cases A <;> cases B <;> simp
theorem l6Set_L (l : List S41) (s : List Int) (hn : l.length ≤ 1048576) (hl : s.length < 4611686018427387904) : L (fun k => spec_l6Set.f k l s) = some (setB l.length s) := by
  simp only [spec_l6Set.f, bind_self]
  rw [wrap_id (show -9223372036854775808 ≤ (l.length : Int) - 1 by omega) (by omega)]
  exact l1Rising_L s 0 _ hl
theorem insK_spec (p : Int → Int → Option Bool) (q : Int → Int → Bool) (x : Int) (out : List Int) (hp : ∀ y ∈ out, p x y = some (q x y)) : ∀ n, n ≤ out.length → ∃ k, k ≤ n ∧ impl_sortedBy.insK p x out n = some k ∧ (∀ j, k ≤ j → j < n → q x (out.getD j 0) = true) ∧ (0 < k → q x (out.getD (k - 1) 0) = false)
  | 0, _ => ⟨0, Nat.le_refl _, rfl, fun j h1 h2 => absurd h2 (by omega), fun h => absurd h (by omega)⟩
  | n + 1, hn => by
    have e : rd out (n : Int) = out.getD n 0 := by simp [rd]
    have hm : out.getD n 0 ∈ out := by
      rw [List.getD_eq_getElem?_getD, List.getElem?_eq_getElem (by omega)]
      exact List.getElem_mem _
    simp only [impl_sortedBy.insK, e, hp _ hm, Option.bind_some]
    by_cases hq : q x (out.getD n 0) = true
    · rw [if_pos hq]
      obtain ⟨k, h1, h2, h3, h4⟩ := insK_spec p q x out hp n (by omega)
      refine ⟨k, by omega, h2, fun j h5 h6 => ?_, h4⟩
      by_cases hj : j = n
      · subst hj; exact hq
      · exact h3 j h5 (by omega)
    · rw [if_neg hq]
      refine ⟨n + 1, Nat.le_refl _, rfl, fun j h1 h2 => absurd h2 (by omega), fun _ => ?_⟩
      simpa using hq
theorem insL_perm (out : List Int) (k : Nat) (x : Int) : (impl_sortedBy.insL out k x).Perm (x :: out) := by
  unfold impl_sortedBy.insL
  have h : (out.take k ++ x :: out.drop k).Perm (x :: (out.take k ++ out.drop k)) := List.perm_middle
  rwa [List.take_append_drop] at h
/-- Stable insertion keeps a row in order (no later one is ahead of an earlier one). -/
theorem insL_sorted (q : Int → Int → Bool) (tr : ∀ a b c, q b a = false → q c b = false → q c a = false) (asy : ∀ a b, q a b = true → q b a = false) (x : Int) (out : List Int) (k : Nat) (hk : k ≤ out.length) (hs : out.Pairwise (fun a b => q b a = false))
    (h1 : ∀ j, k ≤ j → j < out.length → q x (out.getD j 0) = true) (h2 : 0 < k → q x (out.getD (k - 1) 0) = false) : (impl_sortedBy.insL out k x).Pairwise (fun a b => q b a = false) := by
  unfold impl_sortedBy.insL
  have hs2 := hs
  rw [← List.take_append_drop k out] at hs2
  obtain ⟨ha, hb, hab⟩ := List.pairwise_append.1 hs2
  have hL : ∀ a ∈ out.take k, q x a = false := by
    intro a hm
    obtain ⟨i, hi, rfl⟩ := List.getElem_of_mem hm
    have hi' : i < k := by rw [List.length_take] at hi; omega
    have hz := h2 (by omega)
    rw [List.getElem_take]
    by_cases he : i = k - 1
    · subst he
      rw [List.getD_eq_getElem?_getD, List.getElem?_eq_getElem (by omega)] at hz
      simpa using hz
    · have hr := (List.pairwise_iff_getElem.1 hs) i (k - 1) (by omega) (by omega) (by omega)
      rw [List.getD_eq_getElem?_getD, List.getElem?_eq_getElem (show k - 1 < out.length by omega)] at hz
      exact tr _ _ _ hr (by simpa using hz)
  have hR : ∀ b ∈ out.drop k, q b x = false := by
    intro b hm
    obtain ⟨i, hi, rfl⟩ := List.getElem_of_mem hm
    have hi' : k + i < out.length := by rw [List.length_drop] at hi; omega
    rw [List.getElem_drop]
    have hz := h1 (k + i) (by omega) hi'
    rw [List.getD_eq_getElem?_getD, List.getElem?_eq_getElem hi'] at hz
    exact asy _ _ (by simpa using hz)
  refine List.pairwise_append.2 ⟨ha, List.pairwise_cons.2 ⟨hR, hb⟩, ?_⟩
  intro a hm b hmb
  rcases List.mem_cons.1 hmb with rfl | hmb
  · exact hL a hm
  · exact hab a hm b hmb
theorem nodup_bd : ∀ (n : Nat) (x : List Int), x.Nodup → (∀ a ∈ x, 0 ≤ a ∧ a < (n : Int)) → x.length ≤ n
  | 0, x, _, h => by
    cases x with
    | nil => exact Nat.le_refl _
    | cons a x => have := h a List.mem_cons_self; omega
  | n + 1, x, hn, h => by
    by_cases hm : (n : Int) ∈ x
    · have hp := List.perm_cons_erase hm
      have hn2 := List.nodup_cons.1 (hp.nodup_iff.1 hn)
      have ih := nodup_bd n (x.erase (n : Int)) hn2.2 (fun a ha => by
        have h1 := h a (List.mem_of_mem_erase ha)
        have h2 : a ≠ (n : Int) := fun e => by rw [e] at ha; exact hn2.1 ha
        omega)
      have := hp.length_eq
      simp only [List.length_cons] at this
      omega
    · have ih := nodup_bd n x hn (fun a ha => by
        have h1 := h a ha
        have h2 : a ≠ (n : Int) := fun e => by rw [e] at ha; exact hm ha
        omega)
      omega
/-- The same over a rising row: the order asked of a later and an earlier number alone. -/
theorem sortO_asc (p : Int → Int → Option Bool) (q : Int → Int → Bool) (P : Int → Prop) (hp : ∀ a b, P a → P b → b < a → p a b = some (q a b)) (tr : ∀ a b c, q b a = false → q c b = false → q c a = false) (asy : ∀ a b, q a b = true → q b a = false) : ∀ (l out : List Int), l.Pairwise (· < ·) → (∀ x ∈ l, ∀ y ∈ out, y < x) → (∀ x ∈ l, P x) → (∀ x ∈ out, P x) → out.Pairwise (fun a b => q b a = false) →
    ∃ s, impl_sortedBy.sortO p l out = some s ∧ s.Perm (out ++ l) ∧ s.Pairwise (fun a b => q b a = false)
  | [], out, _, _, _, _, hs => ⟨out, rfl, by rw [List.append_nil], hs⟩
  | x :: l, out, ha, hlt, hl, ho, hs => by
    have ha' := List.pairwise_cons.1 ha
    obtain ⟨k, h1, h2, h3, h4⟩ := insK_spec p q x out (fun y hy => hp x y (hl x List.mem_cons_self) (ho y hy) (hlt x List.mem_cons_self y hy)) out.length (Nat.le_refl _)
    have hpm := insL_perm out k x
    obtain ⟨s, e1, e2, e3⟩ := sortO_asc p q P hp tr asy l (impl_sortedBy.insL out k x) ha'.2 (fun z hz y hy => by
      rcases List.mem_cons.1 (hpm.subset hy) with rfl | hy
      · exact ha'.1 z hz
      · exact hlt z (List.mem_cons_of_mem _ hz) y hy) (fun y hy => hl y (List.mem_cons_of_mem _ hy)) (fun y hy => by
      rcases List.mem_cons.1 (hpm.subset hy) with rfl | hy
      · exact hl _ List.mem_cons_self
      · exact ho y hy) (insL_sorted q tr asy x out k h1 hs h3 h4)
    refine ⟨s, ?_, ?_, e3⟩
    · simp only [impl_sortedBy.sortO, h2, Option.bind_some]
      exact e1
    · refine e2.trans ((hpm.append_right l).trans ?_)
      exact (List.perm_middle (l₁ := out) (a := x) (l₂ := l)).symm
/-- Sooner: by date, then by number. -/
def dueQ (l : List S41) (a b : Int) : Bool := decide ((jobAt l a).f3 < (jobAt l b).f3) || (decide ((jobAt l a).f3 = (jobAt l b).f3) && decide (a < b))
theorem dueQ_iff (l : List S41) (a b : Int) : dueQ l a b = true ↔ (jobAt l a).f3 < (jobAt l b).f3 ∨ ((jobAt l a).f3 = (jobAt l b).f3 ∧ a < b) := by
  simp [dueQ]
theorem dueQ_false (l : List S41) (a b : Int) : dueQ l a b = false ↔ ¬ ((jobAt l a).f3 < (jobAt l b).f3 ∨ ((jobAt l a).f3 = (jobAt l b).f3 ∧ a < b)) := by
  rw [← dueQ_iff]
  simp
theorem dueQ_tr (l : List S41) (a b c : Int) (h1 : dueQ l b a = false) (h2 : dueQ l c b = false) : dueQ l c a = false := by
  rw [dueQ_false] at *
  omega
theorem dueQ_asy (l : List S41) (a b : Int) (h : dueQ l a b = true) : dueQ l b a = false := by
  rw [dueQ_false]
  rw [dueQ_iff] at h
  omega
/-- Whether no job of an order is late that starts at t. -/
def timF (l : List S41) : Int → List Int → Bool
  | _, [] => true
  | t, x :: r => decide (t + (jobAt l x).f0 ≤ (jobAt l x).f3) && timF l (t + (jobAt l x).f0) r
def sumD (l : List S41) (d : Int) : List Int → Int
  | [] => 0
  | x :: r => (if (jobAt l x).f3 ≤ d then (jobAt l x).f0 else 0) + sumD l d r
theorem sumD_perm (l : List S41) (d : Int) : ∀ {s t : List Int}, s.Perm t → sumD l d s = sumD l d t := by
  intro s t h
  induction h with
  | nil => rfl
  | cons x _ ih => simp only [sumD, ih]
  | swap x y r => simp only [sumD]; omega
  | trans _ _ h1 h2 => exact h1.trans h2
theorem sumD_nn (l : List S41) (d : Int) : ∀ (s : List Int), (∀ x ∈ s, 0 ≤ (jobAt l x).f0) → 0 ≤ sumD l d s
  | [], _ => Int.le_refl _
  | x :: r, h => by
    have h1 := sumD_nn l d r (fun y hy => h y (List.mem_cons_of_mem _ hy))
    have h2 := h x List.mem_cons_self
    simp only [sumD]
    split <;> omega
theorem sumD_none (l : List S41) (d : Int) : ∀ (s : List Int), (∀ x ∈ s, d < (jobAt l x).f3) → sumD l d s = 0
  | [], _ => rfl
  | x :: r, h => by
    have h1 := sumD_none l d r (fun y hy => h y (List.mem_cons_of_mem _ hy))
    have h2 := h x List.mem_cons_self
    simp only [sumD, h1, if_neg (show ¬ (jobAt l x).f3 ≤ d by omega)]
    rfl
/-- Told of the set alone: what is due by any job's date is done by then. -/
theorem timF_iff (l : List S41) : ∀ (s : List Int) (t : Int), (∀ x ∈ s, 0 ≤ (jobAt l x).f0) → s.Pairwise (fun a b => (jobAt l a).f3 ≤ (jobAt l b).f3) → (timF l t s = true ↔ ∀ x ∈ s, t + sumD l (jobAt l x).f3 s ≤ (jobAt l x).f3)
  | [], t, _, _ => by simp [timF]
  | x :: r, t, h0, hs => by
    have hs' := List.pairwise_cons.1 hs
    have h0' : ∀ y ∈ r, 0 ≤ (jobAt l y).f0 := fun y hy => h0 y (List.mem_cons_of_mem _ hy)
    have ih := timF_iff l r (t + (jobAt l x).f0) h0' hs'.2
    have ec : ∀ y ∈ r, sumD l (jobAt l y).f3 (x :: r) = (jobAt l x).f0 + sumD l (jobAt l y).f3 r := fun y hy => by
      simp only [sumD, if_pos (hs'.1 y hy)]
    have ex : sumD l (jobAt l x).f3 (x :: r) = (jobAt l x).f0 + sumD l (jobAt l x).f3 r := by
      simp only [sumD, if_pos (Int.le_refl _)]
    have hnn := sumD_nn l (jobAt l x).f3 r h0'
    simp only [timF, Bool.and_eq_true, decide_eq_true_eq, ih]
    constructor
    · rintro ⟨h1, h2⟩ y hy
      rcases List.mem_cons.1 hy with rfl | hy
      · rw [ex]
        by_cases hz : ∃ z ∈ r, (jobAt l z).f3 ≤ (jobAt l y).f3
        · obtain ⟨z, hz, hd⟩ := hz
          have h3 := h2 z hz
          have h4 := hs'.1 z hz
          have e : (jobAt l z).f3 = (jobAt l y).f3 := by omega
          rw [e] at h3
          omega
        · rw [sumD_none l _ r (fun z hz' => by
            have : ¬ (jobAt l z).f3 ≤ (jobAt l y).f3 := fun h => hz ⟨z, hz', h⟩
            omega)]
          omega
      · have h3 := h2 y hy
        rw [ec y hy]
        omega
    · intro h
      have h1 := h x List.mem_cons_self
      rw [ex] at h1
      refine ⟨by omega, fun y hy => ?_⟩
      have h3 := h y (List.mem_cons_of_mem _ hy)
      rw [ec y hy] at h3
      omega
theorem timF_perm (l : List S41) (t : Int) {s1 s2 : List Int} (hp : s1.Perm s2) (h0 : ∀ x ∈ s1, 0 ≤ (jobAt l x).f0) (o1 : s1.Pairwise (fun a b => (jobAt l a).f3 ≤ (jobAt l b).f3)) (o2 : s2.Pairwise (fun a b => (jobAt l a).f3 ≤ (jobAt l b).f3)) : timF l t s1 = timF l t s2 := by
  rw [Bool.eq_iff_iff, timF_iff l s1 t h0 o1, timF_iff l s2 t (fun x hx => h0 x (hp.symm.subset hx)) o2]
  constructor
  · intro h x hx
    rw [← sumD_perm l _ hp]
    exact h x (hp.symm.subset hx)
  · intro h x hx
    rw [sumD_perm l _ hp]
    exact h x (hp.subset hx)
theorem riseB_asc : ∀ (y : Int) (r : List Int), riseB y r = true → (y :: r).Pairwise (· < ·)
  | y, [], _ => by simp
  | y, x :: r, h => by
    have h1 := riseB_all y (x :: r) h
    simp only [riseB, Bool.and_eq_true] at h
    exact List.pairwise_cons.2 ⟨h1.1, riseB_asc x r (by first | exact h.2 | exact h.1)⟩
theorem setB_asc {n : Nat} {l : List Int} (h : setB n l = true) : l.Pairwise (· < ·) := by
  cases l with
  | nil => exact List.Pairwise.nil
  | cons x r =>
    simp only [setB, Bool.and_eq_true, risesB] at h
    exact riseB_asc x r h.1
theorem ins_sorted (q : Int → Int → Bool) (tr : ∀ a b c, q b a = false → q c b = false → q c a = false) (asy : ∀ a b, q a b = true → q b a = false) (x : Int) (out : List Int) (k : Nat) (hk : k ≤ out.length) (hs : out.Pairwise (fun a b => q b a = false)) (hL : ∀ j, j < k → q (out.getD j 0) x = true) (hR : k < out.length → q (out.getD k 0) x = false) : (out.take k ++ x :: out.drop k).Pairwise (fun a b => q b a = false) := by
  have hs2 := hs
  rw [← List.take_append_drop k out] at hs2
  obtain ⟨ha, hb, hab⟩ := List.pairwise_append.1 hs2
  have hLL : ∀ a ∈ out.take k, q x a = false := by
    intro a hm
    obtain ⟨j, hj, e⟩ := List.mem_take_iff_getElem.1 hm
    have h1 := hL j (by omega)
    rw [List.getD_eq_getElem?_getD, List.getElem?_eq_getElem (by omega), Option.getD_some, e] at h1
    exact asy _ _ h1
  have hRR : ∀ b ∈ out.drop k, q b x = false := by
    intro b hm
    by_cases hkl : k < out.length
    · have h0 := hR hkl
      rw [List.getD_eq_getElem?_getD, List.getElem?_eq_getElem hkl, Option.getD_some] at h0
      rw [List.drop_eq_getElem_cons hkl] at hm hb
      rcases List.mem_cons.1 hm with rfl | hm
      · exact h0
      · exact tr _ _ _ h0 ((List.pairwise_cons.1 hb).1 b hm)
    · rw [List.drop_eq_nil_of_le (by omega)] at hm
      cases hm
  refine List.pairwise_append.2 ⟨ha, List.pairwise_cons.2 ⟨hRR, hb⟩, ?_⟩
  intro a hm b hmb
  rcases List.mem_cons.1 hmb with rfl | hmb
  · exact hLL a hm
  · exact hab a hm b hmb
theorem ins_perm (out : List Int) (k : Nat) (x : Int) : (out.take k ++ x :: out.drop k).Perm (x :: out) := by
  have h : (out.take k ++ x :: out.drop k).Perm (x :: (out.take k ++ out.drop k)) := List.perm_middle
  rwa [List.take_append_drop] at h
/-- Sooner: by date, then by time, then by number. -/
def soonQ (l : List S41) (a b : Int) : Bool := decide ((jobAt l a).f3 < (jobAt l b).f3) || (decide ((jobAt l a).f3 = (jobAt l b).f3) && (decide ((jobAt l a).f0 < (jobAt l b).f0) || (decide ((jobAt l a).f0 = (jobAt l b).f0) && decide (a < b))))
theorem soonQ_iff (l : List S41) (a b : Int) : soonQ l a b = true ↔ (jobAt l a).f3 < (jobAt l b).f3 ∨ ((jobAt l a).f3 = (jobAt l b).f3 ∧ ((jobAt l a).f0 < (jobAt l b).f0 ∨ ((jobAt l a).f0 = (jobAt l b).f0 ∧ a < b))) := by
  simp [soonQ]
theorem soonQ_false (l : List S41) (a b : Int) : soonQ l a b = false ↔ ¬ ((jobAt l a).f3 < (jobAt l b).f3 ∨ ((jobAt l a).f3 = (jobAt l b).f3 ∧ ((jobAt l a).f0 < (jobAt l b).f0 ∨ ((jobAt l a).f0 = (jobAt l b).f0 ∧ a < b)))) := by
  rw [← soonQ_iff]
  simp
theorem soonQ_tr (l : List S41) (a b c : Int) (h1 : soonQ l b a = false) (h2 : soonQ l c b = false) : soonQ l c a = false := by
  rw [soonQ_false] at *
  omega
theorem soonQ_asy (l : List S41) (a b : Int) (h : soonQ l a b = true) : soonQ l b a = false := by
  rw [soonQ_false]
  rw [soonQ_iff] at h
  omega
theorem l6Sooner_e (l : List S41) (a b : Int) (ha : 0 ≤ a ∧ a < (l.length : Int)) (hb : 0 ≤ b ∧ b < (l.length : Int)) : spec_l6Sooner.f l a b = some (soonQ l a b) := by
  have e : ∀ x, rd_T41 l x = jobAt l x := fun _ => rfl
  simp only [spec_l6Sooner.f, if_pos ha.1, if_pos ha.2, if_pos hb.1, if_pos hb.2, e, soonQ]
  by_cases h1 : (jobAt l a).f3 = (jobAt l b).f3
  · by_cases h2 : (jobAt l a).f0 = (jobAt l b).f0
    · simp [h1, h2]
    · simp [h1, h2]
  · simp [h1]
theorem l6pos_spec (l : List S41) (x : Int) (hx : 0 ≤ x ∧ x < (l.length : Int)) : ∀ (out : List Int), (∀ y ∈ out, 0 ≤ y ∧ y < (l.length : Int)) → ∃ k, spec_l6Due.posR l x out = some k ∧ k ≤ out.length ∧ (∀ j, j < k → soonQ l (out.getD j 0) x = true) ∧ (k < out.length → soonQ l (out.getD k 0) x = false)
  | [], _ => ⟨0, rfl, Nat.le_refl _, fun j hj => absurd hj (by omega), fun h => absurd h (by simp)⟩
  | y :: r, ho => by
    obtain ⟨k, h1, h2, h3, h4⟩ := l6pos_spec l x hx r (fun z hz => ho z (List.mem_cons_of_mem _ hz))
    have hy := ho y List.mem_cons_self
    simp only [spec_l6Due.posR, l6Sooner_e l y x hy hx, Option.bind_some, h1, Option.map_some]
    by_cases hq : soonQ l y x = true
    · refine ⟨k + 1, by rw [if_pos hq], by simpa using h2, fun j hj => ?_, fun h => by simpa using h4 (by simpa using h)⟩
      cases j with
      | zero => simpa using hq
      | succ j => simpa using h3 j (by omega)
    · exact ⟨0, by rw [if_neg hq], Nat.zero_le _, fun j hj => absurd hj (by omega), fun _ => by simpa using hq⟩
theorem l6go_spec (l : List S41) : ∀ (rest out : List Int), (∀ y ∈ rest, 0 ≤ y ∧ y < (l.length : Int)) → (∀ y ∈ out, 0 ≤ y ∧ y < (l.length : Int)) → out.Pairwise (fun a b => soonQ l b a = false) → ∃ s, spec_l6Due.go l rest out = some s ∧ s.Perm (out ++ rest) ∧ s.Pairwise (fun a b => soonQ l b a = false)
  | [], out, _, _, hs => ⟨out, rfl, by rw [List.append_nil], hs⟩
  | x :: r, out, hr, ho, hs => by
    have hx := hr x List.mem_cons_self
    obtain ⟨k, h1, h2, h3, h4⟩ := l6pos_spec l x hx out ho
    have hp := ins_perm out k x
    obtain ⟨s, s1, s2, s3⟩ := l6go_spec l r (out.take k ++ x :: out.drop k) (fun y hy => hr y (List.mem_cons_of_mem _ hy)) (fun y hy => by
      rcases List.mem_cons.1 (hp.subset hy) with rfl | hy
      · exact hx
      · exact ho y hy) (ins_sorted (soonQ l) (soonQ_tr l) (soonQ_asy l) x out k h2 hs h3 h4)
    refine ⟨s, by simp only [spec_l6Due.go, h1, Option.bind_some]; exact s1, ?_, s3⟩
    refine s2.trans ((hp.append_right r).trans ?_)
    exact (List.perm_middle (l₁ := out) (a := x) (l₂ := r)).symm
theorem l6Due_e (l : List S41) (s : List Int) (hs : ∀ y ∈ s, 0 ≤ y ∧ y < (l.length : Int)) (hl : s.length ≤ 1000000) : ∃ o, spec_l6Due.f l s = some o ∧ o.Perm s ∧ o.Pairwise (fun a b => soonQ l b a = false) := by
  obtain ⟨o, h1, h2, h3⟩ := l6go_spec l s [] hs (by simp) List.Pairwise.nil
  exact ⟨o, by rw [spec_l6Due.f, if_pos hl]; exact h1, by simpa using h2, h3⟩
theorem l6Timely_l (l : List S41) (hg : Good l) : ∀ (r pre : List Int) (t : Int), (∀ x ∈ r, 0 ≤ x ∧ x < (l.length : Int)) → (pre ++ r).length ≤ 1000000 → 0 ≤ t → t + 50 * (r.length : Int) ≤ 1000000000 → L (fun k => spec_l6Timely.l0 k l (pre ++ r) t (pre.length : Int)) = some (timF l t r)
  | [], pre, t, hr, hl, h0, h1 => by
    rw [L_shift]
    simp only [spec_l6Timely.l0, not_lt_end, if_false, L_const, timF]
  | x :: r, pre, t, hr, hl, h0, h1 => by
    rw [L_shift]
    have hx := hr x List.mem_cons_self
    have hj := hg.2 _ (jobAt_mem hx.1 hx.2)
    have t0 := hj.t0
    have t1 := hj.t1
    have e : rd (pre ++ x :: r) (pre.length : Int) = x := getD_mid pre x r _
    have ej : rd_T41 l x = jobAt l x := rfl
    have hp : pre.length < 4611686018427387904 := by simp at hl; omega
    simp only [List.length_cons] at h1
    have ih := l6Timely_l l hg r (pre ++ [x]) (t + (jobAt l x).f0) (fun y hy => hr y (List.mem_cons_of_mem _ hy)) (by simpa using hl) (by omega) (by omega)
    simp only [spec_l6Timely.l0, lt_mid, le_nat, if_true, e, if_pos hx.1, if_pos hx.2, ej, wrap_id (show -9223372036854775808 ≤ t + (jobAt l x).f0 by omega) (show t + (jobAt l x).f0 ≤ 9223372036854775807 by omega), wrap_mid pre x hp, L_ite, L_const]
    rw [app_cons pre x r, ih, timF]
    by_cases hd : t + (jobAt l x).f0 > (jobAt l x).f3
    · rw [if_pos hd, decide_eq_false (by omega), Bool.false_and]
    · rw [if_neg hd, decide_eq_true (by omega), Bool.true_and]
theorem onTime_go (l : List S41) (hg : Good l) : ∀ (r : List Int) (t : Int), (∀ x ∈ r, 0 ≤ x ∧ x < (l.length : Int)) → 0 ≤ t → t + 50 * (r.length : Int) ≤ 1000000000 → impl_onTime.go l r t = some (timF l t r)
  | [], t, _, _, _ => rfl
  | x :: r, t, hr, h0, h1 => by
    have hx := hr x List.mem_cons_self
    have hj := hg.2 _ (jobAt_mem hx.1 hx.2)
    have t0 := hj.t0
    have t1 := hj.t1
    have ej : rd_T41 l x = jobAt l x := rfl
    simp only [List.length_cons] at h1
    have ih := onTime_go l hg r (t + (jobAt l x).f0) (fun y hy => hr y (List.mem_cons_of_mem _ hy)) (by omega) (by omega)
    rw [impl_onTime.go, if_pos hx, ej, wrap_id (show -9223372036854775808 ≤ t + (jobAt l x).f0 by omega) (show t + (jobAt l x).f0 ≤ 9223372036854775807 by omega), ih, timF]
    by_cases hd : t + (jobAt l x).f0 > (jobAt l x).f3
    · rw [if_pos hd, decide_eq_false (by omega), Bool.false_and]
    · rw [if_neg hd, decide_eq_true (by omega), Bool.true_and]
/-- The set in the order of its dates: whether none is late, told by the reference and by the program. -/
theorem timely_both (l : List S41) (hg : Good l) (s : List Int) (hs : ∀ y ∈ s, 0 ≤ y ∧ y < (l.length : Int)) (ha : s.Pairwise (· < ·)) (hl : s.length ≤ 1000) : ∃ b, L (fun k => spec_l6Timely.f k l s) = some b ∧ impl_onTime.f l s = some b := by
  obtain ⟨o, h1, h2, h3⟩ := l6Due_e l s hs (by omega)
  have e : ∀ x, rd_T41 l x = jobAt l x := fun _ => rfl
  obtain ⟨t, t1, t2, t3⟩ := sortO_asc (impl_onTime_1.p l) (dueQ l) (fun x => 0 ≤ x ∧ x < (l.length : Int)) (fun a b ha hb hba => by
    rw [impl_onTime_1.p, if_pos ⟨ha.1, ha.2, hb.1, hb.2⟩, e, e, dueQ, decide_eq_false (show ¬ a < b by omega), Bool.and_false, Bool.or_false]) (dueQ_tr l) (dueQ_asy l) s [] ha (by simp) hs (by simp) List.Pairwise.nil
  have t2' : t.Perm s := by simpa using t2
  have ho : ∀ y ∈ o, 0 ≤ y ∧ y < (l.length : Int) := fun y hy => hs y (h2.subset hy)
  have ht : ∀ y ∈ t, 0 ≤ y ∧ y < (l.length : Int) := fun y hy => hs y (t2'.subset hy)
  have lo := h2.length_eq
  have lt := t2'.length_eq
  have g1 := l6Timely_l l hg o [] 0 ho (by simp; omega) (by omega) (by omega)
  have g2 := onTime_go l hg t 0 ht (by omega) (by omega)
  simp only [List.nil_append, List.length_nil, Int.natCast_zero] at g1
  have hsame : timF l 0 o = timF l 0 t := timF_perm l 0 (h2.trans t2'.symm) (fun x hx => by
    have := (hg.2 _ (jobAt_mem (ho x hx).1 (ho x hx).2)).t0
    omega) (h3.imp (fun h => by rw [soonQ_false] at h; omega)) (t3.imp (fun h => by rw [dueQ_false] at h; omega))
  refine ⟨timF l 0 o, ?_, ?_⟩
  · simp only [spec_l6Timely.f, h1, Option.bind_some, g1]
  · rw [impl_onTime.f, if_pos (by omega), t1, Option.bind_some, g2, hsame]
theorem ins_asc (x : Int) (out : List Int) (k : Nat) (hk : k ≤ out.length) (ha : out.Pairwise (· < ·)) (hx : x ∉ out) (hL : ∀ j, j < k → out.getD j 0 < x) (hR : k < out.length → ¬ out.getD k 0 < x) : (out.take k ++ x :: out.drop k).Pairwise (· < ·) := by
  have h1 := ins_sorted (fun a b => decide (a < b)) (fun a b c h1 h2 => by simp only [decide_eq_false_iff_not] at *; omega) (fun a b h => by simp only [decide_eq_false_iff_not, decide_eq_true_eq] at *; omega) x out k hk (ha.imp (fun h => by simp only [decide_eq_false_iff_not]; omega)) (fun j hj => by simpa using hL j hj) (fun h => by simpa using hR h)
  have hn : (x :: out).Nodup := List.nodup_cons.2 ⟨hx, ha.imp (fun h => by omega)⟩
  have h2 : (out.take k ++ x :: out.drop k).Nodup := (ins_perm out k x).nodup_iff.2 hn
  exact (h1.and h2).imp (fun h => by
    have h3 := h.1
    have h4 := h.2
    simp only [decide_eq_false_iff_not] at h3
    omega)
theorem posR_len (x : Int) : ∀ r : List Int, spec_l1Put.posR x r ≤ r.length
  | [] => Nat.le_refl _
  | y :: r => by
    rw [spec_l1Put.posR]
    have := posR_len x r
    split
    · simp; omega
    · simp
theorem posR_l1 (x : Int) : ∀ out : List Int, (∀ j, j < spec_l1Put.posR x out → out.getD j 0 < x) ∧ (spec_l1Put.posR x out < out.length → ¬ out.getD (spec_l1Put.posR x out) 0 < x)
  | [] => ⟨fun j hj => absurd hj (by simp [spec_l1Put.posR]), fun h => absurd h (by simp)⟩
  | y :: r => by
    obtain ⟨h1, h2⟩ := posR_l1 x r
    rw [spec_l1Put.posR]
    by_cases hy : y < x
    · rw [if_pos hy]
      refine ⟨fun j hj => ?_, fun h => ?_⟩
      · cases j with
        | zero => simpa using hy
        | succ j => simpa using h1 j (by omega)
      · have := h2 (by simpa using h)
        simpa using this
    · rw [if_neg hy]
      exact ⟨fun j hj => absurd hj (by omega), fun _ => by simpa using hy⟩
theorem l1Put_e (s : List Int) (x : Int) (ha : s.Pairwise (· < ·)) (hx : x ∉ s) (hl : s.length ≤ 1000000) : ∃ t, spec_l1Put.f s x = some t ∧ t.Perm (x :: s) ∧ t.Pairwise (· < ·) := by
  obtain ⟨a1, a2⟩ := posR_l1 x s
  exact ⟨_, by rw [spec_l1Put.f, if_neg hx, if_pos hl], ins_perm s _ x, ins_asc x s _ (posR_len x s) ha hx a1 a2⟩
def unitB (l : List S41) : Bool := l.all (fun j => decide (j.f0 = 1))
theorem l10Unit_l : ∀ (r pre : List S41), (pre ++ r).length ≤ 1048576 → L (fun k => spec_l10Unit.l0 k (pre ++ r) (pre.length : Int)) = some (unitB r && (goodB (pre ++ r) && plainB (pre ++ r)))
  | [], pre, hl => by
    rw [L_shift]
    simp only [spec_l10Unit.l0, not_lt_end, if_false, L_bind, l6Good_L (pre ++ []) (by omega), Option.bind_some, L_const]
    simp [unitB]
  | y :: r, pre, hl => by
    rw [L_shift]
    have e : rd_T41 (pre ++ y :: r) (pre.length : Int) = y := getD_mid pre y r _
    have hp2 : pre.length < 4611686018427387904 := by simp at hl; omega
    have ih := l10Unit_l r (pre ++ [y]) (by simpa using hl)
    rw [← app_cons pre y r] at ih
    simp only [spec_l10Unit.l0, lt_mid, le_nat, if_true, e, wrap_mid pre y hp2, L_ite, L_const, ih]
    have eu : unitB (y :: r) = (decide (y.f0 = 1) && unitB r) := rfl
    rw [eu]
    by_cases hx : y.f0 = 1
    · rw [if_pos hx, decide_eq_true hx, Bool.true_and]
    · rw [if_neg hx, decide_eq_false hx, Bool.false_and, Bool.false_and]
theorem l10Unit_L (l : List S41) (h : l.length ≤ 1048576) : L (fun k => spec_l10Unit.f k l) = some (unitB l && (goodB l && plainB l)) := by
  have := l10Unit_l l [] (by simpa using h)
  simpa [spec_l10Unit.f] using this
theorem areUnit_l : ∀ (r pre : List S41), (pre ++ r).length ≤ 1048576 → L (fun k => impl_areUnit.l0 k (pre ++ r) ((pre ++ r).length : Int) (pre.length : Int)) = some (unitB r)
  | [], pre, hl => by
    rw [L_shift]
    simp only [impl_areUnit.l0, not_lt_end, if_false, L_const]
    simp [unitB]
  | y :: r, pre, hl => by
    rw [L_shift]
    have e : rd_T41 (pre ++ y :: r) (pre.length : Int) = y := getD_mid pre y r _
    have hp2 : pre.length < 4611686018427387904 := by simp at hl; omega
    have ih := areUnit_l r (pre ++ [y]) (by simpa using hl)
    rw [← app_cons pre y r] at ih
    simp only [impl_areUnit.l0, lt_mid, le_nat, if_true, e, wrap_mid pre y hp2, L_ite, L_const, ih]
    have eu : unitB (y :: r) = (decide (y.f0 = 1) && unitB r) := rfl
    rw [eu]
    by_cases hx : y.f0 = 1
    · rw [if_pos hx, decide_eq_true hx, Bool.true_and]
    · rw [if_neg hx, decide_eq_false hx, Bool.false_and]
theorem areUnit_L (l : List S41) (h : l.length ≤ 1048576) : L (fun k => impl_areUnit.f k l) = some (goodB l && plainB l && unitB l) := by
  have := areUnit_l l [] (by simpa using h)
  simp only [List.nil_append, List.length_nil, Int.natCast_zero] at this
  simp only [impl_areUnit.f, L_bind, IsPlain_L l (by omega), Option.bind_some, L_ite, L_const, this, ite_and]
/-- How many of a set are due by a date. -/
def dueC (l : List S41) (d : Int) (s : List Int) : Nat := s.countP (fun x => decide ((jobAt l x).f3 ≤ d))
/-- A set of unit jobs can be done in time. -/
def Ind (l : List S41) (s : List Int) : Prop := ∀ x ∈ s, (dueC l (jobAt l x).f3 s : Int) ≤ (jobAt l x).f3
theorem sumD_unit (l : List S41) (d : Int) : ∀ s : List Int, (∀ x ∈ s, (jobAt l x).f0 = 1) → sumD l d s = (dueC l d s : Int)
  | [], _ => rfl
  | x :: r, h => by
    have ih := sumD_unit l d r (fun y hy => h y (List.mem_cons_of_mem _ hy))
    have h1 := h x List.mem_cons_self
    simp only [sumD, ih, dueC, List.countP_cons]
    by_cases hd : (jobAt l x).f3 ≤ d
    · simp only [hd, decide_true, if_true, h1]
      omega
    · simp only [hd, decide_false, Bool.false_eq_true, if_false]
      omega
theorem timely_ind (l : List S41) (hg : Good l) (hu : ∀ j ∈ l, j.f0 = 1) (s : List Int) (hs : ∀ y ∈ s, 0 ≤ y ∧ y < (l.length : Int)) (ha : s.Pairwise (· < ·)) (hl : s.length ≤ 1000) : ∃ b, L (fun k => spec_l6Timely.f k l s) = some b ∧ impl_onTime.f l s = some b ∧ (b = true ↔ Ind l s) := by
  obtain ⟨b, b1, b2⟩ := timely_both l hg s hs ha hl
  refine ⟨b, b1, b2, ?_⟩
  obtain ⟨o, h1, h2, h3⟩ := l6Due_e l s hs (by omega)
  have ho : ∀ y ∈ o, 0 ≤ y ∧ y < (l.length : Int) := fun y hy => hs y (h2.subset hy)
  have lo := h2.length_eq
  have g1 := l6Timely_l l hg o [] 0 ho (by simp; omega) (by omega) (by omega)
  simp only [List.nil_append, List.length_nil, Int.natCast_zero] at g1
  have e : L (fun k => spec_l6Timely.f k l s) = some (timF l 0 o) := by simp only [spec_l6Timely.f, h1, Option.bind_some, g1]
  rw [b1, Option.some.injEq] at e
  have hu1 : ∀ x ∈ o, (jobAt l x).f0 = 1 := fun x hx => hu _ (jobAt_mem (ho x hx).1 (ho x hx).2)
  rw [e, timF_iff l o 0 (fun x hx => by rw [hu1 x hx]; decide) (h3.imp (fun h => by rw [soonQ_false] at h; omega))]
  have ec : ∀ d, sumD l d o = (dueC l d s : Int) := fun d => by
    rw [sumD_unit l d o hu1]
    unfold dueC
    rw [h2.countP_eq]
  constructor
  · intro h x hx
    have := h x (h2.symm.subset hx)
    rw [ec] at this
    omega
  · intro h x hx
    have := h x (h2.subset hx)
    rw [ec]
    omega
theorem nodup_sub : ∀ (a b : List Int), a.Nodup → (∀ x ∈ a, x ∈ b) → a.length ≤ b.length
  | [], b, _, _ => Nat.zero_le _
  | x :: a, b, hn, hs => by
    have hx : x ∈ b := hs x List.mem_cons_self
    have hn' := List.nodup_cons.1 hn
    have h1 := List.length_erase_of_mem hx
    have h2 := nodup_sub a (b.erase x) hn'.2 (fun y hy => (List.mem_erase_of_ne (by rintro rfl; exact hn'.1 hy)).2 (hs y (List.mem_cons_of_mem _ hy)))
    have h3 := List.length_pos_of_mem hx
    simp only [List.length_cons]
    omega
theorem countP_sub (p : Int → Bool) (a b : List Int) (hn : a.Nodup) (hs : ∀ x ∈ a, p x = true → x ∈ b) : a.countP p ≤ b.countP p := by
  rw [List.countP_eq_length_filter, List.countP_eq_length_filter]
  refine nodup_sub _ _ (hn.filter _) (fun x hx => ?_)
  obtain ⟨h1, h2⟩ := List.mem_filter.1 hx
  exact List.mem_filter.2 ⟨hs x h1 h2, h2⟩
theorem Ind_sub {l : List S41} {a b : List Int} (h : Ind l b) (hn : a.Nodup) (hs : ∀ x ∈ a, x ∈ b) : Ind l a := fun x hx => by
  have h1 := h x (hs x hx)
  have h2 := countP_sub (fun y => decide ((jobAt l y).f3 ≤ (jobAt l x).f3)) a b hn (fun y hy _ => hs y hy)
  unfold dueC at *
  omega
theorem max_due (l : List S41) : ∀ (s : List Int), s ≠ [] → ∃ m ∈ s, ∀ y ∈ s, (jobAt l y).f3 ≤ (jobAt l m).f3
  | [], h => absurd rfl h
  | x :: r, _ => by
    by_cases hr : r = []
    · subst hr
      exact ⟨x, by simp, fun y hy => by simp at hy; subst hy; exact Int.le_refl _⟩
    · obtain ⟨m, h1, h2⟩ := max_due l r hr
      by_cases hc : (jobAt l x).f3 ≤ (jobAt l m).f3
      · refine ⟨m, List.mem_cons_of_mem _ h1, fun y hy => ?_⟩
        rcases List.mem_cons.1 hy with rfl | hy
        · exact hc
        · exact h2 y hy
      · refine ⟨x, List.mem_cons_self, fun y hy => ?_⟩
        rcases List.mem_cons.1 hy with rfl | hy
        · exact Int.le_refl _
        · have := h2 y hy
          omega
theorem Ind_all {l : List S41} {s : List Int} (h : Ind l s) (d : Int) (hd : 0 ≤ d) : (dueC l d s : Int) ≤ d := by
  by_cases he : s.filter (fun x => decide ((jobAt l x).f3 ≤ d)) = []
  · unfold dueC
    rw [List.countP_eq_length_filter, he]
    exact hd
  · obtain ⟨m, h1, h2⟩ := max_due l _ he
    obtain ⟨h3, h4⟩ := List.mem_filter.1 h1
    have h5 := h m h3
    have h6 : dueC l d s ≤ dueC l (jobAt l m).f3 s := by
      unfold dueC
      refine List.countP_mono_left (fun x hx hp => ?_)
      have := h2 x (List.mem_filter.2 ⟨hx, hp⟩)
      simpa using this
    simp only [decide_eq_true_eq] at h4
    omega
theorem ind_tight {l : List S41} {g : List Int} {z : Int} (h : Ind l g) (hn : ¬ Ind l (z :: g)) : ∃ d, (jobAt l z).f3 ≤ d ∧ d ≤ (dueC l d g : Int) := by
  have : ∃ y ∈ z :: g, ¬ (dueC l (jobAt l y).f3 (z :: g) : Int) ≤ (jobAt l y).f3 := by
    apply Classical.byContradiction
    intro hc
    exact hn (fun y hy => Classical.byContradiction fun h2 => hc ⟨y, hy, h2⟩)
  obtain ⟨y, hy, h2⟩ := this
  have ec : dueC l (jobAt l y).f3 (z :: g) = dueC l (jobAt l y).f3 g + if (jobAt l z).f3 ≤ (jobAt l y).f3 then 1 else 0 := by
    unfold dueC
    rw [List.countP_cons]
    simp only [decide_eq_true_eq]
  by_cases hz : (jobAt l z).f3 ≤ (jobAt l y).f3
  · rw [if_pos hz] at ec
    exact ⟨_, hz, by omega⟩
  · rw [if_neg hz] at ec
    rcases List.mem_cons.1 hy with rfl | hy
    · exact absurd (Int.le_refl _) hz
    · have := h y hy
      omega
theorem tight_max {l : List S41} {g : List Int} : ∀ (zs : List Int), zs ≠ [] → (∀ z ∈ zs, ∃ d, (jobAt l z).f3 ≤ d ∧ d ≤ (dueC l d g : Int)) → ∃ d, (∀ z ∈ zs, (jobAt l z).f3 ≤ d) ∧ d ≤ (dueC l d g : Int)
  | [], h, _ => absurd rfl h
  | z :: r, _, h => by
    obtain ⟨d, d1, d2⟩ := h z List.mem_cons_self
    by_cases hr : r = []
    · subst hr
      exact ⟨d, fun y hy => by simp at hy; subst hy; exact d1, d2⟩
    · obtain ⟨e, e1, e2⟩ := tight_max r hr (fun y hy => h y (List.mem_cons_of_mem _ hy))
      by_cases hc : d ≤ e
      · refine ⟨e, fun y hy => ?_, e2⟩
        rcases List.mem_cons.1 hy with rfl | hy
        · omega
        · exact e1 y hy
      · refine ⟨d, fun y hy => ?_, d2⟩
        rcases List.mem_cons.1 hy with rfl | hy
        · exact d1
        · have := e1 y hy
          omega
/-- A set that nothing can be put into is a greatest one. -/
theorem ind_max {l : List S41} {s g b : List Int} (hd0 : ∀ x ∈ s, 0 ≤ (jobAt l x).f3) (hg : Ind l g) (hmax : ∀ z ∈ s, z ∉ g → ¬ Ind l (z :: g)) (hb : Ind l b) (hbn : b.Nodup) (hbs : ∀ x ∈ b, x ∈ s) : b.length ≤ g.length := by
  by_cases he : b.filter (fun x => !decide (x ∈ g)) = []
  · refine nodup_sub b g hbn (fun x hx => ?_)
    apply Classical.byContradiction
    intro hc
    have : x ∈ b.filter (fun x => !decide (x ∈ g)) := List.mem_filter.2 ⟨hx, by simpa using hc⟩
    rw [he] at this
    cases this
  · obtain ⟨d, d1, d2⟩ := tight_max _ he (fun z hz => by
      obtain ⟨h1, h2⟩ := List.mem_filter.1 hz
      exact ind_tight hg (hmax z (hbs z h1) (by simpa using h2)))
    have hd : 0 ≤ d := by
      obtain ⟨z, hz⟩ := List.exists_mem_of_ne_nil _ he
      have h1 := d1 z hz
      have h2 := hd0 z (hbs z (List.mem_filter.1 hz).1)
      omega
    have h1 := Ind_all hb d hd
    have h2 := countP_sub (fun x => decide ¬ (jobAt l x).f3 ≤ d) b g hbn (fun x hx hp => by
      apply Classical.byContradiction
      intro hc
      have := d1 x (List.mem_filter.2 ⟨hx, by simpa using hc⟩)
      simp only [decide_eq_true_eq] at hp
      exact hp this)
    have e1 := List.length_eq_countP_add_countP (fun x => decide ((jobAt l x).f3 ≤ d)) (l := b)
    have e2 := List.length_eq_countP_add_countP (fun x => decide ((jobAt l x).f3 ≤ d)) (l := g)
    simp only [decide_eq_true_eq] at e1 e2
    unfold dueC at *
    omega
/-- The list of a number's bits. -/
def blN (m i d : Nat) : List Int := ((List.range' i d).filter (fun j => m.testBit j)).map (fun j : Nat => (j : Int))
def bl (m : Nat) : List Int := blN m 0 8
theorem mem_bl {m : Nat} {x : Int} : x ∈ bl m ↔ (0 ≤ x ∧ x < 8) ∧ m.testBit x.toNat = true := by
  simp only [bl, blN, List.mem_map, List.mem_filter, List.mem_range']
  constructor
  · rintro ⟨j, ⟨⟨i, hi, rfl⟩, h2⟩, rfl⟩
    refine ⟨by omega, ?_⟩
    simpa using h2
  · rintro ⟨h1, h2⟩
    exact ⟨x.toNat, ⟨⟨x.toNat, by omega, by omega⟩, h2⟩, by omega⟩
theorem bl_asc (m : Nat) : (bl m).Pairwise (· < ·) := by
  unfold bl blN
  rw [List.pairwise_map]
  exact (List.pairwise_lt_range' (s := 0) (n := 8)).sublist List.filter_sublist |>.imp (fun h => by omega)
theorem asc_ext : ∀ (s t : List Int), s.Pairwise (· < ·) → t.Pairwise (· < ·) → (∀ x, x ∈ s ↔ x ∈ t) → s = t
  | [], [], _, _, _ => rfl
  | [], b :: t, _, _, h => absurd ((h b).2 List.mem_cons_self) (by simp)
  | a :: s, [], _, _, h => absurd ((h a).1 List.mem_cons_self) (by simp)
  | a :: s, b :: t, hs, ht, h => by
    obtain ⟨h1, h2⟩ := List.pairwise_cons.1 hs
    obtain ⟨h3, h4⟩ := List.pairwise_cons.1 ht
    have e : a = b := by
      rcases List.mem_cons.1 ((h a).1 List.mem_cons_self) with e | e
      · exact e
      · rcases List.mem_cons.1 ((h b).2 List.mem_cons_self) with e2 | e2
        · exact e2.symm
        · have := h1 b e2
          have := h3 a e
          omega
    subst e
    rw [asc_ext s t h2 h4 (fun x => ⟨fun hx => by
      rcases List.mem_cons.1 ((h x).1 (List.mem_cons_of_mem _ hx)) with rfl | e
      · have := h1 _ hx
        omega
      · exact e, fun hx => by
      rcases List.mem_cons.1 ((h x).2 (List.mem_cons_of_mem _ hx)) with rfl | e
      · have := h3 _ hx
        omega
      · exact e⟩)]
/-- The number with a list's bits. -/
def mkS (s : List Int) : Nat := s.foldl (fun m x => m ||| 2 ^ x.toNat) 0
theorem mkS_bit : ∀ (s : List Int) (m i : Nat), (s.foldl (fun m x => m ||| 2 ^ x.toNat) m).testBit i = (m.testBit i || s.any (fun x => decide (x.toNat = i)))
  | [], m, i => by simp
  | x :: r, m, i => by
    rw [List.foldl_cons, mkS_bit r, Nat.testBit_or, Nat.testBit_two_pow, List.any_cons, Bool.or_assoc]
theorem mkS_lt : ∀ (s : List Int) (m : Nat), m < 256 → (∀ x ∈ s, 0 ≤ x ∧ x < 8) → s.foldl (fun m x => m ||| 2 ^ x.toNat) m < 256
  | [], m, h, _ => h
  | x :: r, m, h, hs => by
    rw [List.foldl_cons]
    refine mkS_lt r _ ?_ (fun y hy => hs y (List.mem_cons_of_mem _ hy))
    have hx := hs x List.mem_cons_self
    have h2 : 2 ^ x.toNat < 2 ^ 8 := Nat.pow_lt_pow_right (by decide) (by omega)
    exact Nat.or_lt_two_pow (n := 8) h h2
theorem bl_mkS (s : List Int) (ha : s.Pairwise (· < ·)) (hs : ∀ x ∈ s, 0 ≤ x ∧ x < 8) : bl (mkS s) = s := by
  refine asc_ext _ _ (bl_asc _) ha (fun x => ?_)
  rw [mem_bl, mkS, mkS_bit, Nat.zero_testBit, Bool.false_or, List.any_eq_true]
  constructor
  · rintro ⟨h1, y, hy, h2⟩
    have := hs y hy
    simp only [decide_eq_true_eq] at h2
    have e : x = y := by omega
    rw [e]
    exact hy
  · intro hx
    exact ⟨hs x hx, x, hx, by simp⟩
theorem and_sub {p a : Nat} (hp : p < 256) : p &&& a = p ↔ ∀ x ∈ bl p, x ∈ bl a := by
  constructor
  · intro h x hx
    rw [mem_bl] at hx ⊢
    refine ⟨hx.1, ?_⟩
    rw [← h, Nat.testBit_and, Bool.and_eq_true] at hx
    exact hx.2.2
  · intro h
    apply Nat.eq_of_testBit_eq
    intro i
    rw [Nat.testBit_and]
    cases hb : p.testBit i with
    | false => rfl
    | true =>
      have hi : i < 8 := by
        apply Classical.byContradiction
        intro hc
        have h2 : p < 2 ^ i := Nat.lt_of_lt_of_le (show p < 2 ^ 8 from hp) (Nat.pow_le_pow_right (by decide) (by omega))
        rw [Nat.testBit_lt_two_pow h2] at hb
        cases hb
      have h3 := h (i : Int) (mem_bl.2 ⟨by omega, by simpa using hb⟩)
      rw [mem_bl] at h3
      simpa using h3.2
theorem Ind_perm {l : List S41} {a b : List Int} (hp : a.Perm b) (hn : a.Nodup) : Ind l a ↔ Ind l b :=
  ⟨fun h => Ind_sub h (hp.nodup_iff.1 hn) (fun _ hx => hp.symm.subset hx), fun h => Ind_sub h hn (fun _ hx => hp.subset hx)⟩
theorem orBits : ∀ m : Fin 256, ∀ x : Fin 8, Go.bits .or .i64 (m.val : Int) (shl .i64 1 (x.val : Int)) = ((m.val ||| 2 ^ x.val : Nat) : Int) := by decide +kernel
theorem setOf_l (w : List Int) (hw : ∀ x ∈ w, 0 ≤ x ∧ x < 8) (hl : w.length ≤ 1000000) : ∀ (r pre : List Int) (m : Nat), pre ++ r = w → m < 256 → L (fun k => impl_setOf.l0 k (m : Int) w (w.length : Int) (pre.length : Int)) = some ((r.foldl (fun m x => m ||| 2 ^ x.toNat) m : Nat) : Int)
  | [], pre, m, e, hm => by
    rw [List.append_nil] at e
    subst e
    rw [L_shift]
    simp only [impl_setOf.l0, if_neg (show ¬ ((pre.length : Int) < (pre.length : Int)) by omega), L_const, List.foldl_nil]
  | y :: r, pre, m, e, hm => by
    have hlen : w.length = pre.length + (r.length + 1) := by rw [← e]; simp
    have ew : wrap64 ((pre.length : Int) + 1) = ((pre ++ [y]).length : Int) := wrap_mid pre y (by omega)
    have er : rd w (pre.length : Int) = y := by rw [← e]; exact rd_mid pre y r
    have hy := hw y (by rw [← e]; simp)
    have hb := orBits ⟨m, hm⟩ ⟨y.toNat, by omega⟩
    simp only at hb
    have hy2 : ((y.toNat : Nat) : Int) = y := Int.toNat_of_nonneg hy.1
    rw [hy2] at hb
    have hlt : m ||| 2 ^ y.toNat < 256 := Nat.or_lt_two_pow (n := 8) hm (Nat.pow_lt_pow_right (by decide) (by omega))
    have ih := setOf_l w hw hl r (pre ++ [y]) (m ||| 2 ^ y.toNat) (by rw [← e]; simp) hlt
    rw [L_shift]
    simp only [impl_setOf.l0, if_pos (show (pre.length : Int) < (w.length : Int) by omega), if_pos (show (0 : Int) ≤ (pre.length : Int) by omega), er, if_pos hy.1, ew, hb, ih, List.foldl_cons]
theorem setOf_L (w : List Int) (hw : ∀ x ∈ w, 0 ≤ x ∧ x < 8) (hl : w.length ≤ 1000000) : L (fun k => impl_setOf.f k w) = some ((mkS w : Nat) : Int) := setOf_l w hw hl w [] 0 rfl (by decide)
theorem shrBits : ∀ m : Fin 256, ∀ i : Fin 9, (shr .i64 (m.val : Int) (i.val : Int) > 0 ↔ 2 ^ i.val ≤ m.val) ∧ (Go.bits .and .i64 (shr .i64 (m.val : Int) (i.val : Int)) 1 = 1 ↔ m.val.testBit i.val = true) := by decide +kernel
theorem listOf_l (m : Nat) (hm : m < 256) : ∀ (d i : Nat) (out : List Int), i + d = 8 → out.length ≤ i → L (fun k => impl_listOf.l0 k (m : Int) out (i : Int)) = some (out ++ blN m i d)
  | 0, i, out, hi, ho => by
    obtain ⟨h1, _⟩ := shrBits ⟨m, hm⟩ ⟨i, by omega⟩
    simp only at h1
    have e : i = 8 := by omega
    have h2 : ¬ 2 ^ i ≤ m := by rw [e]; omega
    rw [L_shift]
    simp only [impl_listOf.l0, if_pos (show (0 : Int) ≤ (i : Int) by omega), if_neg (fun h => h2 (h1.1 h)), L_const]
    simp [blN]
  | d + 1, i, out, hi, ho => by
    obtain ⟨h1, h3⟩ := shrBits ⟨m, hm⟩ ⟨i, by omega⟩
    simp only at h1 h3
    have ew : wrap64 ((i : Int) + 1) = ((i + 1 : Nat) : Int) := by
      rw [wrap_id (by omega) (by omega)]
      omega
    have i1 := listOf_l m hm d (i + 1) out (by omega) (by omega)
    have i2 := listOf_l m hm d (i + 1) (out ++ [(i : Int)]) (by omega) (by simp; omega)
    rw [L_shift]
    by_cases h2 : 2 ^ i ≤ m
    · simp only [impl_listOf.l0, if_pos (show (0 : Int) ≤ (i : Int) by omega), if_pos (h1.2 h2), if_pos (show out.length < 17592186044416 by omega), ew, L_ite, i1, i2]
      have eb : blN m i (d + 1) = (if m.testBit i = true then (i : Int) :: blN m (i + 1) d else blN m (i + 1) d) := by
        unfold blN
        rw [List.range'_succ]
        by_cases hb : m.testBit i = true
        · rw [if_pos hb, List.filter_cons_of_pos (by simpa using hb)]
          rfl
        · rw [if_neg hb, List.filter_cons_of_neg (by simpa using hb)]
      rw [eb]
      by_cases hb : m.testBit i = true
      · rw [if_pos (h3.2 hb), if_pos hb, List.append_assoc]
        rfl
      · rw [if_neg (fun h => hb (h3.1 h)), if_neg hb]
    · simp only [impl_listOf.l0, if_pos (show (0 : Int) ≤ (i : Int) by omega), if_neg (fun h => h2 (h1.1 h)), L_const]
      have e : (List.range' i (d + 1)).filter (fun j => m.testBit j) = [] := by
        rw [List.filter_eq_nil_iff]
        intro j hj
        have hji : i ≤ j := by
          rw [List.mem_range'] at hj
          obtain ⟨q, _, rfl⟩ := hj
          omega
        have : m < 2 ^ j := Nat.lt_of_lt_of_le (by omega) (Nat.pow_le_pow_right (by decide) hji)
        rw [Nat.testBit_lt_two_pow this]
        simp
      rw [blN, e]
      simp
theorem listOf_L (m : Nat) (hm : m < 256) : L (fun k => impl_listOf.f k (m : Int)) = some (bl m) := by
  have := listOf_l m hm 8 0 [] rfl (Nat.le_refl _)
  simpa [impl_listOf.f, bl] using this
theorem andBits (p a : Fin 256) : Go.bits .andNot .i64 (p.val : Int) (a.val : Int) = 0 ↔ p.val &&& a.val = p.val := by
  have e : ∀ x : Fin 256, BitVec.ofInt 64 (x.val : Int) = BitVec.ofNat 64 x.val := fun x => BitVec.ofInt_natCast 64 x.val
  have hp := p.isLt
  have ha := a.isLt
  have h0 : Go.bits .andNot .i64 (p.val : Int) (a.val : Int) = IntKind.i64.wrap (((BitVec.ofInt 64 (p.val : Int)) &&& ~~~ (BitVec.ofInt 64 (a.val : Int))).toNat : Int) := rfl
  have hb : ∀ i, ((BitVec.ofNat 64 p.val) &&& ~~~ (BitVec.ofNat 64 a.val)).getLsbD i = (p.val.testBit i && !a.val.testBit i) := by
    intro i
    rw [BitVec.getLsbD_and, BitVec.getLsbD_not, BitVec.getLsbD_ofNat, BitVec.getLsbD_ofNat]
    by_cases hi : i < 64
    · simp [hi]
    · have : p.val < 2 ^ i := Nat.lt_of_lt_of_le (show p.val < 2 ^ 8 from hp) (Nat.pow_le_pow_right (by decide) (by omega))
      rw [Nat.testBit_lt_two_pow this]
      simp
  have hle : ((BitVec.ofNat 64 p.val) &&& ~~~ (BitVec.ofNat 64 a.val)).toNat ≤ p.val := by
    rw [BitVec.toNat_and, BitVec.toNat_ofNat]
    refine Nat.le_trans Nat.and_le_left ?_
    exact Nat.mod_le _ _
  rw [h0, e, e]
  have hz : IntKind.i64.wrap ((((BitVec.ofNat 64 p.val) &&& ~~~ (BitVec.ofNat 64 a.val)).toNat : Nat) : Int) = ((((BitVec.ofNat 64 p.val) &&& ~~~ (BitVec.ofNat 64 a.val)).toNat : Nat) : Int) := (i64_w _).trans (wrap_id (by omega) (by omega))
  rw [hz]
  constructor
  · intro h
    have h2 : ((BitVec.ofNat 64 p.val) &&& ~~~ (BitVec.ofNat 64 a.val)) = 0#64 := by
      apply BitVec.eq_of_toNat_eq
      rw [BitVec.toNat_ofNat]
      omega
    apply Nat.eq_of_testBit_eq
    intro i
    have h3 := hb i
    rw [h2, BitVec.getLsbD_zero] at h3
    rw [Nat.testBit_and]
    cases h4 : p.val.testBit i with
    | false => rfl
    | true =>
      rw [h4] at h3
      cases h5 : a.val.testBit i with
      | true => rfl
      | false => rw [h5] at h3; cases h3
  · intro h
    have h2 : ((BitVec.ofNat 64 p.val) &&& ~~~ (BitVec.ofNat 64 a.val)) = 0#64 := by
      apply BitVec.eq_of_getLsbD_eq
      intro i _
      rw [hb i, BitVec.getLsbD_zero]
      have h3 := congrArg (fun n => n.testBit i) h
      simp only [Nat.testBit_and] at h3
      cases h4 : p.val.testBit i with
      | false => rfl
      | true =>
        rw [h4] at h3
        cases h5 : a.val.testBit i with
        | true => rfl
        | false => rw [h5] at h3; cases h3
    rw [h2]
    rfl

theorem greedy_l (l : List S41) (hg : Good l) (hu : ∀ j ∈ l, j.f0 = 1) (s : List Int) (hr : ∀ y ∈ s, 0 ≤ y ∧ y < (l.length : Int)) (ha : s.Pairwise (· < ·)) (hl : s.length ≤ 900) :
    ∀ (r pre g : List Int), pre ++ r = s → g.Pairwise (· < ·) → (∀ x ∈ g, x ∈ pre) → Ind l g → (∀ z ∈ pre, z ∉ g → ¬ Ind l (z :: g)) → ∃ G : List Int, L (fun k => spec_l10Rank.l0 k l s g (pre.length : Int)) = some (G.length : Int) ∧ G.Pairwise (· < ·) ∧ (∀ x ∈ G, x ∈ s) ∧ Ind l G ∧ (∀ z ∈ s, z ∉ G → ¬ Ind l (z :: G))
  | [], pre, g, e, h1, h2, h3, h4 => by
    rw [List.append_nil] at e
    subst e
    refine ⟨g, ?_, h1, h2, h3, h4⟩
    rw [L_shift]
    simp only [spec_l10Rank.l0, if_neg (show ¬ ((pre.length : Int) < (pre.length : Int)) by omega), L_const]
  | x :: r, pre, g, e, h1, h2, h3, h4 => by
    have hlen : s.length = pre.length + (r.length + 1) := by rw [← e]; simp
    have hnd : (pre ++ x :: r).Nodup := by rw [e]; exact ha.imp (fun h => by omega)
    have hxp : x ∉ pre := fun h => (List.nodup_append.1 hnd).2.2 x h x (by simp) rfl
    have hxg : x ∉ g := fun h => hxp (h2 x h)
    have ew : wrap64 ((pre.length : Int) + 1) = ((pre ++ [x]).length : Int) := wrap_mid pre x (by omega)
    have er : rd s (pre.length : Int) = x := by rw [← e]; exact rd_mid pre x r
    have hgn : g.Nodup := h1.imp (fun h => by omega)
    have hgl := nodup_sub g pre hgn h2
    obtain ⟨t, t1, t2, t3⟩ := l1Put_e g x h1 hxg (by omega)
    have htl := t2.length_eq
    simp only [List.length_cons] at htl
    have htn : t.Nodup := t3.imp (fun h => by omega)
    have hpx : ∀ z ∈ pre ++ [x], z ∈ s := fun z hz => by
      rw [← e, app_cons pre x r]
      exact List.mem_append_left _ hz
    have htr : ∀ y ∈ t, 0 ≤ y ∧ y < (l.length : Int) := fun y hy => by
      rcases List.mem_cons.1 (t2.subset hy) with rfl | hy
      · exact hr _ (hpx _ (by simp))
      · exact hr _ (hpx _ (List.mem_append_left _ (h2 y hy)))
    obtain ⟨b, b1, _, b3⟩ := timely_ind l hg hu t htr t3 (by omega)
    rw [Ind_perm t2 htn] at b3
    have hstep : L (fun k => spec_l10Rank.l0 k l s g (pre.length : Int)) = if b = true then L (fun k => spec_l10Rank.l0 k l s t ((pre ++ [x]).length : Int)) else L (fun k => spec_l10Rank.l0 k l s g ((pre ++ [x]).length : Int)) := by
      rw [L_shift]
      simp only [spec_l10Rank.l0, if_pos (show (pre.length : Int) < (s.length : Int) by omega), if_pos (show (0 : Int) ≤ (pre.length : Int) by omega), er, ew, t1, L_bind, b1, Option.bind_some, L_ite]
    rw [hstep]
    by_cases hb : b = true
    · rw [if_pos hb]
      refine greedy_l l hg hu s hr ha hl r (pre ++ [x]) t (by rw [← e]; simp) t3 (fun y hy => ?_) ((Ind_perm t2 htn).2 (b3.1 hb)) (fun z hz hzt hi => ?_)
      · rcases List.mem_cons.1 (t2.subset hy) with rfl | hy
        · simp
        · exact List.mem_append_left _ (h2 y hy)
      · have hzx : z ≠ x := fun h => hzt (h ▸ t2.symm.subset List.mem_cons_self)
        have hzg : z ∉ g := fun h => hzt (t2.symm.subset (List.mem_cons_of_mem _ h))
        have hzp : z ∈ pre := by
          rcases List.mem_append.1 hz with h | h
          · exact h
          · exact absurd (by simpa using h) hzx
        refine h4 z hzp hzg (Ind_sub hi (List.nodup_cons.2 ⟨hzg, hgn⟩) (fun y hy => ?_))
        rcases List.mem_cons.1 hy with rfl | hy
        · exact List.mem_cons_self
        · exact List.mem_cons_of_mem _ (t2.symm.subset (List.mem_cons_of_mem _ hy))
    · rw [if_neg hb]
      refine greedy_l l hg hu s hr ha hl r (pre ++ [x]) g (by rw [← e]; simp) h1 (fun y hy => List.mem_append_left _ (h2 y hy)) h3 (fun z hz hzg => ?_)
      rcases List.mem_append.1 hz with h | h
      · exact h4 z h hzg
      · have e2 : z = x := by simpa using h
        rw [e2]
        exact fun hi => hb (b3.2 hi)
theorem rank_l (l : List S41) (hg : Good l) (hu : ∀ j ∈ l, j.f0 = 1) (s : List Int) (hr : ∀ y ∈ s, 0 ≤ y ∧ y < (l.length : Int)) (ha : s.Pairwise (· < ·)) (G : List Int) (g1 : G.Pairwise (· < ·)) (g2 : ∀ x ∈ G, x ∈ s) (g3 : Ind l G) (g4 : ∀ z ∈ s, z ∉ G → ¬ Ind l (z :: G)) :
    ∀ (d p c : Nat), p + d = mkS s + 1 → c ≤ G.length → (mkS G < p → c = G.length) → L (fun k => impl_UnitRank.l0 k l (c : Int) ((mkS s : Nat) : Int) (p : Int)) = some ((G.length : Int), true) := by
  have h8 := hg.1
  have hs8 : ∀ x ∈ s, 0 ≤ x ∧ x < 8 := fun x hx => by have := hr x hx; omega
  have hG8 : ∀ x ∈ G, 0 ≤ x ∧ x < 8 := fun x hx => hs8 x (g2 x hx)
  have hM : mkS s < 256 := mkS_lt s 0 (by decide) hs8
  have hMG : mkS G < 256 := mkS_lt G 0 (by decide) hG8
  have hblG := bl_mkS G g1 hG8
  have hbls := bl_mkS s ha hs8
  have hGs : mkS G &&& mkS s = mkS G := (and_sub hMG).2 (fun x hx => by rw [hblG] at hx; rw [hbls]; exact g2 x hx)
  have hle : mkS G ≤ mkS s := by
    have := Nat.and_le_right (n := mkS G) (m := mkS s)
    omega
  have hd0 : ∀ x ∈ s, 0 ≤ (jobAt l x).f3 := fun x hx => (hg.2 _ (jobAt_mem (hr x hx).1 (hr x hx).2)).d0
  intro d
  induction d with
  | zero =>
    intro p c hp hc hf
    rw [L_shift]
    simp only [impl_UnitRank.l0, if_neg (show ¬ ((p : Int) ≤ ((mkS s : Nat) : Int)) by omega), L_const, hf (by omega)]
  | succ d ih =>
    intro p c hp hc hf
    have hpM : p ≤ mkS s := by omega
    have ew : wrap64 ((p : Int) + 1) = ((p + 1 : Nat) : Int) := by
      rw [wrap_id (by omega) (by omega)]
      omega
    have hbits := andBits ⟨p, by omega⟩ ⟨mkS s, hM⟩
    simp only at hbits
    have hand := and_sub (p := p) (a := mkS s) (by omega)
    rw [hbls] at hand
    rw [L_shift]
    simp only [impl_UnitRank.l0, if_pos (show ((p : Int) ≤ ((mkS s : Nat) : Int)) by omega), L_bind, listOf_L p (by omega), Option.bind_some, L_ite, ew]
    by_cases hA : Go.bits .andNot .i64 (p : Int) ((mkS s : Nat) : Int) = 0
    · have hsub := hand.1 (hbits.1 hA)
      have hBa := bl_asc p
      have hBn : (bl p).Nodup := hBa.imp (fun h => by omega)
      have hBl := nodup_sub (bl p) s hBn hsub
      have hsl : s.length ≤ l.length := nodup_bd l.length s (ha.imp (fun h => by omega)) hr
      obtain ⟨b, _, b2, b3⟩ := timely_ind l hg hu (bl p) (fun y hy => hr y (hsub y hy)) hBa (by omega)
      simp only [if_pos hA, b2, L_const, Option.bind_some, L_ite]
      by_cases hc2 : ((bl p).length : Int) > (c : Int)
      · rw [if_pos hc2]
        by_cases hb : b = true
        · have hm := ind_max hd0 g3 g4 (b3.1 hb) hBn hsub
          rw [if_pos hb]
          refine ih (p + 1) _ (by omega) hm (fun h => ?_)
          by_cases e : p = mkS G
          · rw [e, hblG]
          · have := hf (by omega)
            omega
        · rw [if_neg hb]
          refine ih (p + 1) c (by omega) hc (fun h => ?_)
          by_cases e : p = mkS G
          · rw [e, hblG] at b3
            exact absurd (b3.2 g3) hb
          · exact hf (by omega)
      · rw [if_neg hc2]
        refine ih (p + 1) c (by omega) hc (fun h => ?_)
        by_cases e : p = mkS G
        · rw [e, hblG] at hc2
          omega
        · exact hf (by omega)
    · simp only [if_neg hA]
      refine ih (p + 1) c (by omega) hc (fun h => ?_)
      by_cases e : p = mkS G
      · rw [e] at hA hbits
        exact absurd (hbits.2 hGs) hA
      · exact hf (by omega)
theorem UnitRank_both (l : List S41) (s : List Int) (h : l.length ≤ 1048576) (hs : s.length ≤ 1048576) :
    ∃ (R : Int) (ok : Bool), L (fun k => spec_UnitRank.f k l s) = some (R, ok) ∧ L (fun k => impl_UnitRank.f k l s) = some (R, ok) := by
  have hno2 : L (fun k => impl_UnitRank.j0 k l s true) = some (0, false) := by rw [L_shift]; simp only [impl_UnitRank.j0, if_true, L_const]
  simp only [spec_UnitRank.f, impl_UnitRank.f, L_bind, L_ite, L_const, l10Unit_L l h, areUnit_L l h, l6Set_L l s h (by omega), isSet_L l.length s h (by omega), Option.bind_some]
  cases hb : (goodB l && plainB l) with
  | false => exact ⟨0, false, by simp, by simp [hno2]⟩
  | true =>
    have hb2 := hb
    simp only [Bool.and_eq_true] at hb2
    have hg := goodB_iff.1 hb2.1
    have h8 := hg.1
    cases hu : unitB l with
    | false => exact ⟨0, false, by simp, by simp [hno2]⟩
    | true =>
      have hu1 : ∀ j ∈ l, j.f0 = 1 := by
        simpa [unitB, List.all_eq_true] using hu
      cases hset : setB l.length s with
      | false => exact ⟨0, false, by simp, by simp [hno2]⟩
      | true =>
        have hr := setB_range hset
        have ha := setB_asc hset
        have hl : s.length ≤ l.length := nodup_bd l.length s (ha.imp (fun h => by omega)) hr
        obtain ⟨G, r1, r2, r3, r4, r5⟩ := greedy_l l hg hu1 s hr ha (by omega) s [] [] rfl List.Pairwise.nil (by simp) (fun x hx => by cases hx) (by simp)
        have hk : L (fun k => impl_UnitRank.j0 k l s false) = some ((G.length : Int), true) := by
          rw [L_shift]
          simp only [impl_UnitRank.j0, Bool.false_eq_true, if_false, L_bind, setOf_L s (fun x hx => by have := hr x hx; omega) (by omega), Option.bind_some]
          exact rank_l l hg hu1 s hr ha G r2 r3 r4 r5 (mkS s + 1) 0 0 (by omega) (Nat.zero_le _) (fun h => absurd h (by omega))
        refine ⟨(G.length : Int), true, ?_, ?_⟩
        · simp only [Bool.and_self, if_true, spec_l10Rank.f]
          exact (by rw [show L (fun k => spec_l10Rank.l0 k l s [] 0) = some (G.length : Int) from r1]; rfl)
        · simp only [Bool.and_self, if_true, Bool.not_true, hk]
theorem laws_FnExactUnitRank_j0f (x0 : List (S43)) (x1 : List Int) (x8 : List (S41)) (x9 : List Int) : L (fun k => laws_FnExactUnitRank.j0 k x0 x1 x8 x9 false) = L (fun k => (laws_toJobS.f k x0).bind fun t220 => ((laws_eqJobS.f k x8 t220).bind fun t223 => (if t223 = true then ((laws_toIntS.f k x1).bind fun t224 => ((laws_eqIntS.f k x9 t224).bind fun t227 => (if t227 = true then (some true) else (some false)))) else (some false)))) := by
  rw [L_shift]
  simp only [laws_FnExactUnitRank.j0, Bool.false_eq_true, if_false]
theorem FnExactUnitRank : laws_FnExactUnitRank.Pure := by
  intro l s h1 _ h2 _
  have e1 : maxLen = 9223372036854775807 := rfl
  refine rounds_of_L ?_
  simp only [laws_FnExactUnitRank.f, L_ite, L_const, szJobS_e l (by omega)]
  by_cases ho : s.length ≤ 1048576
  · rw [if_neg (by omega)]
    by_cases hl : l.length ≤ 1048576
    · have hl2 : (l.map toJobP).length ≤ 1048576 := by simpa using hl
      obtain ⟨R, b, hs, hi⟩ := UnitRank_both (l.map toJobP) s hl2 ho
      rw [if_pos hl]
      simp (disch := omega) only [lt0, Option.bind_some, L_bind, L_ite, L_const, toJobS_L l hl, toIntS_L s ho, hs, hi, eqJobS_L _ hl2, eqIntS_L s ho, laws_FnExactUnitRank_j0f, if_true, Bool.false_eq_true, if_false, bne_self_eq_false]
    · rw [if_neg hl]
      simp only [Option.bind_some, if_pos (show (-1 : Int) < 0 by decide), L_const]
  · rw [if_pos (by omega)]

end Go.Proofs.Ytmfdbdpgfbpbpaa.Pure
