/- The program's SplitGain answers what the reference's answers, for all lists of jobs and objectives. -/
import Derived.Test.YtoagdnojoodloaaXSFnExactSplitGain
import Derived.Test.YtoagdnojoodloaaXLim
namespace Go.Proofs.Ytoagdnojoodloaa.Pure
open Go.RowKit Go.Proofs.YtoagdnojoodloaaW.PrintWords Go.Proofs.YtoagdnojoodloaaW.PrintLast Go.Proofs.YtoagdnojoodloaaW.PrintMore Go.Proofs.Ytoagdnojoodloaa.X Go.Proofs.Ytoagdnojoodloaa.XRow Go.Proofs.Ytoagdnojoodloaa.XLim
set_option linter.unusedVariables false
set_option linter.unusedSimpArgs false
instance : ∀ a0, Mono (fun k => impl_IsJobs.f k a0) := fun a0 => ⟨⟨impl_IsJobs.mono a0⟩⟩
instance : ∀ a0 a1, Mono (fun k => impl_SplitGain.f k a0 a1) := fun a0 a1 => ⟨⟨impl_SplitGain.mono a0 a1⟩⟩
instance : ∀ l0 a1, Mono (fun k => impl_best.f k l0 a1) := fun l0 a1 => ⟨⟨impl_best.mono l0 a1⟩⟩
instance : ∀ a0 a1 a2, Mono (fun k => impl_choose.f k a0 a1 a2) := fun a0 a1 a2 => ⟨⟨impl_choose.mono a0 a1 a2⟩⟩
instance : ∀ a0 a1, Mono (fun k => impl_endsOf.f k a0 a1) := fun a0 a1 => ⟨⟨impl_endsOf.mono a0 a1⟩⟩
instance : ∀ a0 a1, Mono (fun k => impl_has.f k a0 a1) := fun a0 a1 => ⟨⟨impl_has.mono a0 a1⟩⟩
instance : ∀ a0, Mono (fun k => impl_nextOrder.f k a0) := fun a0 => ⟨⟨impl_nextOrder.mono a0⟩⟩
instance : ∀ a0, Mono (fun k => impl_numbersTo.f k a0) := fun a0 => ⟨⟨impl_numbersTo.mono a0⟩⟩
instance : ∀ a0 a1 a2, Mono (fun k => impl_prefixBound.f k a0 a1 a2) := fun a0 a1 a2 => ⟨⟨impl_prefixBound.mono a0 a1 a2⟩⟩
instance : ∀ a0 a1 a2, Mono (fun k => impl_valueOf.f k a0 a1 a2) := fun a0 a1 a2 => ⟨⟨impl_valueOf.mono a0 a1 a2⟩⟩
instance : ∀ a0 a1 a2, Mono (fun k => impl_valueOfEnds.f k a0 a1 a2) := fun a0 a1 a2 => ⟨⟨impl_valueOfEnds.mono a0 a1 a2⟩⟩
instance : ∀ a0 a1, Mono (fun k => laws_FnExactSplitGain.f k a0 a1) := fun a0 a1 => ⟨⟨laws_FnExactSplitGain.mono a0 a1⟩⟩
instance : ∀ a0 a1, Mono (fun k => laws_eqJobS.f k a0 a1) := fun a0 a1 => ⟨⟨laws_eqJobS.mono a0 a1⟩⟩
instance : ∀ a0, Mono (fun k => laws_toJobS.f k a0) := fun a0 => ⟨⟨laws_toJobS.mono a0⟩⟩
instance : ∀ a0 a1, Mono (fun k => spec_SplitGain.f k a0 a1) := fun a0 a1 => ⟨⟨spec_SplitGain.mono a0 a1⟩⟩
instance : ∀ a0 a1, Mono (fun k => spec_l1Has.f k a0 a1) := fun a0 a1 => ⟨⟨spec_l1Has.mono a0 a1⟩⟩
instance : ∀ a0 a1, Mono (fun k => spec_l2All.f k a0 a1) := fun a0 a1 => ⟨⟨spec_l2All.mono a0 a1⟩⟩
instance : ∀ a0 a1, Mono (fun k => spec_l2Best.f k a0 a1) := fun a0 a1 => ⟨⟨spec_l2Best.mono a0 a1⟩⟩
instance : ∀ a0 a1, Mono (fun k => spec_l2Ends.f k a0 a1) := fun a0 a1 => ⟨⟨spec_l2Ends.mono a0 a1⟩⟩
instance : ∀ a0, Mono (fun k => spec_l2Good.f k a0) := fun a0 => ⟨⟨spec_l2Good.mono a0⟩⟩
instance : ∀ a0 a1 a2, Mono (fun k => spec_l2Of.f k a0 a1 a2) := fun a0 a1 a2 => ⟨⟨spec_l2Of.mono a0 a1 a2⟩⟩
instance : ∀ a0 a1, Mono (fun k => spec_l2Starts.f k a0 a1) := fun a0 a1 => ⟨⟨spec_l2Starts.mono a0 a1⟩⟩
instance : ∀ a0 a1 a2 a3 a4 a5, Mono (fun k => spec_l2Try.f k a0 a1 a2 a3 a4 a5) := fun a0 a1 a2 a3 a4 a5 => ⟨⟨spec_l2Try.mono a0 a1 a2 a3 a4 a5⟩⟩
instance : ∀ a0 a1 a2, Mono (fun k => spec_l2Value.f k a0 a1 a2) := fun a0 a1 a2 => ⟨⟨spec_l2Value.mono a0 a1 a2⟩⟩
instance : ∀ a0 a1 a2, Mono (fun k => spec_l5Bound.f k a0 a1 a2) := fun a0 a1 a2 => ⟨⟨spec_l5Bound.mono a0 a1 a2⟩⟩
instance : ∀ a0 a1 a2 a3, Mono (fun k => spec_l5Choose.f k a0 a1 a2 a3) := fun a0 a1 a2 a3 => ⟨⟨spec_l5Choose.mono a0 a1 a2 a3⟩⟩
instance : ∀ a0 a1 a2 a3, Mono (fun k => spec_l5Pick.f k a0 a1 a2 a3) := fun a0 a1 a2 a3 => ⟨⟨spec_l5Pick.mono a0 a1 a2 a3⟩⟩
instance : ∀ a0, Mono (fun k => spec_l5Rests.f k a0) := fun a0 => ⟨⟨spec_l5Rests.mono a0⟩⟩
instance : ∀ a0 a1, Mono (fun k => spec_l5Two.f k a0 a1) := fun a0 a1 => ⟨⟨spec_l5Two.mono a0 a1⟩⟩
theorem lt_mid {α : Type} (pre : List α) (x : α) (r : List α) : ((pre.length : Int) < ((pre ++ x :: r).length : Int)) = True := by
  simp only [List.length_append, List.length_cons]
  exact eq_true (by omega)
theorem not_lt_end {α : Type} (pre : List α) : ((pre.length : Int) < ((pre ++ []).length : Int)) = False := by
  simp
theorem le_nat (n : Nat) : (0 ≤ (n : Int)) = True := eq_true (by omega)
theorem getD_mid {α : Type} (pre : List α) (x : α) (r : List α) (d : α) : (pre ++ x :: r).getD (pre.length : Int).toNat d = x := by
  simp [List.getD_eq_getElem?_getD]
theorem rd_mid (pre : List Int) (x : Int) (r : List Int) : rd (pre ++ x :: r) (pre.length : Int) = x := getD_mid pre x r 0
theorem wrap_mid {α : Type} (pre : List α) (x : α) (h : pre.length < 4611686018427387904) : wrap64 ((pre.length : Int) + 1) = ((pre ++ [x]).length : Int) := by
  rw [wrap_id (by omega) (by omega)]
  simp
theorem set_mid {α β : Type} (a : List α) (y v : α) (b : List α) (pre : List β) (h : pre.length = a.length) : (a ++ y :: b).set (pre.length : Int).toNat v = a ++ v :: b := by
  rw [Int.toNat_natCast, h, List.set_append_right _ _ (Nat.le_refl _)]
  simp
theorem rep_succ {α : Type} (x : α) (r : List α) {β : Type} (z : β) : List.replicate (x :: r).length z = z :: List.replicate r.length z := rfl
theorem app_cons {α : Type} (pre : List α) (x : α) (r : List α) : pre ++ x :: r = (pre ++ [x]) ++ r := by simp
theorem lt0 {a : Int} (h : 0 ≤ a) : (a < 0) = False := eq_false (by omega)
theorem getD_set (out : List Int) (i j : Nat) (v : Int) : (out.set i v).getD j 0 = if i = j ∧ j < out.length then v else out.getD j 0 := by
  simp only [List.getD_eq_getElem?_getD, List.getElem?_set]
  by_cases h : i = j
  · subst h
    by_cases h2 : i < out.length
    · simp [h2]
    · simp [h2]
  · simp [h]
theorem ext_getD {a b : List Int} (hl : a.length = b.length) (h : ∀ j : Nat, j < a.length → a.getD j 0 = b.getD j 0) : a = b := by
  apply List.ext_getElem hl
  intro j h1 h2
  have := h j h1
  rwa [List.getD_eq_getElem?_getD, List.getD_eq_getElem?_getD, List.getElem?_eq_getElem h1, List.getElem?_eq_getElem h2] at this
theorem getD_mem {l : List Int} {j : Nat} (hj : j < l.length) : l.getD j 0 ∈ l := by
  rw [List.getD_eq_getElem?_getD, List.getElem?_eq_getElem hj]
  exact List.getElem_mem _
def toJobP (x : S63) : S61 := ⟨x.f0, x.f1, x.f2, x.f3⟩
theorem toJobS_l (r : List S63) : ∀ pre : List S63, (pre ++ r).length < 4611686018427387904 → L (fun k => laws_toJobS.l0 k (pre ++ r) (pre.map toJobP ++ List.replicate r.length z61) (pre.length : Int)) = some ((pre ++ r).map toJobP) := by
  induction r with
  | nil =>
    intro pre hb
    rw [L_shift]
    simp only [laws_toJobS.l0, not_lt_end, if_false, L_const, List.length_nil, List.replicate_zero]
    simp
  | cons x r ih =>
    intro pre hb
    rw [L_shift]
    have hl : pre.length < 4611686018427387904 := by simp at hb; omega
    have e : rd_T63 (pre ++ x :: r) (pre.length : Int) = x := getD_mid pre x r _
    have e2 : ((pre.length : Int) < ((pre.map toJobP ++ z61 :: List.replicate r.length z61).length : Int)) = True := by
      simp only [List.length_append, List.length_cons, List.length_map]
      exact eq_true (by omega)
    simp only [laws_toJobS.l0, laws_toJob.f, lt_mid, le_nat, if_true, rep_succ, e, e2, wrap_mid pre x hl, Option.bind_some, set_mid (pre.map toJobP) _ _ _ pre (by simp)]
    have := ih (pre ++ [x]) (by simpa using hb)
    simpa [toJobP] using this
theorem toJobS_L (l : List S63) (h : l.length ≤ 1048576) : L (fun k => laws_toJobS.f k l) = some (l.map toJobP) := by
  simp only [laws_toJobS.f, le_nat, if_true, Int.toNat_natCast, if_pos (show l.length ≤ 8796093022208 by omega)]
  exact toJobS_l l [] (by simp; omega)
theorem eqJobS_l (r : List S61) : ∀ pre : List S61, (pre ++ r).length < 4611686018427387904 → L (fun k => laws_eqJobS.l0 k (pre ++ r) (pre ++ r) (pre.length : Int)) = some true := by
  induction r with
  | nil =>
    intro pre hb
    rw [L_shift]
    simp only [laws_eqJobS.l0, not_lt_end, if_false, L_const]
  | cons x r ih =>
    intro pre hb
    rw [L_shift]
    have hl : pre.length < 4611686018427387904 := by simp at hb; omega
    simp only [laws_eqJobS.l0, laws_eqJob.f, lt_mid, le_nat, if_true, wrap_mid pre x hl, Option.bind_some]
    rw [app_cons pre x r]
    exact ih (pre ++ [x]) (by simpa using hb)
theorem eqJobS_L (l : List S61) (h : l.length ≤ 1048576) : L (fun k => laws_eqJobS.f k l l) = some true := by
  simp only [laws_eqJobS.f, if_true]
  exact eqJobS_l l [] (by simp; omega)
theorem szJobS_e (l : List S63) (h : l.length ≤ 9223372036854775807) : laws_szJobS.f l 1048576 = if l.length ≤ 1048576 then some (1048576 - (l.length : Int)) else some (-1) := by
  unfold laws_szJobS.f
  have e : wrap64 (1048576 - (l.length : Int)) = 1048576 - (l.length : Int) := wrap_id (by omega) (by omega)
  rw [e]
  by_cases h2 : l.length ≤ 1048576
  · rw [if_neg (by omega), if_pos h2]
  · rw [if_pos (by omega), if_neg h2]
theorem ite_and (b c : Bool) : (if b = true then some c else some false) = some (b && c) := by cases b <;> rfl
theorem bind_self {α : Type} (o : Option α) : (o.bind fun t => some t) = o := by cases o <;> rfl
def inB (a lo hi : Int) : Bool := decide (lo ≤ a) && decide (a ≤ hi)
theorem inB_iff {a lo hi : Int} : inB a lo hi = true ↔ lo ≤ a ∧ a ≤ hi := by simp [inB]
theorem within_e (a lo hi : Int) : impl_within.f a lo hi = some (inB a lo hi) := by
  unfold impl_within.f inB
  by_cases h : lo ≤ a <;> simp [h]
theorem l1In_e (a lo hi : Int) : spec_l1In.f a lo hi = some (inB a lo hi) := by
  unfold spec_l1In.f inB
  by_cases h : lo ≤ a <;> simp [h]
theorem mx_e (a b : Int) : mx a b = max a b := by
  unfold mx
  omega
theorem l1Most_e (a b : Int) : spec_l1Most.f a b = some (max a b) := by
  unfold spec_l1Most.f
  by_cases h : a > b
  · rw [if_pos h]
    congr 1
    omega
  · rw [if_neg h]
    congr 1
    omega
theorem l1Has_l (x : Int) (r : List Int) : ∀ pre : List Int, (pre ++ r).length < 4611686018427387904 → L (fun k => spec_l1Has.l0 k (pre ++ r) x (pre.length : Int)) = some (decide (x ∈ r)) := by
  induction r with
  | nil =>
    intro pre hb
    rw [L_shift]
    simp only [spec_l1Has.l0, not_lt_end, if_false, L_const]
    simp
  | cons y r ih =>
    intro pre hb
    rw [L_shift]
    have hl : pre.length < 4611686018427387904 := by simp at hb; omega
    simp only [spec_l1Has.l0, lt_mid, le_nat, if_true, rd_mid, wrap_mid pre y hl, L_ite, L_const]
    rw [app_cons pre y r, ih (pre ++ [y]) (by simpa using hb)]
    by_cases h : y = x
    · subst h
      simp
    · rw [if_neg h]
      have : ¬ x = y := fun e => h e.symm
      simp [this]
theorem l1Has_L (l : List Int) (x : Int) (h : l.length < 4611686018427387904) : L (fun k => spec_l1Has.f k l x) = some (decide (x ∈ l)) := l1Has_l x l [] (by simpa using h)
theorem has_l (x : Int) (r : List Int) : ∀ pre : List Int, (pre ++ r).length < 4611686018427387904 → L (fun k => impl_has.l0 k x (pre ++ r) ((pre ++ r).length : Int) (pre.length : Int)) = some (decide (x ∈ r)) := by
  induction r with
  | nil =>
    intro pre hb
    rw [L_shift]
    simp only [impl_has.l0, not_lt_end, if_false, L_const]
    simp
  | cons y r ih =>
    intro pre hb
    rw [L_shift]
    have hl : pre.length < 4611686018427387904 := by simp at hb; omega
    simp only [impl_has.l0, lt_mid, le_nat, if_true, rd_mid, wrap_mid pre y hl, L_ite, L_const]
    rw [app_cons pre y r, ih (pre ++ [y]) (by simpa using hb)]
    by_cases h : y = x
    · subst h
      simp
    · rw [if_neg h]
      have : ¬ x = y := fun e => h e.symm
      simp [this]
theorem has_L (l : List Int) (x : Int) (h : l.length < 4611686018427387904) : L (fun k => impl_has.f k l x) = some (decide (x ∈ l)) := has_l x l [] (by simpa using h)
theorem perm_of : ∀ (a b : List Int), a.Nodup → (∀ x ∈ a, x ∈ b) → b.length ≤ a.length → a.Perm b
  | [], b, _, _, hl => by
    have : b = [] := List.length_eq_zero_iff.1 (by simpa using hl)
    rw [this]
  | x :: a, b, hn, hs, hl => by
    have hx : x ∈ b := hs x List.mem_cons_self
    have hn' := List.nodup_cons.1 hn
    have hp := List.perm_cons_erase hx
    have h1 : (b.erase x).length ≤ a.length := by
      have := List.length_erase_of_mem hx
      simp at hl
      omega
    have h2 : ∀ y ∈ a, y ∈ b.erase x := fun y hy => (List.mem_erase_of_ne (by rintro rfl; exact hn'.1 hy)).2 (hs y (List.mem_cons_of_mem _ hy))
    exact ((perm_of a (b.erase x) hn'.2 h2 h1).cons x).trans hp.symm
def numsTo (n : Nat) : List Int := (List.range n).map (fun i : Nat => (i : Int))
theorem numsTo_length (n : Nat) : (numsTo n).length = n := by simp [numsTo]
theorem mem_numsTo {n : Nat} {x : Int} : x ∈ numsTo n ↔ 0 ≤ x ∧ x < n := by
  simp only [numsTo, List.mem_map, List.mem_range]
  constructor
  · rintro ⟨i, hi, rfl⟩
    omega
  · intro h
    exact ⟨x.toNat, by omega, by omega⟩
theorem numsTo_nodup (n : Nat) : (numsTo n).Nodup := by
  unfold numsTo
  exact List.Pairwise.map _ (fun a b h => by omega) List.nodup_range
theorem numsTo_succ (n : Nat) : numsTo (n + 1) = numsTo n ++ [(n : Int)] := by
  unfold numsTo
  rw [List.range_succ, List.map_append]
  rfl
/-- Different numbers of n things, none of them in pre. -/
def diffB (n : Int) : List Int → List Int → Bool
  | _, [] => true
  | pre, x :: r => inB x 0 (n - 1) && (!decide (x ∈ pre) && diffB n (pre ++ [x]) r)
theorem diffB_iff (n : Int) : ∀ (r pre : List Int), diffB n pre r = true ↔ (∀ x ∈ r, 0 ≤ x ∧ x < n) ∧ r.Nodup ∧ ∀ x ∈ r, x ∉ pre
  | [], pre => by simp [diffB]
  | x :: r, pre => by
    rw [diffB, Bool.and_eq_true, Bool.and_eq_true, inB_iff, diffB_iff n r (pre ++ [x])]
    simp only [Bool.not_eq_true', decide_eq_false_iff_not, List.mem_cons, List.nodup_cons, List.mem_append, List.not_mem_nil, or_false, not_or]
    constructor
    · rintro ⟨h1, h2, h3, h4, h5⟩
      refine ⟨?_, ⟨fun hx => (h5 x hx).2 rfl, h4⟩, ?_⟩
      · rintro y (rfl | hy)
        · omega
        · exact h3 y hy
      · rintro y (rfl | hy)
        · exact h2
        · exact (h5 y hy).1
    · rintro ⟨h1, ⟨h2, h3⟩, h4⟩
      exact ⟨⟨(h1 x (.inl rfl)).1, by have := (h1 x (.inl rfl)).2; omega⟩, h4 x (.inl rfl), fun y hy => h1 y (.inr hy), h3, fun y hy => ⟨h4 y (.inr hy), fun e => h2 (e ▸ hy)⟩⟩
/-- An order of n jobs. -/
def orderB (n : Nat) (l : List Int) : Bool := decide ((l.length : Int) = n) && diffB n [] l
def IsOrd (n : Nat) (l : List Int) : Prop := l.length = n ∧ (∀ x ∈ l, 0 ≤ x ∧ x < n) ∧ l.Nodup
theorem IsOrd.perm {n : Nat} {l : List Int} (h : IsOrd n l) : l.Perm (numsTo n) := perm_of l _ h.2.2 (fun x hx => mem_numsTo.2 (h.2.1 x hx)) (by rw [numsTo_length, h.1]; exact Nat.le_refl _)
theorem IsOrd.of_perm {n : Nat} {l : List Int} (h : l.Perm (numsTo n)) : IsOrd n l := ⟨by rw [h.length_eq, numsTo_length], fun x hx => mem_numsTo.1 (h.mem_iff.1 hx), h.nodup_iff.2 (numsTo_nodup n)⟩
theorem IsOrd.mem {n : Nat} {l : List Int} (h : IsOrd n l) {x : Int} : x ∈ l ↔ 0 ≤ x ∧ x < n := by rw [h.perm.mem_iff, mem_numsTo]
def jobB (j : S61) : Bool := inB j.f0 1 50 && (inB j.f1 0 50 && (inB j.f2 0 500 && inB j.f3 0 500))
def goodB (l : List S61) : Bool := l.all jobB && decide ((l.length : Int) ≤ 8)
structure JobOk (j : S61) : Prop where
  t0 : 1 ≤ j.f0
  t1 : j.f0 ≤ 50
  w0 : 0 ≤ j.f1
  w1 : j.f1 ≤ 50
  r0 : 0 ≤ j.f2
  r1 : j.f2 ≤ 500
  d0 : 0 ≤ j.f3
  d1 : j.f3 ≤ 500
def Good (l : List S61) : Prop := l.length ≤ 8 ∧ ∀ j ∈ l, JobOk j
theorem goodB_iff {l : List S61} : goodB l = true ↔ Good l := by
  simp only [goodB, Good, Bool.and_eq_true, List.all_eq_true, decide_eq_true_eq, jobB, inB_iff]
  constructor
  · rintro ⟨h, hl⟩
    exact ⟨by omega, fun j hj => by
      obtain ⟨⟨a, b⟩, ⟨c, d⟩, ⟨e, f⟩, g, i⟩ := h j hj
      exact ⟨a, b, c, d, e, f, g, i⟩⟩
  · rintro ⟨hl, h⟩
    exact ⟨fun j hj => ⟨⟨(h j hj).t0, (h j hj).t1⟩, ⟨(h j hj).w0, (h j hj).w1⟩, ⟨(h j hj).r0, (h j hj).r1⟩, (h j hj).d0, (h j hj).d1⟩, by omega⟩
theorem l2Job_e (j : S61) : spec_l2Job.f j.f0 j.f1 j.f2 j.f3 = some (jobB j) := by
  simp only [spec_l2Job.f, l1In_e, Option.bind_some, ite_and, jobB]
theorem l2Good_l (r : List S61) : ∀ pre : List S61, (pre ++ r).length < 4611686018427387904 → L (fun k => spec_l2Good.l0 k (pre ++ r) (pre.length : Int)) = some (r.all jobB && decide (((pre ++ r).length : Int) ≤ 8)) := by
  induction r with
  | nil =>
    intro pre hb
    rw [L_shift]
    simp only [spec_l2Good.l0, not_lt_end, if_false, L_const]
    simp
  | cons x r ih =>
    intro pre hb
    rw [L_shift]
    have hl : pre.length < 4611686018427387904 := by simp at hb; omega
    have e : rd_T61 (pre ++ x :: r) (pre.length : Int) = x := getD_mid pre x r _
    simp only [spec_l2Good.l0, lt_mid, le_nat, if_true, e, wrap_mid pre x hl, l2Job_e, Option.bind_some, L_ite, L_const]
    rw [app_cons pre x r, ih (pre ++ [x]) (by simpa using hb), ite_and]
    rw [List.all_cons, Bool.and_assoc]
theorem l2Good_L (l : List S61) (h : l.length < 4611686018427387904) : L (fun k => spec_l2Good.f k l) = some (goodB l) := by
  have := l2Good_l l [] (by simpa using h)
  simpa [goodB, spec_l2Good.f] using this
theorem isDate_e (n : Int) : impl_isDate.f n = some (inB n 0 500) := by
  simp only [impl_isDate.f, within_e, Option.bind_some]
theorem IsJobs_l (r : List S61) : ∀ pre : List S61, (pre ++ r).length < 4611686018427387904 → L (fun k => impl_IsJobs.l0 k (pre ++ r) ((pre ++ r).length : Int) (pre.length : Int)) = some (r.all jobB) := by
  induction r with
  | nil =>
    intro pre hb
    rw [L_shift]
    simp only [impl_IsJobs.l0, not_lt_end, if_false, L_const]
    simp
  | cons x r ih =>
    intro pre hb
    rw [L_shift]
    have hl : pre.length < 4611686018427387904 := by simp at hb; omega
    have e : rd_T61 (pre ++ x :: r) (pre.length : Int) = x := getD_mid pre x r _
    simp only [impl_IsJobs.l0, lt_mid, le_nat, if_true, e, wrap_mid pre x hl, within_e, isDate_e, Option.bind_some, L_ite, L_const]
    rw [app_cons pre x r, ih (pre ++ [x]) (by simpa using hb)]
    simp only [ite_and, List.all_cons, jobB, Bool.and_assoc]
theorem IsJobs_L (l : List S61) (h : l.length < 4611686018427387904) : L (fun k => impl_IsJobs.f k l) = some (goodB l) := by
  have := IsJobs_l l [] (by simpa using h)
  simp only [List.nil_append, List.length_nil, Int.natCast_zero] at this
  simp only [impl_IsJobs.f, L_ite, L_const, this, goodB]
  by_cases h8 : (l.length : Int) ≤ 8
  · rw [if_neg (by omega)]
    simp [h8]
  · rw [if_pos (by omega)]
    simp [h8]
def timeSum (l : List S61) : Int := (l.map (·.f0)).sum
theorem timeSum_cons (x : S61) (l : List S61) : timeSum (x :: l) = x.f0 + timeSum l := by simp [timeSum]
theorem timeSum_bounds (l : List S61) (h : ∀ j ∈ l, JobOk j) : 0 ≤ timeSum l ∧ timeSum l ≤ 50 * l.length := by
  induction l with
  | nil => simp [timeSum]
  | cons x l ih =>
    rw [timeSum_cons]
    have := ih (fun j hj => h j (List.mem_cons_of_mem _ hj))
    have hx := h x List.mem_cons_self
    have := hx.t0
    have := hx.t1
    simp only [List.length_cons]
    omega
def jobAt (l : List S61) (x : Int) : S61 := l.getD x.toNat z61
theorem jobAt_mem {l : List S61} {x : Int} (h0 : 0 ≤ x) (h1 : x < l.length) : jobAt l x ∈ l := by
  unfold jobAt
  rw [List.getD_eq_getElem?_getD, List.getElem?_eq_getElem (by omega)]
  exact List.getElem_mem _
/-- The ends, put into out by the jobs' numbers. -/
def endsF (l : List S61) : List Int → List Int → Int → List Int
  | [], out, _ => out
  | x :: r, out, now => endsF l r (out.set x.toNat (max now (jobAt l x).f2 + (jobAt l x).f0)) (max now (jobAt l x).f2 + (jobAt l x).f0)
def startsF (l : List S61) : List Int → List Int → Int → List Int
  | [], out, _ => out
  | x :: r, out, now => startsF l r (out.set x.toNat (max now (jobAt l x).f2)) (max now (jobAt l x).f2 + (jobAt l x).f0)
def endsP (l : List S61) (o : List Int) : List Int := endsF l o (List.replicate l.length 0) 0
def startsP (l : List S61) (o : List Int) : List Int := startsF l o (List.replicate l.length 0) 0
theorem endsF_length (l : List S61) : ∀ (o out : List Int) (now : Int), (endsF l o out now).length = out.length
  | [], out, now => rfl
  | x :: r, out, now => by rw [endsF, endsF_length l r, List.length_set]
theorem startsF_length (l : List S61) : ∀ (o out : List Int) (now : Int), (startsF l o out now).length = out.length
  | [], out, now => rfl
  | x :: r, out, now => by rw [startsF, startsF_length l r, List.length_set]
theorem endsP_length (l : List S61) (o : List Int) : (endsP l o).length = l.length := by rw [endsP, endsF_length, List.length_replicate]
theorem startsP_length (l : List S61) (o : List Int) : (startsP l o).length = l.length := by rw [startsP, startsF_length, List.length_replicate]
theorem ends_starts (l : List S61) : ∀ (o E S : List Int) (now : Int), E.length = l.length → S.length = l.length → (∀ x ∈ o, 0 ≤ x ∧ x < (l.length : Int)) →
    ∀ j : Nat, j < l.length → ((j : Int) ∈ o ∨ E.getD j 0 = S.getD j 0 + (l.getD j z61).f0) → (endsF l o E now).getD j 0 = (startsF l o S now).getD j 0 + (l.getD j z61).f0
  | [], E, S, now, _, _, _, j, _, h => by
    rcases h with h | h
    · cases h
    · exact h
  | x :: r, E, S, now, hE, hS, hx, j, hj, h => by
    rw [endsF, startsF]
    refine ends_starts l r _ _ _ (by rw [List.length_set, hE]) (by rw [List.length_set, hS]) (fun y hy => hx y (List.mem_cons_of_mem _ hy)) j hj ?_
    have hx0 := hx x List.mem_cons_self
    by_cases hr : (j : Int) ∈ r
    · exact .inl hr
    · right
      rw [getD_set, getD_set, hE, hS]
      by_cases e : x.toNat = j
      · rw [if_pos ⟨e, hj⟩, if_pos ⟨e, hj⟩]
        unfold jobAt
        rw [e]
      · rw [if_neg (fun h => e h.1), if_neg (fun h => e h.1)]
        rcases h with h | h
        · rcases List.mem_cons.1 h with h | h
          · exact absurd (by omega) e
          · exact absurd h hr
        · exact h
theorem ends_bounds (l : List S61) (hg : Good l) : ∀ (o E : List Int) (now : Int), 0 ≤ now → now ≤ 500 + 50 * (8 - o.length : Int) → o.length ≤ 8 → (∀ x ∈ o, 0 ≤ x ∧ x < (l.length : Int)) → (∀ v ∈ E, 0 ≤ v ∧ v ≤ 900) → ∀ v ∈ endsF l o E now, 0 ≤ v ∧ v ≤ 900
  | [], E, now, _, _, _, _, hE => hE
  | x :: r, E, now, h0, h1, hl, hx, hE => by
    rw [endsF]
    have hx0 := hx x List.mem_cons_self
    have hj := hg.2 _ (jobAt_mem hx0.1 hx0.2)
    have a0 := hj.t0
    have a1 := hj.t1
    have a2 := hj.r0
    have a3 := hj.r1
    simp only [List.length_cons] at h1 hl
    refine ends_bounds l hg r _ _ (by omega) (by omega) (by omega) (fun y hy => hx y (List.mem_cons_of_mem _ hy)) (fun v hv => ?_)
    rcases List.mem_or_eq_of_mem_set hv with h | h
    · exact hE v h
    · rw [h]
      omega
theorem endsP_bounds {l : List S61} {o : List Int} (hg : Good l) (ho : IsOrd l.length o) : ∀ v ∈ endsP l o, 0 ≤ v ∧ v ≤ 900 :=
  ends_bounds l hg o _ 0 (by omega) (by have := ho.1; have := hg.1; omega) (by have := ho.1; have := hg.1; omega) ho.2.1 (fun v hv => by rw [(List.mem_replicate.1 hv).2]; omega)
theorem endsP_starts {l : List S61} {o : List Int} (ho : IsOrd l.length o) (j : Nat) (hj : j < l.length) : (endsP l o).getD j 0 = (startsP l o).getD j 0 + (l.getD j z61).f0 :=
  ends_starts l o _ _ 0 (by simp) (by simp) ho.2.1 j hj (.inl (ho.mem.2 ⟨by omega, by omega⟩))
theorem endsOf_l (l : List S61) (hg : Good l) (r : List Int) (hx : ∀ x ∈ r, 0 ≤ x ∧ x < (l.length : Int)) : ∀ (pre E : List Int) (now : Int), (pre ++ r).length < 4611686018427387904 → E.length = l.length → 0 ≤ now → now + 50 * r.length ≤ 900 → r.length ≤ 8 →
    L (fun k => impl_endsOf.l0 k l E now (pre ++ r) ((pre ++ r).length : Int) (pre.length : Int)) = some (endsF l r E now) := by
  induction r with
  | nil =>
    intro pre E now hb _ _ _ _
    rw [L_shift]
    simp only [impl_endsOf.l0, not_lt_end, if_false, L_const, endsF]
  | cons x r ih =>
    intro pre E now hb hE h0 h1 h2
    rw [L_shift]
    have hl : pre.length < 4611686018427387904 := by simp at hb; omega
    have hx0 := hx x List.mem_cons_self
    have hj := hg.2 _ (jobAt_mem hx0.1 hx0.2)
    have a0 := hj.t0
    have a1 := hj.t1
    have a2 := hj.r0
    have a3 := hj.r1
    simp only [List.length_cons] at h1 h2
    have e : rd_T61 l x = jobAt l x := rfl
    simp only [impl_endsOf.l0, lt_mid, le_nat, if_true, rd_mid, wrap_mid pre x hl, e, mx_e, if_pos hx0.1, if_pos hx0.2, if_pos (show x < (E.length : Int) by omega), wrap_id (show -9223372036854775808 ≤ max now (jobAt l x).f2 + (jobAt l x).f0 by omega) (show max now (jobAt l x).f2 + (jobAt l x).f0 ≤ 9223372036854775807 by omega)]
    rw [app_cons pre x r, endsF]
    exact ih (fun y hy => hx y (List.mem_cons_of_mem _ hy)) (pre ++ [x]) _ _ (by simpa using hb) (by rw [List.length_set, hE]) (by omega) (by omega) (by omega)
theorem endsOf_L (l : List S61) (o : List Int) (hg : Good l) (ho : IsOrd l.length o) : L (fun k => impl_endsOf.f k l o) = some (endsP l o) := by
  have h8 := hg.1
  have hl := ho.1
  simp only [impl_endsOf.f, le_nat, if_true, Int.toNat_natCast, if_pos (show l.length ≤ 35184372088832 by omega)]
  exact endsOf_l l hg o ho.2.1 [] _ 0 (by simp; omega) (by simp) (by omega) (by omega) (by omega)
theorem l2Starts_l (l : List S61) (hg : Good l) (r : List Int) (hx : ∀ x ∈ r, 0 ≤ x ∧ x < (l.length : Int)) : ∀ (pre E : List Int) (now : Int), (pre ++ r).length < 4611686018427387904 → E.length = l.length → 0 ≤ now → now + 50 * r.length ≤ 900 → r.length ≤ 8 →
    L (fun k => spec_l2Starts.l0 k l (pre ++ r) E now (pre.length : Int)) = some (startsF l r E now) := by
  induction r with
  | nil =>
    intro pre E now hb _ _ _ _
    rw [L_shift]
    simp only [spec_l2Starts.l0, not_lt_end, if_false, L_const, startsF]
  | cons x r ih =>
    intro pre E now hb hE h0 h1 h2
    rw [L_shift]
    have hl : pre.length < 4611686018427387904 := by simp at hb; omega
    have hx0 := hx x List.mem_cons_self
    have hj := hg.2 _ (jobAt_mem hx0.1 hx0.2)
    have a0 := hj.t0
    have a1 := hj.t1
    have a2 := hj.r0
    have a3 := hj.r1
    simp only [List.length_cons] at h1 h2
    have e : rd_T61 l x = jobAt l x := rfl
    have e2 : rd (E.set x.toNat (max now (jobAt l x).f2)) x = max now (jobAt l x).f2 := by
      show (E.set x.toNat (max now (jobAt l x).f2)).getD x.toNat 0 = _
      rw [getD_set, if_pos ⟨rfl, by omega⟩]
    simp only [spec_l2Starts.l0, lt_mid, le_nat, if_true, rd_mid, wrap_mid pre x hl, e, l1Most_e, Option.bind_some, e2, if_pos hx0.1, if_pos hx0.2, if_pos (show x < (E.length : Int) by omega), wrap_id (show -9223372036854775808 ≤ max now (jobAt l x).f2 + (jobAt l x).f0 by omega) (show max now (jobAt l x).f2 + (jobAt l x).f0 ≤ 9223372036854775807 by omega)]
    rw [app_cons pre x r, startsF]
    exact ih (fun y hy => hx y (List.mem_cons_of_mem _ hy)) (pre ++ [x]) _ _ (by simpa using hb) (by rw [List.length_set, hE]) (by omega) (by omega) (by omega)
theorem l2Starts_L (l : List S61) (o : List Int) (hg : Good l) (ho : IsOrd l.length o) : L (fun k => spec_l2Starts.f k l o) = some (startsP l o) := by
  have h8 := hg.1
  have hl := ho.1
  simp only [spec_l2Starts.f, le_nat, if_true, Int.toNat_natCast, if_pos (show l.length ≤ 35184372088832 by omega)]
  exact l2Starts_l l hg o ho.2.1 [] _ 0 (by simp; omega) (by simp) (by omega) (by omega) (by omega)
theorem l2Ends_l (l : List S61) (T : List Int) (hT : T.length = l.length) (hB : ∀ j : Nat, j < l.length → -1000000 ≤ T.getD j 0 + (l.getD j z61).f0 ∧ T.getD j 0 + (l.getD j z61).f0 ≤ 1000000) (h8 : l.length ≤ 8) : ∀ (d i : Nat) (S : List Int), i + d = l.length → S.length = l.length →
    (∀ j : Nat, j < l.length → S.getD j 0 = if j < i then T.getD j 0 + (l.getD j z61).f0 else T.getD j 0) →
    ∃ R : List Int, L (fun k => spec_l2Ends.l0 k l S (i : Int)) = some R ∧ R.length = l.length ∧ ∀ j : Nat, j < l.length → R.getD j 0 = T.getD j 0 + (l.getD j z61).f0
  | 0, i, S, hi, hS, h => by
    refine ⟨S, ?_, hS, fun j hj => by rw [h j hj, if_pos (by omega)]⟩
    rw [L_shift]
    simp only [spec_l2Ends.l0, if_neg (show ¬ (i : Int) < (l.length : Int) by omega), L_const]
  | d + 1, i, S, hi, hS, h => by
    rw [L_shift]
    have hb := hB i (by omega)
    have e1 : rd S (i : Int) = T.getD i 0 := by
      show S.getD (i : Int).toNat 0 = _
      rw [Int.toNat_natCast, h i (by omega), if_neg (by omega)]
    have e2 : rd_T61 l (i : Int) = l.getD i z61 := by
      show l.getD (i : Int).toNat z61 = _
      rw [Int.toNat_natCast]
    have e3 : wrap64 ((i : Int) + 1) = ((i + 1 : Nat) : Int) := by
      rw [wrap_id (by omega) (by omega)]
      omega
    simp only [spec_l2Ends.l0, if_pos (show (i : Int) < (l.length : Int) by omega), if_pos (show (i : Int) < (S.length : Int) by omega), le_nat, if_true, e1, e2, e3, Int.toNat_natCast, wrap_id (show -9223372036854775808 ≤ T.getD i 0 + (l.getD i z61).f0 by omega) (by omega)]
    refine l2Ends_l l T hT hB h8 d (i + 1) _ (by omega) (by rw [List.length_set, hS]) (fun j hj => ?_)
    rw [getD_set]
    by_cases e : i = j
    · subst e
      rw [if_pos ⟨rfl, by omega⟩, if_pos (by omega)]
    · rw [if_neg (fun h => e h.1), h j hj]
      by_cases hji : j < i
      · rw [if_pos hji, if_pos (by omega)]
      · rw [if_neg hji, if_neg (by omega)]
theorem l2Ends_L (l : List S61) (o : List Int) (hg : Good l) (ho : IsOrd l.length o) : L (fun k => spec_l2Ends.f k l o) = some (endsP l o) := by
  simp only [spec_l2Ends.f, L_bind, l2Starts_L l o hg ho, Option.bind_some]
  have hb := endsP_bounds hg ho
  obtain ⟨R, h1, h2, h3⟩ := l2Ends_l l (startsP l o) (startsP_length l o) (fun j hj => by
    rw [← endsP_starts ho j hj]
    have := hb _ (getD_mem (l := endsP l o) (j := j) (by rw [endsP_length]; exact hj))
    omega) hg.1 l.length 0 (startsP l o) (by omega) (startsP_length l o) (fun j hj => by rw [if_neg (by omega)])
  rw [show (0 : Int) = ((0 : Nat) : Int) from rfl, h1]
  congr 1
  refine ext_getD (by rw [h2, endsP_length]) (fun j hj => ?_)
  rw [h3 j (by omega), endsP_starts ho j (by omega)]
def maxTo (v : Int) (l : List Int) : Int := l.foldl max v
theorem mul_bd {w e : Int} (w0 : 0 ≤ w) (w1 : w ≤ 50) (e0 : 0 ≤ e) (e1 : e ≤ 2000) : 0 ≤ w * e ∧ w * e ≤ 100000 := by
  have h1 : w * e ≤ 50 * e := Int.mul_le_mul_of_nonneg_right w1 e0
  have h2 : 0 ≤ w * e := Int.mul_nonneg w0 e0
  omega
/-- What a job with an end adds to a value. -/
def addF (v : Int) (j : S61) (e obj : Int) (first : Bool) : Int :=
  if obj = 1 then max v e else if obj = 2 then v + e else if obj = 3 then v + j.f1 * e else if obj = 4 then (if first = true then e - j.f3 else max v (e - j.f3))
  else if obj = 5 then v + max 0 (e - j.f3) else if obj = 6 then v + j.f1 * max 0 (e - j.f3) else if e - j.f3 ≤ 0 then v else if obj = 7 then v + 1 else v + j.f1
theorem addF_bd (v : Int) (j : S61) (e obj : Int) (first : Bool) (hj : JobOk j) (he0 : 0 ≤ e) (he1 : e ≤ 2000) {B : Int} (hB : 0 ≤ B) (hv0 : -B ≤ v) (hv1 : v ≤ B) : -(B + 100000) ≤ addF v j e obj first ∧ addF v j e obj first ≤ B + 100000 := by
  have a2 := hj.d0
  have a3 := hj.d1
  have m1 := mul_bd hj.w0 hj.w1 he0 he1
  have m2 := mul_bd hj.w0 hj.w1 (show 0 ≤ max 0 (e - j.f3) by omega) (by omega)
  have w0 := hj.w0
  have w1 := hj.w1
  unfold addF
  repeat' split
  all_goals omega
theorem add_e (v : Int) (j : S61) (e obj : Int) (first : Bool) (hj : JobOk j) (he0 : 0 ≤ e) (he1 : e ≤ 2000) (hv0 : -1000000000 ≤ v) (hv1 : v ≤ 1000000000) : impl_add.f v j.f0 j.f1 j.f2 j.f3 e obj first = some (addF v j e obj first) := by
  have a2 := hj.d0
  have a3 := hj.d1
  have m1 := mul_bd hj.w0 hj.w1 he0 he1
  have m2 := mul_bd hj.w0 hj.w1 (show 0 ≤ max 0 (e - j.f3) by omega) (by omega)
  have w0 := hj.w0
  have w1 := hj.w1
  unfold impl_add.f addF
  simp only [mx_e]
  rw [wrap_id (show -9223372036854775808 ≤ e - j.f3 by omega) (by omega), wrap_id (show -9223372036854775808 ≤ v + e by omega) (by omega), wrap_id (show -9223372036854775808 ≤ j.f1 * e by omega) (by omega), wrap_id (show -9223372036854775808 ≤ v + j.f1 * e by omega) (by omega), wrap_id (show -9223372036854775808 ≤ v + max 0 (e - j.f3) by omega) (by omega), wrap_id (show -9223372036854775808 ≤ j.f1 * max 0 (e - j.f3) by omega) (by omega), wrap_id (show -9223372036854775808 ≤ v + j.f1 * max 0 (e - j.f3) by omega) (by omega), wrap_id (show -9223372036854775808 ≤ v + 1 by omega) (by omega), wrap_id (show -9223372036854775808 ≤ v + j.f1 by omega) (by omega)]
  repeat' split
  all_goals first | rfl | contradiction
/-- The value of an objective for ends. -/
def valF (obj : Int) : Int → Bool → List S61 → List Int → Int
  | v, _, [], _ => v
  | v, _, _, [] => v
  | v, first, j :: js, e :: es => valF obj (addF v j e obj first) false js es
def valP (obj : Int) (l : List S61) (es : List Int) : Int := valF obj 0 true l es
theorem valueOfEnds_l (obj : Int) (r : List S61) (hr : ∀ j ∈ r, JobOk j) : ∀ (pre : List S61) (pe es : List Int) (v : Int), (pre ++ r).length < 4611686018427387904 → pe.length = pre.length → es.length = r.length → (∀ e ∈ es, 0 ≤ e ∧ e ≤ 2000) → -(100000 * (1000 - r.length : Int)) ≤ v → v ≤ 100000 * (1000 - r.length : Int) → r.length ≤ 100 →
    L (fun k => impl_valueOfEnds.l0 k (pe ++ es) obj v (pre ++ r) ((pre ++ r).length : Int) (pre.length : Int)) = some (valF obj v (decide (pre.length = 0)) r es) := by
  induction r with
  | nil =>
    intro pre pe es v hb hpe hes _ _ _ _
    rw [L_shift]
    simp only [impl_valueOfEnds.l0, not_lt_end, if_false, L_const, valF]
  | cons x r ih =>
    intro pre pe es v hb hpe hes he h0 h1 h2
    match es, hes with
    | y :: es, hes =>
      rw [L_shift]
      have hl : pre.length < 4611686018427387904 := by simp at hb; omega
      have e : rd_T61 (pre ++ x :: r) (pre.length : Int) = x := getD_mid pre x r _
      have e1 : rd (pe ++ y :: es) (pre.length : Int) = y := by rw [← hpe]; exact rd_mid pe y es
      have e2 : ((pre.length : Int) < ((pe ++ y :: es).length : Int)) = True := by rw [← hpe]; exact lt_mid pe y es
      have e3 : ((pre.length : Int) == 0) = decide (pre.length = 0) := by
        by_cases h : pre.length = 0
        · rw [h]; rfl
        · rw [decide_eq_false h]
          simp
          exact fun e => h (by rw [e]; rfl)
      have hx := hr x List.mem_cons_self
      have hy := he y List.mem_cons_self
      simp only [List.length_cons] at h0 h1 h2 hes
      have hbd := addF_bd v x y obj (decide (pre.length = 0)) hx hy.1 hy.2 (B := 100000 * (1000 - (r.length + 1 : Nat) : Int)) (by omega) (by omega) (by omega)
      simp only [impl_valueOfEnds.l0, lt_mid, le_nat, if_true, e, e1, e2, e3, wrap_mid pre x hl, add_e v x y obj _ hx hy.1 hy.2 (by omega) (by omega), Option.bind_some]
      rw [app_cons pre x r, app_cons pe y es, ih (fun j hj => hr j (List.mem_cons_of_mem _ hj)) (pre ++ [x]) (pe ++ [y]) es _ (by simpa using hb) (by simp [hpe]) (by omega) (fun e he' => he e (List.mem_cons_of_mem _ he')) (by omega) (by omega) (by omega), valF]
      simp
theorem valueOfEnds_L (l : List S61) (hg : Good l) (es : List Int) (hes : es.length = l.length) (he : ∀ e ∈ es, 0 ≤ e ∧ e ≤ 2000) (obj : Int) : L (fun k => impl_valueOfEnds.f k l es obj) = some (valP obj l es) := by
  have h8 := hg.1
  have := valueOfEnds_l obj l hg.2 [] [] es 0 (by simp; omega) rfl hes he (by omega) (by omega) (by omega)
  simpa [impl_valueOfEnds.f, valP] using this
theorem valueOf_L (l : List S61) (o : List Int) (hg : Good l) (ho : IsOrd l.length o) (obj : Int) : L (fun k => impl_valueOf.f k l o obj) = some (valP obj l (endsP l o)) := by
  simp only [impl_valueOf.f, bind_self, L_bind, endsOf_L l o hg ho, Option.bind_some]
  exact valueOfEnds_L l hg _ (endsP_length l o) (fun e he => by have := endsP_bounds hg ho e he; omega) obj
def objB (obj : Int) : Bool := inB obj 1 8
theorem objB_iff {n : Int} : objB n = true ↔ n = 1 ∨ n = 2 ∨ n = 3 ∨ n = 4 ∨ n = 5 ∨ n = 6 ∨ n = 7 ∨ n = 8 := by
  rw [objB, inB_iff]
  omega
theorem l2Cost_e (v : Int) (j : S61) (e obj : Int) (first : Bool) (hj : JobOk j) (he0 : 0 ≤ e) (he1 : e ≤ 2000) (ho : objB obj = true) (h1 : obj ≠ 1) (h4 : obj ≠ 4) : ∃ c, spec_l2Cost.f j.f0 j.f1 j.f2 j.f3 e obj = some c ∧ v + c = addF v j e obj first := by
  have a2 := hj.d0
  have a3 := hj.d1
  have m1 := mul_bd hj.w0 hj.w1 he0 he1
  have m2 := mul_bd hj.w0 hj.w1 (show 0 ≤ max (e - j.f3) 0 by omega) (by omega)
  have em : max (e - j.f3) 0 = max 0 (e - j.f3) := by omega
  simp only [spec_l2Cost.f, l1Most_e, Option.bind_some, wrap_id (show -9223372036854775808 ≤ e - j.f3 by omega) (show e - j.f3 ≤ 9223372036854775807 by omega), wrap_id (show -9223372036854775808 ≤ j.f1 * e by omega) (by omega), wrap_id (show -9223372036854775808 ≤ j.f1 * max (e - j.f3) 0 by omega) (by omega)]
  rcases objB_iff.1 ho with rfl | rfl | rfl | rfl | rfl | rfl | rfl | rfl
  · exact absurd rfl h1
  · exact ⟨_, rfl, rfl⟩
  · exact ⟨_, rfl, rfl⟩
  · exact absurd rfl h4
  · exact ⟨_, rfl, by rw [em]; rfl⟩
  · exact ⟨_, rfl, by rw [em]; rfl⟩
  · by_cases h : e - j.f3 ≤ 0
    · exact ⟨0, by simp; omega, by simp [addF, h]⟩
    · exact ⟨1, by simp; omega, by simp [addF, h]⟩
  · by_cases h : e - j.f3 ≤ 0
    · exact ⟨0, by simp; omega, by simp [addF, h]⟩
    · exact ⟨j.f1, by simp; omega, by simp [addF, h]⟩
theorem l2Of_l (obj : Int) (hobj : objB obj = true) (r : List S61) (hr : ∀ j ∈ r, JobOk j) : ∀ (pre : List S61) (pe es : List Int) (v : Int), (pre ++ r).length < 4611686018427387904 → pe.length = pre.length → es.length = r.length → (∀ e ∈ es, 0 ≤ e ∧ e ≤ 2000) → -(100000 * (1000 - r.length : Int)) ≤ v → v ≤ 100000 * (1000 - r.length : Int) → r.length ≤ 100 → (pre.length = 0 → v = 0) →
    L (fun k => spec_l2Of.l0 k (pre ++ r) (pe ++ es) obj v (pre.length : Int)) = some (valF obj v (decide (pre.length = 0)) r es) := by
  induction r with
  | nil =>
    intro pre pe es v hb hpe hes _ _ _ _ _
    rw [L_shift]
    simp only [spec_l2Of.l0, not_lt_end, if_false, L_const, valF]
  | cons x r ih =>
    intro pre pe es v hb hpe hes he h0 h1 h2 hv
    match es, hes with
    | y :: es, hes =>
      have hl : pre.length < 4611686018427387904 := by simp at hb; omega
      have e : rd_T61 (pre ++ x :: r) (pre.length : Int) = x := getD_mid pre x r _
      have e1 : rd (pe ++ y :: es) (pre.length : Int) = y := by rw [← hpe]; exact rd_mid pe y es
      have e2 : ((pre.length : Int) < ((pe ++ y :: es).length : Int)) = True := by rw [← hpe]; exact lt_mid pe y es
      have hx := hr x List.mem_cons_self
      have hy := he y List.mem_cons_self
      simp only [List.length_cons] at h0 h1 h2 hes
      have hbd := addF_bd v x y obj (decide (pre.length = 0)) hx hy.1 hy.2 (B := 100000 * (1000 - (r.length + 1 : Nat) : Int)) (by omega) (by omega) (by omega)
      have a2 := hx.d0
      have a3 := hx.d1
      have hstep : L (fun k => spec_l2Of.l0 k (pre ++ x :: r) (pe ++ y :: es) obj v (pre.length : Int)) = L (fun k => spec_l2Of.l0 k (pre ++ x :: r) (pe ++ y :: es) obj (addF v x y obj (decide (pre.length = 0))) ((pre ++ [x]).length : Int)) := by
        rw [L_shift]
        simp only [spec_l2Of.l0, lt_mid, le_nat, if_true, e, e1, e2, wrap_mid pre x hl]
        by_cases h4 : obj = 4
        · subst h4
          simp only [spec_l2Greatest.f, Option.bind_some, wrap_id (show -9223372036854775808 ≤ y - x.f3 by omega) (show y - x.f3 ≤ 9223372036854775807 by omega)]
          by_cases hp : pre.length = 0
          · simp [hp, addF]
          · have hp2 : ¬ pre = [] := fun h => hp (by rw [h]; rfl)
            by_cases hc : y - x.f3 > v
            · have : max v (y - x.f3) = y - x.f3 := by omega
              simp [hp2, addF, hc, this]
            · have : max v (y - x.f3) = v := by omega
              simp [hp2, addF, hc, this]
        · by_cases h1' : obj = 1
          · subst h1'
            simp only [spec_l2Greatest.f, Option.bind_some]
            by_cases hp : pre.length = 0
            · have : max v y = y := by have := hv hp; omega
              simp [hp, addF, this]
            · have hp2 : ¬ pre = [] := fun h => hp (by rw [h]; rfl)
              by_cases hc : y > v
              · have : max v y = y := by omega
                simp [hp2, addF, hc, this]
              · have : max v y = v := by omega
                simp [hp2, addF, hc, this]
          · obtain ⟨c, hc, hv2⟩ := l2Cost_e v x y obj (decide (pre.length = 0)) hx hy.1 hy.2 hobj h1' h4
            have hg : spec_l2Greatest.f obj = some false := by simp [spec_l2Greatest.f, h1', h4]
            simp only [hg, Option.bind_some, hc, hv2, wrap_id (show -9223372036854775808 ≤ addF v x y obj (decide (pre.length = 0)) by omega) (show addF v x y obj (decide (pre.length = 0)) ≤ 9223372036854775807 by omega)]
            simp
      rw [hstep, app_cons pre x r, app_cons pe y es, ih (fun j hj => hr j (List.mem_cons_of_mem _ hj)) (pre ++ [x]) (pe ++ [y]) es _ (by simpa using hb) (by simp [hpe]) (by omega) (fun e he' => he e (List.mem_cons_of_mem _ he')) (by omega) (by omega) (by omega) (by simp), valF]
      simp
theorem l2Of_L (l : List S61) (hg : Good l) (es : List Int) (hes : es.length = l.length) (he : ∀ e ∈ es, 0 ≤ e ∧ e ≤ 2000) (obj : Int) (hobj : objB obj = true) : L (fun k => spec_l2Of.f k l es obj) = some (valP obj l es) := by
  have h8 := hg.1
  have := l2Of_l obj hobj l hg.2 [] [] es 0 (by simp; omega) rfl hes he (by omega) (by omega) (by omega) (fun _ => rfl)
  simpa [spec_l2Of.f, valP] using this
theorem l2Value_L (l : List S61) (o : List Int) (hg : Good l) (ho : IsOrd l.length o) (obj : Int) (hobj : objB obj = true) : L (fun k => spec_l2Value.f k l o obj) = some (valP obj l (endsP l o)) := by
  simp only [spec_l2Value.f, bind_self, L_bind, l2Ends_L l o hg ho, Option.bind_some]
  exact l2Of_L l hg _ (endsP_length l o) (fun e he => by have := endsP_bounds hg ho e he; omega) obj hobj
/-- The rule difference of two jobs. -/
def gapJ (obj : Int) (a b : S61) : Int := if obj = 1 then a.f2 - b.f2 else if obj = 2 then a.f0 - b.f0 else if obj = 3 then a.f0 * b.f1 - b.f0 * a.f1 else a.f3 - b.f3
/-- The rule difference by the jobs' numbers. -/
def gapI (l : List S61) (obj x y : Int) : Int := gapJ obj (jobAt l x) (jobAt l y)
theorem copyInts_e (l : List Int) (h : l.length ≤ 1048576) : impl_copyInts.f l = some l := by
  simp only [impl_copyInts.f, Option.bind_some, List.length_nil, List.nil_append]
  rw [if_pos (by omega)]
theorem l1Own_e (l : List Int) (h : l.length ≤ 1048576) : spec_l1Own.f l = some l := by
  simp only [spec_l1Own.f, Option.bind_some, List.length_nil, List.nil_append]
  rw [if_pos (by omega)]
/-- Nothing is to be done of a job now. -/
def skipJ (rest : List Int) (now : Int) (i : Int) (j : S61) : Prop := rd rest i = 0 ∨ j.f2 > now
instance (rest : List Int) (now i : Int) (j : S61) : Decidable (skipJ rest now i j) := by unfold skipJ; infer_instance
def pickStep (l : List S61) (rest : List Int) (now obj b i : Int) (j : S61) : Int :=
  if skipJ rest now i j then b else if b < 0 then i else if obj = 2 then (if rd rest i < rd rest b then i else b) else (if j.f3 < (jobAt l b).f3 then i else b)
/-- The job that is picked: from place i on, b so far. -/
def pickL (l : List S61) (rest : List Int) (now obj : Int) : Int → Nat → List S61 → Int
  | b, _, [] => b
  | b, i, j :: r => pickL l rest now obj (pickStep l rest now obj b (i : Int) j) (i + 1) r
theorem pickStep_or (l : List S61) (rest : List Int) (now obj b i : Int) (j : S61) : pickStep l rest now obj b i j = b ∨ (pickStep l rest now obj b i j = i ∧ ¬ skipJ rest now i j) := by
  unfold pickStep
  by_cases h : skipJ rest now i j
  · exact .inl (if_pos h)
  · rw [if_neg h]
    repeat' split
    all_goals first | exact .inl rfl | exact .inr ⟨rfl, h⟩
theorem pickStep_neg {l : List S61} {rest : List Int} {now obj b i : Int} {j : S61} (hi : 0 ≤ i) (h : pickStep l rest now obj b i j < 0) : b < 0 ∧ skipJ rest now i j := by
  unfold pickStep at h
  by_cases hs : skipJ rest now i j
  · rw [if_pos hs] at h
    exact ⟨h, hs⟩
  · rw [if_neg hs] at h
    exfalso
    split at h
    · omega
    · split at h
      · split at h <;> omega
      · split at h <;> omega
theorem pickL_neg (l : List S61) (rest : List Int) (now obj : Int) : ∀ (r pre : List S61) (b : Int), pickL l rest now obj b pre.length r < 0 → b < 0 ∧ ∀ (i : Nat) (j : S61), r[i]? = some j → skipJ rest now ((pre.length + i : Nat) : Int) j
  | [], pre, b, h => ⟨h, fun i j hj => by simp at hj⟩
  | x :: r, pre, b, h => by
    rw [pickL] at h
    have e : pre.length + 1 = (pre ++ [x]).length := by simp
    rw [e] at h
    obtain ⟨h1, h2⟩ := pickL_neg l rest now obj r (pre ++ [x]) _ h
    obtain ⟨h3, h4⟩ := pickStep_neg (by omega) h1
    refine ⟨h3, fun i j hj => ?_⟩
    cases i with
    | zero =>
      simp only [List.getElem?_cons_zero, Option.some.injEq] at hj
      subst hj
      exact h4
    | succ i =>
      have := h2 i j (by simpa using hj)
      have e2 : (pre ++ [x]).length + i = pre.length + (i + 1) := by simp; omega
      rwa [e2] at this
theorem pickL_pos (l : List S61) (rest : List Int) (now obj : Int) : ∀ (r pre : List S61) (b : Int), pickL l rest now obj b pre.length r = b ∨ ∃ (i : Nat) (j : S61), r[i]? = some j ∧ pickL l rest now obj b pre.length r = ((pre.length + i : Nat) : Int) ∧ ¬ skipJ rest now ((pre.length + i : Nat) : Int) j
  | [], pre, b => .inl rfl
  | x :: r, pre, b => by
    rw [pickL]
    have e : pre.length + 1 = (pre ++ [x]).length := by simp
    rw [e]
    rcases pickL_pos l rest now obj r (pre ++ [x]) (pickStep l rest now obj b pre.length x) with h | ⟨i, j, h1, h2, h3⟩
    · rw [h]
      rcases pickStep_or l rest now obj b pre.length x with h | ⟨h1, h2⟩
      · exact .inl h
      · exact .inr ⟨0, x, rfl, h1, h2⟩
    · have e2 : (pre ++ [x]).length + i = pre.length + (i + 1) := by simp; omega
      rw [e2] at h2 h3
      exact .inr ⟨i + 1, j, by simpa using h1, h2, h3⟩
def pickP (l : List S61) (rest : List Int) (now obj : Int) : Int := pickL l rest now obj (-1) 0 l
theorem pickP_neg {l : List S61} {rest : List Int} {now obj : Int} (h : pickP l rest now obj < 0) : ∀ i : Nat, i < l.length → rest.getD i 0 = 0 ∨ (l.getD i z61).f2 > now := fun i hi => by
  have := (pickL_neg l rest now obj l [] (-1) h).2 i (l.getD i z61) (by rw [List.getD_eq_getElem?_getD, List.getElem?_eq_getElem hi]; rfl)
  simpa [skipJ, rd] using this
theorem pickP_pos {l : List S61} {rest : List Int} {now obj : Int} (h : 0 ≤ pickP l rest now obj) : pickP l rest now obj < (l.length : Int) ∧ rd rest (pickP l rest now obj) ≠ 0 := by
  rcases pickL_pos l rest now obj l [] (-1) with h1 | ⟨i, j, h1, h2, h3⟩
  · unfold pickP at h
    simp only [List.length_nil] at h1
    omega
  · simp only [List.length_nil, Nat.zero_add] at h2 h3
    have hi : i < l.length := (List.getElem?_eq_some_iff.1 h1).1
    unfold pickP
    rw [h2]
    exact ⟨by omega, fun e => h3 (.inl e)⟩
theorem spec_l5Pick_j1 (x0 : List (S61)) (x1 : List Int) (x2 : Int) (x3 : Int) (x9 : Int) (x10 : Int) (x30 : Bool) : L (fun k => spec_l5Pick.j1 k x0 x1 x2 x3 x9 x10 x30) = L (fun k => if x30 = true then (spec_l5Pick.l0 k x0 x1 x2 x3 x9 (wrap64 (x10 + 1))) else (if x9 < 0 then (spec_l5Pick.l0 k x0 x1 x2 x3 x10 (wrap64 (x10 + 1))) else (if x3 = 2 then (if 0 ≤ x10 then (if x10 < (x1.length : Int) then (if 0 ≤ x9 then (if x9 < (x1.length : Int) then (if (rd x1 x10) < (rd x1 x9) then (spec_l5Pick.l0 k x0 x1 x2 x3 x10 (wrap64 (x10 + 1))) else (if x3 = 4 then (if x10 < (x0.length : Int) then (if x9 < (x0.length : Int) then (if ((rd_T61 x0 x10).f3) < ((rd_T61 x0 x9).f3) then (spec_l5Pick.l0 k x0 x1 x2 x3 x10 (wrap64 (x10 + 1))) else (spec_l5Pick.l0 k x0 x1 x2 x3 x9 (wrap64 (x10 + 1)))) else (none)) else (none)) else (spec_l5Pick.l0 k x0 x1 x2 x3 x9 (wrap64 (x10 + 1))))) else (none)) else (none)) else (none)) else (none)) else (if x3 = 4 then (if 0 ≤ x10 then (if x10 < (x0.length : Int) then (if 0 ≤ x9 then (if x9 < (x0.length : Int) then (if ((rd_T61 x0 x10).f3) < ((rd_T61 x0 x9).f3) then (spec_l5Pick.l0 k x0 x1 x2 x3 x10 (wrap64 (x10 + 1))) else (spec_l5Pick.l0 k x0 x1 x2 x3 x9 (wrap64 (x10 + 1)))) else (none)) else (none)) else (none)) else (none)) else (spec_l5Pick.l0 k x0 x1 x2 x3 x9 (wrap64 (x10 + 1))))))) := by
  rw [L_shift]
  simp only [spec_l5Pick.j1]
theorem l5Pick_l (l : List S61) (rest : List Int) (now obj : Int) (hobj : obj = 2 ∨ obj = 4) (hrest : rest.length = l.length) (h8 : l.length ≤ 1000) (r : List S61) : ∀ (pre : List S61) (b : Int), l = pre ++ r → (b < 0 ∨ (0 ≤ b ∧ b < (l.length : Int))) →
    L (fun k => spec_l5Pick.l0 k l rest now obj b (pre.length : Int)) = some (pickL l rest now obj b pre.length r) := by
  induction r with
  | nil =>
    intro pre b hl hb
    rw [L_shift]
    subst hl
    simp only [spec_l5Pick.l0, not_lt_end, if_false, L_const, pickL]
  | cons x r ih =>
    intro pre b hl hb
    have hlen : l.length = pre.length + (r.length + 1) := by rw [hl]; simp
    have e : rd_T61 l (pre.length : Int) = x := by rw [hl]; exact getD_mid pre x r _
    have ew : wrap64 ((pre.length : Int) + 1) = ((pre ++ [x]).length : Int) := wrap_mid pre x (by omega)
    have ihs := ih (pre ++ [x]) (pickStep l rest now obj b pre.length x) (by rw [hl]; simp) (by
      rcases pickStep_or l rest now obj b pre.length x with h | ⟨h, _⟩
      · rw [h]; exact hb
      · rw [h]; right; omega)
    have el : (pre ++ [x]).length = pre.length + 1 := by simp
    have key : L (fun k => spec_l5Pick.l0 k l rest now obj b (pre.length : Int)) = L (fun k => spec_l5Pick.l0 k l rest now obj (pickStep l rest now obj b pre.length x) ((pre ++ [x]).length : Int)) := by
      rw [L_shift]
      simp only [spec_l5Pick.l0, if_pos (show (pre.length : Int) < (l.length : Int) by omega), le_nat, if_true, if_pos (show (pre.length : Int) < (rest.length : Int) by omega), e, L_ite, spec_l5Pick_j1, ew]
      by_cases hr0 : rd rest (pre.length : Int) = 0
      · have hp : pickStep l rest now obj b pre.length x = b := if_pos (.inl hr0)
        simp only [if_pos hr0, hp, if_true]
      · rw [if_neg hr0]
        by_cases hrel : x.f2 > now
        · have hp : pickStep l rest now obj b pre.length x = b := if_pos (.inr hrel)
          rw [hp, decide_eq_true hrel]
          simp
        · have hsk : ¬ skipJ rest now pre.length x := fun h => h.elim hr0 hrel
          rw [decide_eq_false hrel]
          simp only [Bool.false_eq_true, if_false]
          unfold pickStep
          rw [if_neg hsk]
          by_cases hb0 : b < 0
          · rw [if_pos hb0, if_pos hb0]
          · rw [if_neg hb0, if_neg hb0]
            have hb1 : 0 ≤ b ∧ b < (l.length : Int) := by omega
            have e3 : rd_T61 l b = jobAt l b := rfl
            rcases hobj with rfl | rfl
            · simp only [if_pos (show (pre.length : Int) < (rest.length : Int) by omega), if_pos hb1.1, if_pos (show b < (rest.length : Int) by omega), if_true]
              by_cases hc : rd rest (pre.length : Int) < rd rest b
              · simp only [if_pos hc]
              · simp only [if_neg hc, if_neg (show ¬ ((2 : Int) = 4) by decide)]
            · simp only [if_neg (show ¬ ((4 : Int) = 2) by decide), if_true, if_pos (show (pre.length : Int) < (l.length : Int) by omega), if_pos hb1.1, if_pos hb1.2, e3]
              by_cases hc : x.f3 < (jobAt l b).f3
              · simp only [if_pos hc]
              · simp only [if_neg hc]
    rw [key, ihs, pickL, el]
theorem l5Pick_L (l : List S61) (rest : List Int) (now obj : Int) (hobj : obj = 2 ∨ obj = 4) (hrest : rest.length = l.length) (h8 : l.length ≤ 1000) : L (fun k => spec_l5Pick.f k l rest now obj) = some (pickP l rest now obj) := by
  have := l5Pick_l l rest now obj hobj hrest h8 l [] (-1) rfl (by omega)
  simpa [spec_l5Pick.f, pickP] using this
theorem impl_choose_j4 (x0 : List (S61)) (x2 : Int) (x8 : List Int) (x9 : List Int) (x10 : Int) (x11 : Int) (x16 : List (S92)) (x17 : Int) (x18 : Int) (x76 : List (S61)) (x77 : Int) (x78 : Int) (x93 : Bool) (x393000 : Int) (x393001 : Int) (x393002 : Int) (x393003 : Int) : L (fun k => impl_choose.j4 k x0 x2 x8 x9 x10 x11 x16 x17 x18 x76 x77 x78 x93 x393000 x393001 x393002 x393003) = L (fun k => if x93 = true then (impl_choose.l3 k x0 x2 x8 x9 x10 x11 x16 x17 x76 x77 (wrap64 (x78 + 1))) else (if x17 < 0 then (impl_choose.l3 k x0 x2 x8 x9 x10 x11 x16 x18 x76 x77 (wrap64 (x78 + 1))) else (if x2 = 2 then (if 0 ≤ x18 then (if x18 < (x8.length : Int) then (if 0 ≤ x17 then (if x17 < (x8.length : Int) then (if (rd x8 x18) < (rd x8 x17) then (impl_choose.l3 k x0 x2 x8 x9 x10 x11 x16 x18 x76 x77 (wrap64 (x78 + 1))) else (impl_choose.l3 k x0 x2 x8 x9 x10 x11 x16 x17 x76 x77 (wrap64 (x78 + 1)))) else (none)) else (none)) else (none)) else (none)) else (if 0 ≤ x17 then (if x17 < (x0.length : Int) then (if x393003 < ((rd_T61 x0 x17).f3) then (impl_choose.l3 k x0 x2 x8 x9 x10 x11 x16 x18 x76 x77 (wrap64 (x78 + 1))) else (impl_choose.l3 k x0 x2 x8 x9 x10 x11 x16 x17 x76 x77 (wrap64 (x78 + 1)))) else (none)) else (none))))) := by
  rw [L_shift]
  simp only [impl_choose.j4]
theorem choose_scan (l : List S61) (rest ends : List Int) (left now obj : Int) (spans : List S92) (hobj : obj = 2 ∨ obj = 4) (hrest : rest.length = l.length) (h8 : l.length ≤ 1000) (r : List S61) : ∀ (pre : List S61) (b : Int), l = pre ++ r → (b < 0 ∨ (0 ≤ b ∧ b < (l.length : Int))) →
    L (fun k => impl_choose.l3 k l obj rest ends left now spans b l (l.length : Int) (pre.length : Int)) = L (fun k => impl_choose.l3 k l obj rest ends left now spans (pickL l rest now obj b pre.length r) l (l.length : Int) (l.length : Int)) := by
  induction r with
  | nil =>
    intro pre b hl hb
    subst hl
    simp only [List.append_nil, pickL]
  | cons x r ih =>
    intro pre b hl hb
    have hlen : l.length = pre.length + (r.length + 1) := by rw [hl]; simp
    have e : rd_T61 l (pre.length : Int) = x := by rw [hl]; exact getD_mid pre x r _
    have ew : wrap64 ((pre.length : Int) + 1) = ((pre ++ [x]).length : Int) := wrap_mid pre x (by omega)
    have ihs := ih (pre ++ [x]) (pickStep l rest now obj b pre.length x) (by rw [hl]; simp) (by
      rcases pickStep_or l rest now obj b pre.length x with h | ⟨h, _⟩
      · rw [h]; exact hb
      · rw [h]; right; omega)
    have el : (pre ++ [x]).length = pre.length + 1 := by simp
    have key : L (fun k => impl_choose.l3 k l obj rest ends left now spans b l (l.length : Int) (pre.length : Int)) = L (fun k => impl_choose.l3 k l obj rest ends left now spans (pickStep l rest now obj b pre.length x) l (l.length : Int) ((pre ++ [x]).length : Int)) := by
      rw [L_shift]
      simp only [impl_choose.l3, if_pos (show (pre.length : Int) < (l.length : Int) by omega), le_nat, if_true, if_pos (show (pre.length : Int) < (rest.length : Int) by omega), e, L_ite, impl_choose_j4, ew]
      by_cases hr0 : rd rest (pre.length : Int) = 0
      · have hp : pickStep l rest now obj b pre.length x = b := if_pos (.inl hr0)
        simp only [if_pos hr0, hp, if_true]
      · rw [if_neg hr0]
        by_cases hrel : x.f2 > now
        · have hp : pickStep l rest now obj b pre.length x = b := if_pos (.inr hrel)
          rw [hp, decide_eq_true hrel]
          simp
        · have hsk : ¬ skipJ rest now pre.length x := fun h => h.elim hr0 hrel
          rw [decide_eq_false hrel]
          simp only [Bool.false_eq_true, if_false]
          unfold pickStep
          rw [if_neg hsk]
          by_cases hb0 : b < 0
          · rw [if_pos hb0, if_pos hb0]
          · rw [if_neg hb0, if_neg hb0]
            have hb1 : 0 ≤ b ∧ b < (l.length : Int) := by omega
            have e3 : rd_T61 l b = jobAt l b := rfl
            rcases hobj with rfl | rfl
            · simp only [if_pos (show (pre.length : Int) < (rest.length : Int) by omega), if_pos hb1.1, if_pos (show b < (rest.length : Int) by omega), if_true]
              by_cases hc : rd rest (pre.length : Int) < rd rest b
              · simp only [if_pos hc]
              · simp only [if_neg hc]
            · simp only [if_neg (show ¬ ((4 : Int) = 2) by decide), if_pos hb1.1, if_pos hb1.2, e3]
              by_cases hc : x.f3 < (jobAt l b).f3
              · simp only [if_pos hc]
              · simp only [if_neg hc]
    rw [key, ihs, pickL, el]
theorem sum_nonneg : ∀ l : List Int, (∀ v ∈ l, 0 ≤ v) → 0 ≤ l.sum
  | [], _ => by simp
  | x :: l, h => by
    have h1 := h x List.mem_cons_self
    have h2 := sum_nonneg l (fun v hv => h v (List.mem_cons_of_mem _ hv))
    rw [List.sum_cons]
    omega
theorem sum_set : ∀ (l : List Int) (i : Nat) (v : Int), i < l.length → (l.set i v).sum = l.sum - l.getD i 0 + v
  | [], i, v, h => by simp at h
  | x :: l, 0, v, h => by
    simp only [List.set_cons_zero, List.sum_cons, List.getD_cons_zero]
    omega
  | x :: l, i + 1, v, h => by
    have := sum_set l i v (by simpa using h)
    simp only [List.set_cons_succ, List.sum_cons, List.getD_cons_succ, this]
    omega
theorem sum_zero : ∀ l : List Int, (∀ i : Nat, i < l.length → l.getD i 0 = 0) → l.sum = 0
  | [], _ => rfl
  | x :: l, h => by
    have h1 := h 0 (by simp)
    have h2 := sum_zero l (fun i hi => by
      have := h (i + 1) (by simpa using hi)
      rwa [List.getD_cons_succ] at this)
    rw [List.getD_cons_zero] at h1
    rw [List.sum_cons, h1, h2]
    rfl
/-- One more step of a job at a time. -/
def spansUp (spans : List S92) (p now : Int) : List S92 :=
  if 0 < spans.length ∧ (spans.getD (spans.length - 1) z92).f0 = p ∧ (spans.getD (spans.length - 1) z92).f2 = now then spans.set (spans.length - 1) ⟨(spans.getD (spans.length - 1) z92).f0, (spans.getD (spans.length - 1) z92).f1, now + 1⟩ else spans ++ [⟨p, now, now + 1⟩]
theorem spansUp_length (spans : List S92) (p now : Int) : (spansUp spans p now).length ≤ spans.length + 1 := by
  unfold spansUp
  split <;> simp
/-- The state of a choice: what is left, and when. -/
structure ChSt (l : List S61) (rest : List Int) (left now : Int) : Prop where
  len : rest.length = l.length
  nn : ∀ v ∈ rest, 0 ≤ v
  sum : left = rest.sum
  now0 : 0 ≤ now
theorem ChSt.pick_neg {l : List S61} {rest : List Int} {left now obj : Int} (hg : Good l) (h : ChSt l rest left now) (hl : 0 < left) (hp : pickP l rest now obj < 0) : now ≤ 499 := by
  refine Classical.byContradiction fun hc => ?_
  have hz : rest.sum = 0 := sum_zero rest (fun i hi => by
    rw [h.len] at hi
    rcases pickP_neg hp i hi with h0 | h0
    · exact h0
    · have hm : l.getD i z61 ∈ l := by
        rw [List.getD_eq_getElem?_getD, List.getElem?_eq_getElem hi]
        exact List.getElem_mem _
      have := (hg.2 _ hm).r1
      omega)
  have := h.sum
  omega
theorem ChSt.step {l : List S61} {rest : List Int} {left now : Int} {p : Int} (h : ChSt l rest left now) (hp0 : 0 ≤ p) (hp1 : p < (l.length : Int)) (hr : rd rest p ≠ 0) : ChSt l (rest.set p.toNat (rd rest p - 1)) (left - 1) (now + 1) ∧ 1 ≤ rd rest p := by
  have hlen := h.len
  have hm : rd rest p ∈ rest := getD_mem (l := rest) (j := p.toNat) (by omega)
  have hn := h.nn _ hm
  have hr1 : 1 ≤ rd rest p := by omega
  refine ⟨⟨by rw [List.length_set, h.len], fun v hv => ?_, ?_, by have := h.now0; omega⟩, hr1⟩
  · rcases List.mem_or_eq_of_mem_set hv with h1 | h1
    · exact h.nn v h1
    · omega
  · rw [sum_set rest p.toNat _ (by omega), h.sum]
    show rest.sum - 1 = rest.sum - rd rest p + (rd rest p - 1)
    omega
theorem choose_spec_step (l : List S61) (rest : List Int) (left now obj : Int) (spans : List S92) (hobj : obj = 2 ∨ obj = 4) (h : ChSt l rest left now) (h8 : l.length ≤ 1000) (hl : 0 < left) (hl2 : left ≤ 100000) (hn : now ≤ 100000) (hs : spans.length ≤ 100000) :
    L (fun k => spec_l5Choose.l1 k l obj spans rest left now) = if pickP l rest now obj < 0 then L (fun k => spec_l5Choose.l1 k l obj spans rest left (now + 1)) else L (fun k => spec_l5Choose.l1 k l obj (spansUp spans (pickP l rest now obj) now) (rest.set (pickP l rest now obj).toNat (rd rest (pickP l rest now obj) - 1)) (left - 1) (now + 1)) := by
  have hlen := h.len
  have hnow := h.now0
  rw [L_shift]
  have ew : wrap64 ((spans.length : Int) - 1) = (spans.length : Int) - 1 := wrap_id (by omega) (by omega)
  have en : wrap64 (now + 1) = now + 1 := wrap_id (by omega) (by omega)
  have elf : wrap64 (left - 1) = left - 1 := wrap_id (by omega) (by omega)
  simp only [spec_l5Choose.l1, if_pos (show left > 0 by omega), L_bind, l5Pick_L l rest now obj hobj h.len h8, Option.bind_some, L_ite, L_const, ew, en, elf]
  by_cases hp : pickP l rest now obj < 0
  · rw [if_pos hp, if_pos hp]
  · rw [if_neg hp, if_neg hp]
    have hp0 : 0 ≤ pickP l rest now obj := by omega
    obtain ⟨hp1, hr⟩ := pickP_pos hp0
    obtain ⟨_, hr1⟩ := h.step hp0 hp1 hr
    have er : wrap64 (rd rest (pickP l rest now obj) - 1) = rd rest (pickP l rest now obj) - 1 := by
      have hle : rd rest (pickP l rest now obj) ≤ rest.sum := by
        have hm := (sum_set rest (pickP l rest now obj).toNat 0 (by omega))
        have h2 := sum_nonneg (rest.set (pickP l rest now obj).toNat 0) (fun v hv => by
          rcases List.mem_or_eq_of_mem_set hv with h1 | h1
          · exact h.nn v h1
          · omega)
        show rest.getD (pickP l rest now obj).toNat 0 ≤ _
        omega
      have := h.sum
      exact wrap_id (by omega) (by omega)
    have e0 : ∀ i : Int, rd_T92 spans i = spans.getD i.toNat z92 := fun _ => rfl
    have e1 : ((spans.length : Int) - 1).toNat = spans.length - 1 := by omega
    simp only [er, e0, e1, if_pos hp0, if_pos (show pickP l rest now obj < (rest.length : Int) by omega), if_pos (show spans.length < 5864062014805 by omega)]
    unfold spansUp
    by_cases hz : 0 < spans.length
    · rw [if_pos (show (spans.length : Int) - 1 ≥ 0 by omega), if_pos (show (0 : Int) ≤ (spans.length : Int) - 1 by omega), if_pos (show (spans.length : Int) - 1 < (spans.length : Int) by omega)]
      by_cases h0 : (spans.getD (spans.length - 1) z92).f0 = pickP l rest now obj
      · rw [if_pos h0]
        by_cases h2 : (spans.getD (spans.length - 1) z92).f2 = now
        · rw [if_pos h2, if_pos (show 0 < spans.length ∧ _ ∧ _ from ⟨hz, h0, h2⟩)]
        · rw [if_neg h2, if_neg (fun hh => h2 hh.2.2)]
      · rw [if_neg h0, if_neg (fun hh => h0 hh.2.1)]
    · rw [if_neg (show ¬ ((spans.length : Int) - 1 ≥ 0) by omega), if_neg (fun hh => hz hh.1)]
theorem choose_impl_step (l : List S61) (rest ends : List Int) (left now obj : Int) (spans : List S92) (hobj : obj = 2 ∨ obj = 4) (h : ChSt l rest left now) (he : ends.length = l.length) (h8 : l.length ≤ 1000) (hl : 0 < left) (hl2 : left ≤ 100000) (hn : now ≤ 100000) (hs : spans.length ≤ 100000) :
    L (fun k => impl_choose.l2 k l obj rest ends left now spans) = if pickP l rest now obj < 0 then L (fun k => impl_choose.l2 k l obj rest ends left (now + 1) spans) else L (fun k => impl_choose.l2 k l obj (rest.set (pickP l rest now obj).toNat (rd rest (pickP l rest now obj) - 1)) (ends.set (pickP l rest now obj).toNat (now + 1)) (left - 1) (now + 1) (spansUp spans (pickP l rest now obj) now)) := by
  have hlen := h.len
  have hnow := h.now0
  have hsc := choose_scan l rest ends left now obj spans hobj h.len h8 l [] (-1) rfl (by omega)
  simp only [List.length_nil, Int.natCast_zero] at hsc
  rw [L_shift]
  simp only [impl_choose.l2, if_pos (show left > 0 by omega), hsc]
  rw [L_shift]
  have ew : wrap64 ((spans.length : Int) - 1) = (spans.length : Int) - 1 := wrap_id (by omega) (by omega)
  have en : wrap64 (now + 1) = now + 1 := wrap_id (by omega) (by omega)
  have elf : wrap64 (left - 1) = left - 1 := wrap_id (by omega) (by omega)
  have epp : pickL l rest now obj (-1) 0 l = pickP l rest now obj := rfl
  simp only [impl_choose.l3, if_neg (show ¬ ((l.length : Int) < (l.length : Int)) by omega), epp, L_ite, L_const, ew, en, elf]
  by_cases hp : pickP l rest now obj < 0
  · rw [if_pos hp, if_pos hp]
  · rw [if_neg hp, if_neg hp]
    have hp0 : 0 ≤ pickP l rest now obj := by omega
    obtain ⟨hp1, hr⟩ := pickP_pos hp0
    obtain ⟨_, hr1⟩ := h.step hp0 hp1 hr
    have er : wrap64 (rd rest (pickP l rest now obj) - 1) = rd rest (pickP l rest now obj) - 1 := by
      have hle : rd rest (pickP l rest now obj) ≤ rest.sum := by
        have hm := (sum_set rest (pickP l rest now obj).toNat 0 (by omega))
        have h2 := sum_nonneg (rest.set (pickP l rest now obj).toNat 0) (fun v hv => by
          rcases List.mem_or_eq_of_mem_set hv with h1 | h1
          · exact h.nn v h1
          · omega)
        show rest.getD (pickP l rest now obj).toNat 0 ≤ _
        omega
      have := h.sum
      exact wrap_id (by omega) (by omega)
    have e0 : ∀ i : Int, rd_T92 spans i = spans.getD i.toNat z92 := fun _ => rfl
    have e1 : ((spans.length : Int) - 1).toNat = spans.length - 1 := by omega
    simp only [er, e0, e1, if_pos hp0, if_pos (show pickP l rest now obj < (rest.length : Int) by omega), if_pos (show pickP l rest now obj < (ends.length : Int) by omega), if_pos (show spans.length < 5864062014805 by omega)]
    unfold spansUp
    by_cases hz : 0 < spans.length
    · rw [if_pos (show (spans.length : Int) - 1 ≥ 0 by omega), if_pos (show (0 : Int) ≤ (spans.length : Int) - 1 by omega), if_pos (show (spans.length : Int) - 1 < (spans.length : Int) by omega)]
      by_cases h0 : (spans.getD (spans.length - 1) z92).f0 = pickP l rest now obj
      · rw [if_pos h0]
        by_cases h2 : (spans.getD (spans.length - 1) z92).f2 = now
        · rw [if_pos h2, if_pos (show 0 < spans.length ∧ _ ∧ _ from ⟨hz, h0, h2⟩), h2, en]
        · rw [if_neg h2, if_neg (fun hh => h2 hh.2.2)]
      · rw [if_neg h0, if_neg (fun hh => h0 hh.2.1)]
    · rw [if_neg (show ¬ ((spans.length : Int) - 1 ≥ 0) by omega), if_neg (fun hh => hz hh.1)]
def timesP (l : List S61) : List Int := l.map (·.f0)
theorem timesP_length (l : List S61) : (timesP l).length = l.length := by simp [timesP]
theorem timesP_sum (l : List S61) : (timesP l).sum = timeSum l := rfl
theorem l5Rests_l (r : List S61) : ∀ (pre : List S61) (out : List Int), (pre ++ r).length < 1000000 → out.length + r.length < 1000000 → L (fun k => spec_l5Rests.l0 k (pre ++ r) out (pre.length : Int)) = some (out ++ timesP r) := by
  induction r with
  | nil =>
    intro pre out hb hc
    rw [L_shift]
    simp only [spec_l5Rests.l0, not_lt_end, if_false, L_const]
    simp [timesP]
  | cons x r ih =>
    intro pre out hb hc
    rw [L_shift]
    have hl : pre.length < 4611686018427387904 := by simp at hb; omega
    simp only [List.length_cons] at hc
    have e : rd_T61 (pre ++ x :: r) (pre.length : Int) = x := getD_mid pre x r _
    simp only [spec_l5Rests.l0, lt_mid, le_nat, if_true, e, wrap_mid pre x hl, if_pos (show out.length < 17592186044416 by omega)]
    rw [app_cons pre x r, ih (pre ++ [x]) _ (by simpa using hb) (by simp; omega)]
    simp [timesP]
theorem l5Rests_L (l : List S61) (h : l.length < 100000) : L (fun k => spec_l5Rests.f k l) = some (timesP l) := by
  have := l5Rests_l l [] [] (by simp; omega) (by simp; omega)
  simpa [spec_l5Rests.f] using this
theorem l5Choose_l (l : List S61) (obj from_ : Int) (r : List Int) (hr : ∀ v ∈ r, 0 ≤ v ∧ v ≤ 1000) : ∀ (pre : List Int) (left : Int), (pre ++ r).length < 100000 → 0 ≤ left → left + 1000 * r.length ≤ 1000000000 →
    L (fun k => spec_l5Choose.l0 k l from_ obj [] (pre ++ r) left (pre.length : Int)) = L (fun k => spec_l5Choose.l1 k l obj [] (pre ++ r) (left + r.sum) from_) := by
  induction r with
  | nil =>
    intro pre left hb h0 h1
    rw [L_shift]
    simp only [spec_l5Choose.l0, not_lt_end, if_false]
    simp
  | cons x r ih =>
    intro pre left hb h0 h1
    rw [L_shift]
    have hl : pre.length < 4611686018427387904 := by simp at hb; omega
    have hx := hr x List.mem_cons_self
    simp only [List.length_cons] at h1
    simp only [spec_l5Choose.l0, lt_mid, le_nat, if_true, rd_mid, wrap_mid pre x hl, wrap_id (show -9223372036854775808 ≤ left + x by omega) (show left + x ≤ 9223372036854775807 by omega)]
    rw [app_cons pre x r, ih (fun v hv => hr v (List.mem_cons_of_mem _ hv)) (pre ++ [x]) _ (by simpa using hb) (by omega) (by omega), List.sum_cons]
    simp only [Int.add_assoc]
theorem l5Choose_L (l : List S61) (obj from_ : Int) (rest : List Int) (hr : ∀ v ∈ rest, 0 ≤ v ∧ v ≤ 1000) (h : rest.length < 1000) : L (fun k => spec_l5Choose.f k l rest from_ obj) = L (fun k => spec_l5Choose.l1 k l obj [] rest rest.sum from_) := by
  have := l5Choose_l l obj from_ rest hr [] 0 (by simp; omega) (by omega) (by omega)
  simp only [List.nil_append, List.length_nil, Int.natCast_zero, Int.zero_add] at this
  simp only [spec_l5Choose.f, l1Own_e rest (by omega), Option.bind_some, this]
/-- The ends that spans tell, put over E. -/
def replay (E : List Int) (S : List S92) : List Int := S.foldl (fun e s => e.set s.f0.toNat s.f2) E
theorem replay_length (S : List S92) : ∀ E : List Int, (replay E S).length = E.length := by
  induction S with
  | nil => intro E; rfl
  | cons s S ih =>
    intro E
    show (replay (E.set s.f0.toNat s.f2) S).length = E.length
    rw [ih, List.length_set]
theorem replay_up (E : List Int) (spans : List S92) (p now : Int) : replay E (spansUp spans p now) = (replay E spans).set p.toNat (now + 1) := by
  unfold spansUp
  rcases List.eq_nil_or_concat spans with rfl | ⟨S, s, rfl⟩
  · rw [if_neg (by simp)]
    rfl
  · have e1 : (S ++ [s]).length - 1 = S.length := by simp
    have e2 : (S ++ [s]).getD S.length z92 = s := by simp [List.getD_eq_getElem?_getD]
    simp only [List.concat_eq_append, e1, e2]
    by_cases h : 0 < (S ++ [s]).length ∧ s.f0 = p ∧ s.f2 = now
    · rw [if_pos h]
      have e3 : (S ++ [s]).set S.length ⟨s.f0, s.f1, now + 1⟩ = S ++ [⟨s.f0, s.f1, now + 1⟩] := by
        rw [List.set_append_right _ _ (Nat.le_refl _)]
        simp
      rw [e3]
      simp only [replay, List.foldl_append, List.foldl_cons, List.foldl_nil, h.2.1, List.set_set]
    · rw [if_neg h]
      simp only [replay, List.foldl_append, List.foldl_cons, List.foldl_nil]
theorem spansUp_mem {spans : List S92} {p now : Int} {n : Int} (hp : 0 ≤ p ∧ p < n) (h : ∀ s ∈ spans, 0 ≤ s.f0 ∧ s.f0 < n) : ∀ s ∈ spansUp spans p now, 0 ≤ s.f0 ∧ s.f0 < n := by
  intro s hs
  unfold spansUp at hs
  split at hs
  · rename_i hc
    rcases List.mem_or_eq_of_mem_set hs with h1 | h1
    · exact h s h1
    · rw [h1]
      have e : (spans.getD (spans.length - 1) z92) ∈ spans := by
        rw [List.getD_eq_getElem?_getD, List.getElem?_eq_getElem (by omega)]
        exact List.getElem_mem _
      exact h (spans.getD (spans.length - 1) z92) e
  · rcases List.mem_append.1 hs with h1 | h1
    · exact h s h1
    · rw [List.mem_singleton.1 h1]
      exact hp
theorem choose_replay (l : List S61) (obj : Int) (hobj : obj = 2 ∨ obj = 4) (hg : Good l) (E0 : List Int) (hE0 : E0.length = l.length) : ∀ (m : Nat) (rest : List Int) (left now : Int) (spans : List S92), ChSt l rest left now → left.toNat + (501 - now).toNat ≤ m → now + left ≤ 900 → left ≤ 400 → spans.length + m ≤ 50000 →
    (∀ e ∈ replay E0 spans, 0 ≤ e ∧ e ≤ 900) → (∀ s ∈ spans, 0 ≤ s.f0 ∧ s.f0 < (l.length : Int)) →
    ∃ S : List S92, L (fun k => spec_l5Choose.l1 k l obj spans rest left now) = some S ∧ L (fun k => impl_choose.l2 k l obj rest (replay E0 spans) left now spans) = some (S, replay E0 S) ∧ (∀ e ∈ replay E0 S, 0 ≤ e ∧ e ≤ 900) ∧ (∀ s ∈ S, 0 ≤ s.f0 ∧ s.f0 < (l.length : Int)) ∧ S.length ≤ spans.length + m := by
  have h8 := hg.1
  intro m
  induction m with
  | zero =>
    intro rest left now spans h hm hn hl hs hE hf
    refine ⟨spans, ?_, ?_, hE, hf, by omega⟩
    · rw [L_shift]
      simp only [spec_l5Choose.l1, if_neg (show ¬ (left > 0) by omega), L_const]
    · rw [L_shift]
      simp only [impl_choose.l2, if_neg (show ¬ (left > 0) by omega), L_const]
  | succ m ih =>
    intro rest left now spans h hm hn hl hs hE hf
    by_cases hl0 : 0 < left
    · have hnow := h.now0
      rw [choose_spec_step l rest left now obj spans hobj h (by omega) hl0 (by omega) (by omega) (by omega), choose_impl_step l rest _ left now obj spans hobj h (by rw [replay_length, hE0]) (by omega) hl0 (by omega) (by omega) (by omega)]
      by_cases hp : pickP l rest now obj < 0
      · have h499 := h.pick_neg hg hl0 hp
        simp only [if_pos hp]
        obtain ⟨S, h1, h2, h3, h4, h5⟩ := ih rest left (now + 1) spans ⟨h.len, h.nn, h.sum, by omega⟩ (by omega) (by omega) (by omega) (by omega) hE hf
        exact ⟨S, h1, h2, h3, h4, by omega⟩
      · simp only [if_neg hp]
        have hp0 : 0 ≤ pickP l rest now obj := by omega
        obtain ⟨hp1, hr⟩ := pickP_pos hp0
        obtain ⟨hst, _⟩ := h.step hp0 hp1 hr
        have hsl := spansUp_length spans (pickP l rest now obj) now
        have hup := replay_up E0 spans (pickP l rest now obj) now
        obtain ⟨S, h1, h2, h3, h4, h5⟩ := ih _ (left - 1) (now + 1) (spansUp spans (pickP l rest now obj) now) hst (by omega) (by omega) (by omega) (by omega) (fun e hem => by
          rw [hup] at hem
          rcases List.mem_or_eq_of_mem_set hem with h1 | h1
          · exact hE e h1
          · omega) (spansUp_mem ⟨hp0, hp1⟩ hf)
        rw [← hup]
        exact ⟨S, h1, h2, h3, h4, by omega⟩
    · refine ⟨spans, ?_, ?_, hE, hf, by omega⟩
      · rw [L_shift]
        simp only [spec_l5Choose.l1, if_neg (show ¬ (left > 0) by omega), L_const]
      · rw [L_shift]
        simp only [impl_choose.l2, if_neg (show ¬ (left > 0) by omega), L_const]
/-- What is left behind a beginning of an order, and the time. -/
def zeroF (r : List Int) (rest : List Int) : List Int := r.foldl (fun v x => v.set x.toNat 0) rest
def nowF (l : List S61) : List Int → Int → Int
  | [], now => now
  | x :: r, now => nowF l r (max now (jobAt l x).f2 + (jobAt l x).f0)
theorem zeroF_length (r : List Int) : ∀ v : List Int, (zeroF r v).length = v.length := by
  induction r with
  | nil => intro v; rfl
  | cons x r ih =>
    intro v
    show (zeroF r (v.set x.toNat 0)).length = v.length
    rw [ih, List.length_set]
theorem prefix_bd (l : List S61) (hg : Good l) : ∀ (r rest : List Int) (now : Int), r.Nodup → (∀ x ∈ r, 0 ≤ x ∧ x < (l.length : Int)) → rest.length = l.length → (∀ x ∈ r, rest.getD x.toNat 0 = (jobAt l x).f0) → (∀ v ∈ rest, 0 ≤ v) → 0 ≤ now → now + rest.sum ≤ 900 → rest.sum ≤ 400 →
    0 ≤ nowF l r now ∧ nowF l r now + (zeroF r rest).sum ≤ 900 ∧ (zeroF r rest).sum ≤ 400 ∧ ∀ v ∈ zeroF r rest, 0 ≤ v
  | [], rest, now, _, _, _, _, hn, h0, h1, h2 => ⟨h0, h1, h2, hn⟩
  | x :: r, rest, now, hnd, hx, hl, ht, hn, h0, h1, h2 => by
    obtain ⟨hxr, hnd'⟩ := List.nodup_cons.1 hnd
    have hx0 := hx x List.mem_cons_self
    have ht0 := ht x List.mem_cons_self
    have hj := hg.2 _ (jobAt_mem hx0.1 hx0.2)
    have t0 := hj.t0
    have t1 := hj.t1
    have r0 := hj.r0
    have r1 := hj.r1
    have hs := sum_set rest x.toNat 0 (by omega)
    exact prefix_bd l hg r (rest.set x.toNat 0) (max now (jobAt l x).f2 + (jobAt l x).f0) hnd' (fun y hy => hx y (List.mem_cons_of_mem _ hy)) (by rw [List.length_set, hl]) (fun y hy => by
      have hy0 := hx y (List.mem_cons_of_mem _ hy)
      rw [getD_set, if_neg (fun hc => hxr (by
        have : x = y := by omega
        rw [this]
        exact hy))]
      exact ht y (List.mem_cons_of_mem _ hy)) (fun v hv => by
      rcases List.mem_or_eq_of_mem_set hv with h3 | h3
      · exact hn v h3
      · omega) (by omega) (by omega) (by omega)
theorem zeroF_getD (r : List Int) : ∀ (v : List Int), (∀ x ∈ r, 0 ≤ x) → ∀ j : Nat, (zeroF r v).getD j 0 = if (j : Int) ∈ r then 0 else v.getD j 0 := by
  induction r with
  | nil => intro v _ j; simp [zeroF]
  | cons x r ih =>
    intro v hx j
    have h := ih (v.set x.toNat 0) (fun y hy => hx y (List.mem_cons_of_mem _ hy)) j
    show (zeroF r (v.set x.toNat 0)).getD j 0 = _
    rw [h]
    have hx0 := hx x List.mem_cons_self
    by_cases hj : (j : Int) ∈ r
    · rw [if_pos hj, if_pos (List.mem_cons_of_mem _ hj)]
    · rw [if_neg hj, getD_set]
      by_cases e : x.toNat = j
      · rw [if_pos (show (j : Int) ∈ x :: r by rw [List.mem_cons]; left; omega)]
        by_cases h3 : j < v.length
        · rw [if_pos ⟨e, h3⟩]
        · rw [if_neg (fun hc => h3 hc.2), List.getD_eq_getElem?_getD, List.getElem?_eq_none (by omega)]
          rfl
      · rw [if_neg (fun hc => e hc.1), if_neg]
        rw [List.mem_cons]
        rintro (h3 | h3)
        · omega
        · exact hj h3
theorem l5Bound_l (l : List S61) (hg : Good l) (obj : Int) (r : List Int) (hx : ∀ x ∈ r, 0 ≤ x ∧ x < (l.length : Int)) : ∀ (pre rest E : List Int) (now : Int), (pre ++ r).length < 4611686018427387904 → E.length = l.length → rest.length = l.length → 0 ≤ now → now + 50 * r.length ≤ 900 → r.length ≤ 8 →
    L (fun k => spec_l5Bound.l0 k l (pre ++ r) obj rest now E (pre.length : Int)) = (L (fun k => spec_l5Choose.f k l (zeroF r rest) (nowF l r now) obj)).bind (fun S => L (fun k => spec_l5Bound.l1 k l obj (endsF l r E now) S 0)) := by
  induction r with
  | nil =>
    intro pre rest E now hb hE hr h0 h1 h2
    rw [L_shift]
    simp only [spec_l5Bound.l0, not_lt_end, if_false, L_bind]
    rfl
  | cons x r ih =>
    intro pre rest E now hb hE hr h0 h1 h2
    rw [L_shift]
    have hl : pre.length < 4611686018427387904 := by simp at hb; omega
    have hx0 := hx x List.mem_cons_self
    have hj := hg.2 _ (jobAt_mem hx0.1 hx0.2)
    have t0 := hj.t0
    have t1 := hj.t1
    have r0 := hj.r0
    have r1 := hj.r1
    simp only [List.length_cons] at h1 h2
    have e : rd_T61 l x = jobAt l x := rfl
    simp only [spec_l5Bound.l0, lt_mid, le_nat, if_true, rd_mid, e, if_pos hx0.1, if_pos hx0.2, l1Most_e, Option.bind_some, hE, hr, wrap_mid pre x hl, wrap_id (show -9223372036854775808 ≤ max now (jobAt l x).f2 + (jobAt l x).f0 by omega) (by omega)]
    rw [app_cons pre x r, ih (fun y hy => hx y (List.mem_cons_of_mem _ hy)) (pre ++ [x]) _ _ _ (by simpa using hb) (by rw [List.length_set, hE]) (by rw [List.length_set, hr]) (by omega) (by omega) (by omega)]
    rfl
theorem l5Bound_s (l : List S61) (obj : Int) (r : List S92) : ∀ (pre : List S92) (E : List Int), (pre ++ r).length < 4611686018427387904 → (∀ s ∈ r, 0 ≤ s.f0 ∧ s.f0 < (E.length : Int)) →
    L (fun k => spec_l5Bound.l1 k l obj E (pre ++ r) (pre.length : Int)) = L (fun k => spec_l2Of.f k l (replay E r) obj) := by
  induction r with
  | nil =>
    intro pre E hb hr
    rw [L_shift]
    simp only [spec_l5Bound.l1, not_lt_end, if_false, bind_self]
    rfl
  | cons x r ih =>
    intro pre E hb hr
    rw [L_shift]
    have hl : pre.length < 4611686018427387904 := by simp at hb; omega
    have hx := hr x List.mem_cons_self
    have e : rd_T92 (pre ++ x :: r) (pre.length : Int) = x := getD_mid pre x r _
    simp only [spec_l5Bound.l1, lt_mid, le_nat, if_true, e, if_pos hx.1, if_pos hx.2, wrap_mid pre x hl]
    rw [app_cons pre x r, ih (pre ++ [x]) _ (by simpa using hb) (fun s hs => by rw [List.length_set]; exact hr s (List.mem_cons_of_mem _ hs))]
    rfl
theorem choose_pre (l : List S61) (hg : Good l) (obj left : Int) (rest : List Int) (r : List Int) (hx : ∀ x ∈ r, 0 ≤ x ∧ x < (l.length : Int)) : ∀ (pre E : List Int) (now : Int), (pre ++ r).length < 4611686018427387904 → E.length = l.length → 0 ≤ now → now + 50 * r.length ≤ 900 → r.length ≤ 8 →
    L (fun k => impl_choose.l1 k l obj rest E left now (pre ++ r) ((pre ++ r).length : Int) (pre.length : Int)) = L (fun k => impl_choose.l2 k l obj rest (endsF l r E now) left (nowF l r now) []) := by
  induction r with
  | nil =>
    intro pre E now hb hE h0 h1 h2
    rw [L_shift]
    simp only [impl_choose.l1, not_lt_end, if_false]
    rfl
  | cons x r ih =>
    intro pre E now hb hE h0 h1 h2
    rw [L_shift]
    have hl : pre.length < 4611686018427387904 := by simp at hb; omega
    have hx0 := hx x List.mem_cons_self
    have hj := hg.2 _ (jobAt_mem hx0.1 hx0.2)
    have t0 := hj.t0
    have t1 := hj.t1
    have r0 := hj.r0
    have r1 := hj.r1
    simp only [List.length_cons] at h1 h2
    have e : rd_T61 l x = jobAt l x := rfl
    simp only [impl_choose.l1, lt_mid, le_nat, if_true, rd_mid, e, if_pos hx0.1, if_pos hx0.2, mx_e, hE, wrap_mid pre x hl, wrap_id (show -9223372036854775808 ≤ max now (jobAt l x).f2 + (jobAt l x).f0 by omega) (by omega)]
    rw [app_cons pre x r, ih (fun y hy => hx y (List.mem_cons_of_mem _ hy)) (pre ++ [x]) _ _ (by simpa using hb) (by rw [List.length_set, hE]) (by omega) (by omega) (by omega)]
    rfl
/-- The times of those that are not in s, by their numbers from i on. -/
def restF (s : List Int) : Nat → List S61 → List Int
  | _, [] => []
  | i, x :: r => (if (i : Int) ∈ s then 0 else x.f0) :: restF s (i + 1) r
theorem restF_length (s : List Int) : ∀ (r : List S61) (i : Nat), (restF s i r).length = r.length
  | [], i => rfl
  | x :: r, i => by simp [restF, restF_length s r]
theorem restF_getD (s : List Int) : ∀ (r : List S61) (i j : Nat), j < r.length → (restF s i r).getD j 0 = if ((i + j : Nat) : Int) ∈ s then 0 else (timesP r).getD j 0
  | [], i, j, h => by simp at h
  | x :: r, i, 0, h => by simp [restF, timesP]
  | x :: r, i, j + 1, h => by
    have := restF_getD s r (i + 1) j (by simpa using h)
    rw [restF, List.getD_cons_succ, this]
    have e : i + 1 + j = i + (j + 1) := by omega
    rw [e]
    simp [timesP]
theorem restF_append (s : List Int) : ∀ (a b : List S61) (i : Nat), restF s i (a ++ b) = restF s i a ++ restF s (i + a.length) b
  | [], b, i => by simp [restF]
  | x :: a, b, i => by
    rw [List.cons_append, restF, restF, restF_append s a b (i + 1), List.cons_append]
    have e : i + 1 + a.length = i + (x :: a).length := by simp; omega
    rw [e]
theorem restF_bd (s : List Int) : ∀ (r : List S61) (i : Nat), (∀ j ∈ r, JobOk j) → ∀ v ∈ restF s i r, 0 ≤ v ∧ v ≤ 50
  | [], i, _, v, hv => by cases hv
  | x :: r, i, h, v, hv => by
    rw [restF] at hv
    rcases List.mem_cons.1 hv with rfl | hv
    · have := (h x List.mem_cons_self).t0
      have := (h x List.mem_cons_self).t1
      by_cases hc : (i : Int) ∈ s
      · rw [if_pos hc]; omega
      · rw [if_neg hc]; omega
    · exact restF_bd s r (i + 1) (fun j hj => h j (List.mem_cons_of_mem _ hj)) v hv
theorem choose_l0 (l : List S61) (s : List Int) (hs : s.length < 4611686018427387904) (obj : Int) (ends : List Int) (r : List S61) (hr : ∀ j ∈ r, JobOk j) : ∀ (pre : List S61) (left : Int), (pre ++ r).length < 100000 → 0 ≤ left → left + 50 * r.length ≤ 1000000000 →
    L (fun k => impl_choose.l0 k l s obj (restF s 0 pre ++ List.replicate r.length 0) ends left 0 (pre ++ r) ((pre ++ r).length : Int) (pre.length : Int)) = L (fun k => impl_choose.l1 k l obj (restF s 0 (pre ++ r)) ends (left + (restF s pre.length r).sum) 0 s (s.length : Int) 0) := by
  induction r with
  | nil =>
    intro pre left hb h0 h1
    rw [L_shift]
    simp only [impl_choose.l0, not_lt_end, if_false]
    simp [restF]
  | cons x r ih =>
    intro pre left hb h0 h1
    rw [L_shift]
    have hl : pre.length < 4611686018427387904 := by simp at hb; omega
    have hx := hr x List.mem_cons_self
    have t0 := hx.t0
    have t1 := hx.t1
    simp only [List.length_cons] at h1
    have e : rd_T61 (pre ++ x :: r) (pre.length : Int) = x := getD_mid pre x r _
    have e2 : ((pre.length : Int) < ((restF s 0 pre ++ 0 :: List.replicate r.length 0).length : Int)) = True := by
      simp only [List.length_append, List.length_cons, restF_length]
      exact eq_true (by omega)
    simp only [impl_choose.l0, lt_mid, le_nat, if_true, L_bind, has_L s _ hs, Option.bind_some, rep_succ, e, e2, wrap_mid pre x hl, set_mid (restF s 0 pre) _ _ _ pre (restF_length s pre 0).symm, wrap_id (show -9223372036854775808 ≤ left + x.f0 by omega) (show left + x.f0 ≤ 9223372036854775807 by omega), L_ite, decide_eq_true_eq]
    have e3 : restF s 0 (pre ++ [x]) = restF s 0 pre ++ [if (pre.length : Int) ∈ s then 0 else x.f0] := by
      rw [restF_append, Nat.zero_add]
      rfl
    by_cases hc : (pre.length : Int) ∈ s
    · rw [if_pos hc]
      have := ih (fun j hj => hr j (List.mem_cons_of_mem _ hj)) (pre ++ [x]) left (by simpa using hb) (by omega) (by omega)
      rw [e3, if_pos hc] at this
      rw [app_cons pre x r, app_cons (restF s 0 pre) 0, this, restF, if_pos hc, List.sum_cons, Int.zero_add, List.length_append]
      rfl
    · rw [if_neg hc]
      have := ih (fun j hj => hr j (List.mem_cons_of_mem _ hj)) (pre ++ [x]) (left + x.f0) (by simpa using hb) (by omega) (by omega)
      rw [e3, if_neg hc] at this
      rw [app_cons pre x r, app_cons (restF s 0 pre) x.f0, this, restF, if_neg hc, List.sum_cons, Int.add_assoc, List.length_append]
      rfl
theorem restF_zeroF (l : List S61) (s : List Int) (hs : ∀ x ∈ s, 0 ≤ x) : restF s 0 l = zeroF s (timesP l) := by
  apply ext_getD
  · rw [restF_length, zeroF_length, timesP_length]
  · intro j hj
    rw [restF_length] at hj
    rw [restF_getD s l 0 j hj, zeroF_getD s _ hs, Nat.zero_add]
theorem IsPre.len {n : Nat} {s : List Int} (hd : diffB (n : Int) [] s = true) : (∀ x ∈ s, 0 ≤ x ∧ x < n) ∧ s.Nodup ∧ s.length ≤ n := by
  obtain ⟨h1, h2, _⟩ := (diffB_iff (n : Int) s []).1 hd
  refine ⟨h1, h2, ?_⟩
  refine Classical.byContradiction fun hc => ?_
  have hp := perm_of s (numsTo n) h2 (fun x hx => mem_numsTo.2 (h1 x hx)) (by rw [numsTo_length]; omega)
  have := hp.length_eq
  rw [numsTo_length] at this
  omega
/-- The bound of a beginning: both tell one. -/
theorem bound_both (l : List S61) (hg : Good l) (s : List Int) (hd : diffB (l.length : Int) [] s = true) (obj : Int) (hobj : obj = 2 ∨ obj = 4) : ∃ R : Int, L (fun k => spec_l5Bound.f k l s obj) = some R ∧ L (fun k => impl_prefixBound.f k l s obj) = some R := by
  have h8 := hg.1
  obtain ⟨hx, hnd, hsl⟩ := IsPre.len hd
  have hx0 : ∀ x ∈ s, 0 ≤ x := fun x h => (hx x h).1
  have ht := timeSum_bounds l hg.2
  have htb : ∀ v ∈ timesP l, 0 ≤ v ∧ v ≤ 50 := by
    intro v hv
    obtain ⟨j, hj, rfl⟩ := List.mem_map.1 hv
    have := (hg.2 j hj).t0
    have := (hg.2 j hj).t1
    omega
  have hts := timesP_sum l
  obtain ⟨b0, b1, b2, b3⟩ := prefix_bd l hg s (timesP l) 0 hnd hx (timesP_length l) (fun x h => by
    have := hx x h
    unfold timesP jobAt
    rw [List.getD_eq_getElem?_getD, List.getD_eq_getElem?_getD, List.getElem?_map, List.getElem?_eq_getElem (by omega)]
    rfl) (fun v hv => (htb v hv).1) (Int.le_refl _) (by omega) (by omega)
  have hE0 : (List.replicate l.length (0 : Int)).length = l.length := by simp
  have hEl : (endsF l s (List.replicate l.length 0) 0).length = l.length := by rw [endsF_length, hE0]
  have hEb := ends_bounds l hg s (List.replicate l.length 0) 0 (Int.le_refl _) (by omega) (by omega) hx (fun v hv => by rw [(List.mem_replicate.1 hv).2]; omega)
  have hzl : (zeroF s (timesP l)).length = l.length := by rw [zeroF_length, timesP_length]
  obtain ⟨S, h1, h2, h3, h4, h5⟩ := choose_replay l obj hobj hg _ hEl 2000 (zeroF s (timesP l)) (zeroF s (timesP l)).sum (nowF l s 0) [] ⟨hzl, b3, rfl, b0⟩ (by omega) (by omega) (by omega) (by simp) hEb (by simp)
  have hrl : (replay (endsF l s (List.replicate l.length 0) 0) S).length = l.length := by rw [replay_length, hEl]
  have hO : objB obj = true := by rw [objB_iff]; omega
  have hzb : ∀ v ∈ zeroF s (timesP l), 0 ≤ v ∧ v ≤ 1000 := by
    rw [← restF_zeroF l s hx0]
    intro v hv
    have := restF_bd s l 0 hg.2 v hv
    omega
  refine ⟨valP obj l (replay (endsF l s (List.replicate l.length 0) 0) S), ?_, ?_⟩
  · have hA := l5Bound_l l hg obj s hx [] (timesP l) (List.replicate l.length 0) 0 (by simp; omega) hE0 (timesP_length l) (Int.le_refl _) (by omega) (by omega)
    have hB := l5Bound_s l obj S [] (endsF l s (List.replicate l.length 0) 0) (by simp at h5 ⊢; omega) (by rw [hEl]; exact h4)
    simp only [List.nil_append, List.length_nil, Int.natCast_zero] at hA hB
    simp only [spec_l5Bound.f, L_bind, L_ite, L_const, l5Rests_L l (by omega), Option.bind_some, le_nat, if_true, Int.toNat_natCast, if_pos (show l.length ≤ 35184372088832 by omega), hA, l5Choose_L l obj _ _ hzb (by omega), h1, hB]
    exact l2Of_L l hg _ hrl (fun e he => by have := h3 e he; omega) obj hO
  · have hA := choose_l0 l s (by omega) obj (List.replicate l.length 0) l hg.2 [] 0 (by simp; omega) (Int.le_refl _) (by omega)
    have hB := choose_pre l hg obj (zeroF s (timesP l)).sum (zeroF s (timesP l)) s hx [] (List.replicate l.length 0) 0 (by simp; omega) hE0 (Int.le_refl _) (by omega) (by omega)
    simp only [List.nil_append, List.length_nil, Int.natCast_zero, Int.zero_add, restF_zeroF l s hx0] at hA hB
    have e0 : restF s 0 [] = [] := rfl
    rw [e0] at hA
    simp only [List.nil_append] at hA
    have hR : replay (endsF l s (List.replicate l.length 0) 0) [] = endsF l s (List.replicate l.length 0) 0 := rfl
    rw [hR] at h2
    have hC : L (fun k => impl_choose.f k l s obj) = some (S, replay (endsF l s (List.replicate l.length 0) 0) S) := by
      simp only [impl_choose.f, le_nat, if_true, Int.toNat_natCast, if_pos (show l.length ≤ 35184372088832 by omega), hA, hB, h2]
    simp only [impl_prefixBound.f, L_bind, hC, Option.bind_some, bind_self]
    exact valueOfEnds_L l hg _ hrl (fun e he => by have := h3 e he; omega) obj
/-- Sooner: by date, then by number. -/
def dueQ (l : List S61) (a b : Int) : Bool := decide ((jobAt l a).f3 < (jobAt l b).f3) || (decide ((jobAt l a).f3 = (jobAt l b).f3) && decide (a < b))
theorem numsTo_asc (n : Nat) : (numsTo n).Pairwise (· < ·) := by
  rw [numsTo, List.pairwise_map]
  exact List.pairwise_lt_range.imp (fun h => by omega)
theorem ruled_l (n : Nat) (hn : n ≤ 1000) : ∀ (d : Nat) (i : Nat), i + d = n → L (fun k => impl_numbersTo.l0 k (n : Int) (numsTo i) (i : Int)) = some (numsTo n)
  | 0, i, hd => by
    rw [L_shift]
    have : i = n := by omega
    subst this
    simp only [impl_numbersTo.l0, Int.lt_irrefl, if_false, L_const]
  | d + 1, i, hd => by
    rw [L_shift]
    have ih := ruled_l n hn d (i + 1) (by omega)
    rw [numsTo_succ] at ih
    simp only [impl_numbersTo.l0, if_pos (show (i : Int) < (n : Int) by omega), if_pos (show (numsTo i).length < 17592186044416 by rw [numsTo_length]; omega), wrap_id (show -9223372036854775808 ≤ (i : Int) + 1 by omega) (show (i : Int) + 1 ≤ 9223372036854775807 by omega)]
    exact ih
/-- All orders of a list: by the first, in the list's order. -/
def permsN : Nat → List Int → List (List Int)
  | 0, _ => [[]]
  | n + 1, s => s.flatMap (fun y => (permsN n (s.filter (· ≠ y))).map (y :: ·))
/-- Each of a list's orders leads to the next one. -/
def RunL (N : List Int → List Int → Prop) : List (List Int) → Prop
  | [] => True
  | [_] => True
  | a :: b :: r => N a b ∧ RunL N (b :: r)
theorem RunL_app {N : List Int → List Int → Prop} {a b : List Int} : ∀ {p : List (List Int)} {q : List (List Int)}, RunL N (p ++ [a]) → RunL N (b :: q) → N a b → RunL N (p ++ a :: b :: q)
  | [], q, _, h2, h3 => ⟨h3, h2⟩
  | [x], q, h1, h2, h3 => ⟨h1.1, h3, h2⟩
  | x :: y :: p, q, h1, h2, h3 => ⟨h1.1, RunL_app (p := y :: p) h1.2 h2 h3⟩
/-- A run from one order to another one. -/
def RunFT (N : List Int → List Int → Prop) (os : List (List Int)) (a b : List Int) : Prop := RunL N os ∧ (∃ r, os = a :: r) ∧ (∃ p, os = p ++ [b])
theorem RunFT_app {N : List Int → List Int → Prop} {p q : List (List Int)} {a b c d : List Int} (h1 : RunFT N p a b) (h2 : RunFT N q c d) (h : N b c) : RunFT N (p ++ q) a d := by
  obtain ⟨r1, ⟨p1, e1⟩, ⟨p2, e2⟩⟩ := h1
  obtain ⟨r2, ⟨q1, f1⟩, ⟨q2, f2⟩⟩ := h2
  refine ⟨?_, ⟨p1 ++ q, by rw [e1]; rfl⟩, ⟨p ++ q2, by rw [f2, List.append_assoc]⟩⟩
  rw [e2, f1, List.append_assoc]
  rw [e2] at r1
  rw [f1] at r2
  exact RunL_app r1 r2 h
theorem filter_ne_mid {P Q : List Int} {y : Int} (h : (P ++ y :: Q).Pairwise (· < ·)) : (P ++ y :: Q).filter (· ≠ y) = P ++ Q := by
  rw [List.pairwise_append] at h
  obtain ⟨_, h2, h3⟩ := h
  rw [List.pairwise_cons] at h2
  rw [List.filter_append, List.filter_cons_of_neg (by simp), List.filter_eq_self.2, List.filter_eq_self.2]
  · intro a ha
    have := h2.1 a ha
    simp; omega
  · intro a ha
    have := h3 a ha y (by simp)
    simp; omega
theorem pairwise_mid {P Q : List Int} {y : Int} (h : (P ++ y :: Q).Pairwise (· < ·)) : (P ++ Q).Pairwise (· < ·) :=
  h.sublist (List.Sublist.append_left (List.sublist_cons_self y Q) P)
theorem perms_run {N : List Int → List Int → Prop} (hN : ∀ (A P Q : List Int) (y z : Int), (P ++ y :: z :: Q).Pairwise (· < ·) → N (A ++ y :: (Q.reverse ++ z :: P.reverse)) (A ++ z :: (P ++ y :: Q))) :
    ∀ (n : Nat) (A s : List Int), s.length = n → s.Pairwise (· < ·) → RunFT N ((permsN n s).map (A ++ ·)) (A ++ s) (A ++ s.reverse)
  | 0, A, s, hl, _ => by
    cases List.eq_nil_of_length_eq_zero hl
    exact ⟨trivial, ⟨[], by simp [permsN]⟩, ⟨[], by simp [permsN]⟩⟩
  | n + 1, A, s, hl, hs => by
    have key : ∀ (Q P : List Int) (y : Int), s = P ++ y :: Q → RunFT N (((y :: Q).flatMap (fun y => (permsN n (s.filter (· ≠ y))).map (y :: ·))).map (A ++ ·)) (A ++ y :: (P ++ Q)) (A ++ s.reverse) := by
      intro Q
      induction Q with
      | nil =>
        intro P y e
        subst e
        have h1 := perms_run hN n (A ++ [y]) (P ++ []) (by simp at hl ⊢; omega) (pairwise_mid hs)
        rw [List.flatMap_cons, List.flatMap_nil, List.append_nil, filter_ne_mid hs, List.map_map]
        have e2 : ((fun x => A ++ x) ∘ fun x => y :: x) = fun x => A ++ [y] ++ x := by
          funext x
          simp
        rw [e2]
        simpa using h1
      | cons z Q ih =>
        intro P y e
        have h2 := ih (P ++ [y]) z (by rw [e]; simp)
        have hs2 := hs
        rw [e] at hs2
        have h1 := perms_run hN n (A ++ [y]) (P ++ z :: Q) (by rw [e] at hl; simp at hl ⊢; omega) (pairwise_mid hs2)
        have e2 : ((fun x => A ++ x) ∘ fun x => y :: x) = fun x => A ++ [y] ++ x := by
          funext x
          simp
        have e3 : s.filter (· ≠ y) = P ++ z :: Q := by rw [e]; exact filter_ne_mid hs2
        rw [List.flatMap_cons, List.map_append, List.map_map, e2, e3]
        refine RunFT_app (b := A ++ y :: (Q.reverse ++ z :: P.reverse)) (c := A ++ z :: (P ++ y :: Q)) ?_ ?_ (hN A P Q y z hs2)
        · simpa using h1
        · simpa using h2
    cases s with
    | nil => simp at hl
    | cons y Q => exact key Q [] y rfl
theorem rd_far (pre : List Int) (x : Int) (mid : List Int) (y : Int) (post : List Int) (n : Int) (h : n = pre.length + 1 + mid.length) : rd (pre ++ x :: (mid ++ y :: post)) n = y := by
  have e1 : pre ++ x :: (mid ++ y :: post) = (pre ++ x :: mid) ++ y :: post := by simp
  have e2 : n = ((pre ++ x :: mid).length : Int) := by rw [h]; simp; omega
  rw [e1, e2]
  exact rd_mid _ _ _
theorem set_far (pre : List Int) (x : Int) (mid : List Int) (y : Int) (post : List Int) (n : Int) (h : n = pre.length + 1 + mid.length) : ((pre ++ x :: (mid ++ y :: post)).set (pre.length : Int).toNat y).set n.toNat x = pre ++ y :: (mid ++ x :: post) := by
  rw [set_mid pre x y _ pre rfl]
  have e1 : pre ++ y :: (mid ++ y :: post) = (pre ++ y :: mid) ++ y :: post := by simp
  have e2 : n = ((pre ++ y :: mid).length : Int) := by rw [h]; simp; omega
  rw [e1, e2, set_mid (pre ++ y :: mid) y x post (pre ++ y :: mid) rfl]
  simp
theorem rd_app (A D : List Int) (j : Nat) (h1 : A.length ≤ j) (h2 : j < (A ++ D).length) : ∃ h : j - A.length < D.length, rd (A ++ D) (j : Int) = D[j - A.length] := by
  rw [List.length_append] at h2
  refine ⟨by omega, ?_⟩
  show (A ++ D).getD (j : Int).toNat 0 = _
  rw [Int.toNat_natCast, List.getD_eq_getElem?_getD, List.getElem?_append_right h1, List.getElem?_eq_getElem (by omega)]
  rfl
theorem rd_desc (A D : List Int) (hD : D.Pairwise (· > ·)) (j : Nat) (h1 : A.length ≤ j) (h2 : j + 1 < (A ++ D).length) : rd (A ++ D) (j : Int) > rd (A ++ D) ((j : Int) + 1) := by
  obtain ⟨a1, e1⟩ := rd_app A D j h1 (by omega)
  obtain ⟨a2, e2⟩ := rd_app A D (j + 1) (by omega) h2
  have e3 : ((j + 1 : Nat) : Int) = (j : Int) + 1 := by omega
  rw [e3] at e2
  rw [e1, e2]
  exact (List.pairwise_iff_getElem.1 hD) _ _ a1 a2 (by omega)
theorem next_scan (o : List Int) (hl : o.length ≤ 1048576) (i : Nat) : ∀ d : Nat, i + d < o.length → (∀ j : Nat, i ≤ j → j < i + d → rd o (j : Int) > rd o ((j : Int) + 1)) → L (fun k => impl_nextOrder.l0 k o (((i + d : Nat) : Int) - 1)) = L (fun k => impl_nextOrder.l0 k o ((i : Int) - 1))
  | 0, _, _ => rfl
  | d + 1, h, hj => by
    have e0 : (((i + (d + 1) : Nat) : Int) - 1) = ((i + d : Nat) : Int) := by omega
    have h1 := hj (i + d) (by omega) (by omega)
    rw [e0, L_shift]
    simp only [impl_nextOrder.l0, wrap_id (show -9223372036854775808 ≤ ((i + d : Nat) : Int) + 1 by omega) (show ((i + d : Nat) : Int) + 1 ≤ 9223372036854775807 by omega), wrap_id (show -9223372036854775808 ≤ ((i + d : Nat) : Int) - 1 by omega) (show ((i + d : Nat) : Int) - 1 ≤ 9223372036854775807 by omega)]
    simp only [if_pos (show ((i + d : Nat) : Int) ≥ 0 by omega), if_pos (show (0 : Int) ≤ ((i + d : Nat) : Int) by omega), if_pos (show ((i + d : Nat) : Int) < (o.length : Int) by omega), if_pos (show (0 : Int) ≤ ((i + d : Nat) : Int) + 1 by omega), if_pos (show ((i + d : Nat) : Int) + 1 < (o.length : Int) by omega), if_pos h1]
    exact next_scan o hl i d (by omega) (fun j a b => hj j a (by omega))
theorem next_scan1 (o : List Int) (hl : o.length ≤ 1048576) (p : Nat) (hp : p < o.length) (i : Nat) : ∀ d : Nat, i + d ≤ o.length → (∀ j : Nat, i ≤ j → j < i + d → rd o (j : Int) < rd o (p : Int)) → L (fun k => impl_nextOrder.l1 k o (p : Int) (((i + d : Nat) : Int) - 1)) = L (fun k => impl_nextOrder.l1 k o (p : Int) ((i : Int) - 1))
  | 0, _, _ => rfl
  | d + 1, h, hj => by
    have e0 : (((i + (d + 1) : Nat) : Int) - 1) = ((i + d : Nat) : Int) := by omega
    have h1 := hj (i + d) (by omega) (by omega)
    rw [e0, L_shift]
    simp only [impl_nextOrder.l1, wrap_id (show -9223372036854775808 ≤ ((i + d : Nat) : Int) - 1 by omega) (show ((i + d : Nat) : Int) - 1 ≤ 9223372036854775807 by omega)]
    simp only [if_pos (show (0 : Int) ≤ ((i + d : Nat) : Int) by omega), if_pos (show ((i + d : Nat) : Int) < (o.length : Int) by omega), if_pos (show (0 : Int) ≤ (p : Int) by omega), if_pos (show (p : Int) < (o.length : Int) by omega), if_pos h1]
    exact next_scan1 o hl p hp i d (by omega) (fun j a b => hj j a (by omega))
theorem next_rev : ∀ (n : Nat) (A M B : List Int), M.length ≤ n → (A ++ (M ++ B)).length ≤ 1048576 → L (fun k => impl_nextOrder.l2 k (A ++ (M ++ B)) (A.length : Int) ((A.length : Int) + M.length - 1)) = some (true, A ++ (M.reverse ++ B))
  | n, A, [], B, h, hl => by
    rw [L_shift]
    simp only [impl_nextOrder.l2, List.length_nil, if_neg (show ¬ ((A.length : Int) < (A.length : Int) + ((0 : Nat) : Int) - 1) by omega), L_const, List.reverse_nil]
  | 0, A, x :: M, B, h, hl => by simp at h
  | n + 1, A, x :: M, B, h, hl => by
    rcases List.eq_nil_or_concat M with rfl | ⟨M, y, rfl⟩
    · rw [L_shift]
      have e : ¬ ((A.length : Int) < (A.length : Int) + (([x] : List Int).length : Int) - 1) := by simp
      simp only [impl_nextOrder.l2, if_neg e, L_const, List.reverse_singleton]
    · have hlen : (A ++ (x :: (M.concat y) ++ B)).length = A.length + 1 + M.length + 1 + B.length := by simp; omega
      have e0 : A ++ (x :: (M.concat y) ++ B) = A ++ x :: (M ++ y :: B) := by simp
      have e1 : (A.length : Int) + ((x :: M.concat y).length : Int) - 1 = (A.length : Int) + 1 + M.length := by simp; omega
      have hlen2 : (A ++ x :: (M ++ y :: B)).length = A.length + 1 + M.length + 1 + B.length := by rw [← e0]; exact hlen
      have ih := next_rev n (A ++ [y]) M (x :: B) (by simp at h; omega) (by simp at hlen2 hl ⊢; omega)
      have e2 : ((A ++ [y]).length : Int) = (A.length : Int) + 1 := by simp
      rw [e2] at ih
      have e3 : (A ++ [y]) ++ (M ++ x :: B) = A ++ y :: (M ++ x :: B) := by simp
      rw [e3] at ih
      rw [e0, e1, L_shift]
      rw [hlen] at hl
      simp only [impl_nextOrder.l2, rd_far A x M y B _ rfl, rd_mid, set_far A x M y B _ rfl, wrap_id (show -9223372036854775808 ≤ (A.length : Int) + 1 + M.length - 1 by omega) (show (A.length : Int) + 1 + M.length - 1 ≤ 9223372036854775807 by omega), wrap_id (show -9223372036854775808 ≤ (A.length : Int) + 1 by omega) (show (A.length : Int) + 1 ≤ 9223372036854775807 by omega)]
      simp only [if_pos (show (A.length : Int) < (A.length : Int) + 1 + M.length by omega), if_pos (show (0 : Int) ≤ (A.length : Int) + 1 + M.length by omega), if_pos (show (A.length : Int) + 1 + M.length < ((A ++ x :: (M ++ y :: B)).length : Int) by omega), if_pos (show (0 : Int) ≤ (A.length : Int) by omega), if_pos (show (A.length : Int) < ((A ++ x :: (M ++ y :: B)).length : Int) by omega)]
      rw [ih]
      simp
theorem next_step (A P Q : List Int) (y z : Int) (hs : (P ++ y :: z :: Q).Pairwise (· < ·)) (hl : (A ++ y :: (Q.reverse ++ z :: P.reverse)).length ≤ 1048576) : L (fun k => impl_nextOrder.f k (A ++ y :: (Q.reverse ++ z :: P.reverse))) = some (true, A ++ z :: (P ++ y :: Q)) := by
  rw [List.pairwise_append, List.pairwise_cons, List.pairwise_cons] at hs
  obtain ⟨hP, ⟨hy, hz, hQ⟩, hPy⟩ := hs
  have hD : (Q.reverse ++ z :: P.reverse).Pairwise (· > ·) := by
    have e : Q.reverse ++ z :: P.reverse = (P ++ z :: Q).reverse := by simp
    rw [e, List.pairwise_reverse, List.pairwise_append, List.pairwise_cons]
    exact ⟨hP, ⟨hz, hQ⟩, fun a ha b hb => hPy a ha b (List.mem_cons_of_mem _ hb)⟩
  have hlen : (A ++ y :: (Q.reverse ++ z :: P.reverse)).length = A.length + 1 + Q.length + 1 + P.length := by simp; omega
  generalize ho : A ++ y :: (Q.reverse ++ z :: P.reverse) = o at *
  have ho1 : o = (A ++ [y]) ++ (Q.reverse ++ z :: P.reverse) := by rw [← ho]; simp
  have ho2 : o = (A ++ y :: (Q.reverse ++ [z])) ++ P.reverse := by rw [← ho]; simp
  have hry : rd o (A.length : Int) = y := by rw [← ho]; exact rd_mid _ _ _
  have hrz : rd o ((A.length : Int) + 1 + (Q.reverse.length : Int)) = z := by rw [← ho]; exact rd_far A y Q.reverse z P.reverse _ rfl
  have e0 : (o.length : Int) - 2 = ((A.length + 1 + (Q.length + P.length) : Nat) : Int) - 1 := by omega
  simp only [impl_nextOrder.f, wrap_id (show -9223372036854775808 ≤ (o.length : Int) - 2 by omega) (show (o.length : Int) - 2 ≤ 9223372036854775807 by omega)]
  rw [e0, next_scan o hl (A.length + 1) (Q.length + P.length) (by omega) (fun j h1 h2 => by
    have := rd_desc (A ++ [y]) _ hD j (by simp; omega) (by rw [← ho1]; omega)
    rwa [← ho1] at this)]
  have e1 : (((A.length + 1 : Nat) : Int) - 1) = (A.length : Int) := by omega
  rw [e1, L_shift]
  have hfirst : ¬ (rd o (A.length : Int) > rd o ((A.length : Int) + 1)) := by
    obtain ⟨a1, a2⟩ := rd_app (A ++ [y]) (Q.reverse ++ z :: P.reverse) (A.length + 1) (by simp) (by rw [← ho1]; omega)
    rw [← ho1] at a2
    have e3 : ((A.length + 1 : Nat) : Int) = (A.length : Int) + 1 := by omega
    rw [e3] at a2
    rw [hry, a2]
    have h5 : A.length + 1 - (A ++ [y]).length = 0 := by simp
    simp only [h5]
    have : ∀ (l : List Int) (h : 0 < (l ++ z :: P.reverse).length), (∀ q ∈ l, y < q) → y < (l ++ z :: P.reverse)[0] := by
      intro l h hq
      cases l with
      | nil => exact hy z (by simp)
      | cons q l => exact hq q (by simp)
    have := this Q.reverse (by simp; omega) (fun q hq => hy q (by simp at hq; simp [hq]))
    omega
  simp only [impl_nextOrder.l0, wrap_id (show -9223372036854775808 ≤ (A.length : Int) + 1 by omega) (show (A.length : Int) + 1 ≤ 9223372036854775807 by omega)]
  simp only [if_pos (show (A.length : Int) ≥ 0 by omega), if_pos (show (0 : Int) ≤ (A.length : Int) by omega), if_pos (show (A.length : Int) < (o.length : Int) by omega), if_pos (show (0 : Int) ≤ (A.length : Int) + 1 by omega), if_pos (show (A.length : Int) + 1 < (o.length : Int) by omega), if_neg hfirst]
  rw [L_shift]
  have e4 : (o.length : Int) - 1 = ((A.length + 1 + Q.length + 1 + P.length : Nat) : Int) - 1 := by omega
  simp only [impl_nextOrder.j1, if_neg (show ¬ (A.length : Int) < 0 by omega), wrap_id (show -9223372036854775808 ≤ (o.length : Int) - 1 by omega) (show (o.length : Int) - 1 ≤ 9223372036854775807 by omega)]
  rw [e4, next_scan1 o hl A.length (by omega) (A.length + 1 + Q.length + 1) P.length (by omega) (fun j h1 h2 => by
    obtain ⟨a1, a2⟩ := rd_app (A ++ y :: (Q.reverse ++ [z])) P.reverse j (by simp; omega) (by rw [← ho2]; omega)
    rw [← ho2] at a2
    rw [a2, hry]
    have hm : P.reverse[j - (A ++ y :: (Q.reverse ++ [z])).length] ∈ P := List.mem_reverse.1 (List.getElem_mem a1)
    exact hPy _ hm y List.mem_cons_self)]
  have e5 : (((A.length + 1 + Q.length + 1 : Nat) : Int) - 1) = (A.length : Int) + 1 + (Q.reverse.length : Int) := by rw [List.length_reverse]; omega
  have e6 : (Q.reverse.length : Int) = (Q.length : Int) := by simp
  rw [e5, L_shift]
  have hyz := hy z List.mem_cons_self
  simp only [impl_nextOrder.l1, hrz, hry, wrap_id (show -9223372036854775808 ≤ (A.length : Int) + 1 by omega) (show (A.length : Int) + 1 ≤ 9223372036854775807 by omega)]
  simp only [if_pos (show (0 : Int) ≤ (A.length : Int) + 1 + (Q.reverse.length : Int) by omega), if_pos (show (A.length : Int) + 1 + (Q.reverse.length : Int) < (o.length : Int) by omega), if_pos (show (0 : Int) ≤ (A.length : Int) by omega), if_pos (show (A.length : Int) < (o.length : Int) by omega), if_neg (show ¬ z < y by omega), wrap_id (show -9223372036854775808 ≤ (o.length : Int) - 1 by omega) (show (o.length : Int) - 1 ≤ 9223372036854775807 by omega)]
  have hset := set_far A y Q.reverse z P.reverse ((A.length : Int) + 1 + (Q.reverse.length : Int)) rfl
  rw [ho] at hset
  rw [hset]
  have e7 : A ++ z :: (Q.reverse ++ y :: P.reverse) = (A ++ [z]) ++ ((Q.reverse ++ y :: P.reverse) ++ []) := by simp
  have e8 : (A.length : Int) + 1 = ((A ++ [z]).length : Int) := by simp
  have e9 : (o.length : Int) - 1 = ((A ++ [z]).length : Int) + (Q.reverse ++ y :: P.reverse).length - 1 := by simp; omega
  rw [e7, e8, e9, next_rev _ _ _ _ (Nat.le_refl _) (by rw [← e7]; simp; omega)]
  simp
theorem next_last (s : List Int) (hs : s.Pairwise (· < ·)) (hl : s.length ≤ 1048576) : L (fun k => impl_nextOrder.f k s.reverse) = some (false, s.reverse) := by
  have hD : s.reverse.Pairwise (· > ·) := List.pairwise_reverse.2 hs
  have hlen : s.reverse.length = s.length := by simp
  generalize s.reverse = o at *
  have hend : ∀ x : Int, x < 0 → L (fun k => impl_nextOrder.l0 k o x) = some (false, o) := by
    intro x hx
    rw [L_shift]
    simp only [impl_nextOrder.l0, if_neg (show ¬ x ≥ 0 by omega)]
    rw [L_shift]
    simp only [impl_nextOrder.j1, if_pos hx, L_const]
  simp only [impl_nextOrder.f, wrap_id (show -9223372036854775808 ≤ (o.length : Int) - 2 by omega) (show (o.length : Int) - 2 ≤ 9223372036854775807 by omega)]
  by_cases h : o.length ≤ 1
  · exact hend _ (by omega)
  · have e0 : (o.length : Int) - 2 = ((0 + (o.length - 1) : Nat) : Int) - 1 := by omega
    rw [e0, next_scan o (by omega) 0 (o.length - 1) (by omega) (fun j h1 h2 => by
      have := rd_desc [] o hD j (by simp) (by simp; omega)
      simpa using this)]
    exact hend _ (by omega)
theorem permsN_perm : ∀ (n : Nat) (s : List Int), s.length = n → s.Nodup → ∀ q ∈ permsN n s, q.Perm s
  | 0, s, hl, _, q, hq => by
    cases List.eq_nil_of_length_eq_zero hl
    simp only [permsN, List.mem_singleton] at hq
    rw [hq]
  | n + 1, s, hl, hs, q, hq => by
    simp only [permsN, List.mem_flatMap, List.mem_map] at hq
    obtain ⟨y, hy, p, hp, rfl⟩ := hq
    have e := hs.erase_eq_filter y
    have h1 : (s.filter (· ≠ y)).length = n := by
      have h2 := List.length_erase_of_mem hy
      rw [e] at h2
      simp only [bne] at h2
      have h3 : (s.filter (fun x => !x == y)) = s.filter (· ≠ y) := by
        apply List.filter_congr
        intro a _
        by_cases h : a = y <;> simp [h]
      rw [h3] at h2
      omega
    have ih := permsN_perm n _ h1 (hs.filter _) p hp
    refine (ih.cons y).trans ?_
    have h3 : (s.filter (fun x => x != y)) = s.filter (· ≠ y) := by
      apply List.filter_congr
      intro a _
      by_cases h : a = y <;> simp [h]
    rw [← h3, ← e]
    exact (List.perm_cons_erase hy).symm
/-- One order leads to the next one. -/
def NextL (a b : List Int) : Prop := L (fun k => impl_nextOrder.f k a) = some (true, b)
theorem each_run {σ : Type} {step : Nat → List Int → σ → Option σ} {F : σ → List Int → σ} (hm : ∀ o s, Mono (fun k => step k o s)) : ∀ (r : List (List Int)) (o : List Int) (s : σ), (∀ q ∈ o :: r, ∀ s, L (fun k => step k q s) = some (F s q)) → RunL NextL (o :: r) → (∀ (p : List (List Int)) (b : List Int), o :: r = p ++ [b] → ∃ c, L (fun k => impl_nextOrder.f k b) = some (false, c)) → L (fun k => impl_eachOrder.run step k o s) = some ((o :: r).foldl F s)
  | [], o, s, h1, h2, h3 => by
    obtain ⟨c, hc⟩ := h3 [] o rfl
    rw [L_shift]
    simp only [impl_eachOrder.run, L_bind, h1 o List.mem_cons_self, hc, Option.bind_some, Bool.false_eq_true, if_false, L_const]
    rfl
  | b :: r, o, s, h1, h2, h3 => by
    have h4 := h2.1
    unfold NextL at h4
    rw [L_shift]
    simp only [impl_eachOrder.run, L_bind, h1 o List.mem_cons_self, h4, Option.bind_some, if_true]
    exact each_run hm r b _ (fun q hq => h1 q (List.mem_cons_of_mem _ hq)) h2.2 (fun p c e => h3 (o :: p) c (by rw [e]; rfl))
/-- A walk over all orders of n things, told by a fold over them. -/
theorem each_L {σ : Type} {step : Nat → List Int → σ → Option σ} {F : σ → List Int → σ} (hm : ∀ o s, Mono (fun k => step k o s)) (n : Nat) (hn : n ≤ 8) (s : σ) (h : ∀ q, IsOrd n q → ∀ s, L (fun k => step k q s) = some (F s q)) : L (fun k => impl_eachOrder.run step k (numsTo n) s) = some ((permsN n (numsTo n)).foldl F s) := by
  have hlen : ∀ (A P Q : List Int) (y z : Int), A ++ P ++ y :: z :: Q = A ++ P ++ y :: z :: Q := fun _ _ _ _ _ => rfl
  have hrun := perms_run (N := fun a b => a.length ≤ 1048576 → NextL a b) (fun A P Q y z hs hl => next_step A P Q y z hs hl) n [] (numsTo n) (numsTo_length n) (numsTo_asc n)
  have e : (permsN n (numsTo n)).map (fun x => [] ++ x) = permsN n (numsTo n) := by simp
  rw [e] at hrun
  obtain ⟨h1, ⟨r, h2⟩, ⟨p, h3⟩⟩ := hrun
  rw [List.nil_append] at h2 h3
  have hall : ∀ q ∈ permsN n (numsTo n), IsOrd n q := fun q hq => IsOrd.of_perm (permsN_perm n (numsTo n) (numsTo_length n) (numsTo_nodup n) q hq)
  rw [h2] at hall h1 h3 ⊢
  refine each_run hm r (numsTo n) s (fun q hq => h q (hall q hq)) ?_ (fun p' b hb => ?_)
  · have : ∀ os : List (List Int), (∀ q ∈ os, IsOrd n q) → RunL (fun a b => a.length ≤ 1048576 → NextL a b) os → RunL NextL os := by
      intro os
      induction os with
      | nil => exact fun _ _ => trivial
      | cons a os ih =>
        cases os with
        | nil => exact fun _ _ => trivial
        | cons b os => exact fun ha hr => ⟨hr.1 (by rw [(ha a List.mem_cons_self).1]; omega), ih (fun q hq => ha q (List.mem_cons_of_mem _ hq)) hr.2⟩
    exact this _ hall h1
  · rw [h3] at hb
    have hb2 : b = (numsTo n).reverse := by
      have := congrArg List.getLast? hb
      simpa using this.symm
    exact ⟨_, by rw [hb2]; exact next_last _ (numsTo_asc n) (by rw [numsTo_length]; omega)⟩
/-- What one order does to the best so far: the first best order, its value, and how many there are. -/
def bestS (V : List Int → Int) (s : List Int × Int × Int) (o : List Int) : List Int × Int × Int :=
  if s.2.2 = 0 ∨ V o < s.2.1 then (o, V o, 1) else if V o = s.2.1 then (s.1, s.2.1, wrap64 (s.2.2 + 1)) else s
/-- The best of all orders. -/
def bestP (l : List S61) (obj : Int) : List Int × Int × Int := (permsN l.length (numsTo l.length)).foldl (bestS (fun o => valP obj l (endsP l o))) ([], 0, 0)
def numsFrom (i d : Nat) : List Int := (List.range' i d).map (fun j : Nat => (j : Int))
theorem numsFrom_all (n : Nat) : numsFrom 0 n = numsTo n := by
  unfold numsFrom numsTo
  rw [List.range_eq_range']
theorem numsFrom_cons (i d : Nat) : numsFrom i (d + 1) = (i : Int) :: numsFrom (i + 1) d := by
  unfold numsFrom
  rw [List.range'_succ]
  rfl
theorem l2Try_leaf (l : List S61) (hg : Good l) (obj : Int) (hobj : objB obj = true) (b : List Int) (hb : IsOrd l.length b) (s : List Int × Int × Int) : L (fun k => spec_l2Try.f k l b obj s.1 s.2.1 s.2.2) = some (bestS (fun o => valP obj l (endsP l o)) s b) := by
  have h8 := hg.1
  have hb1 := hb.1
  have hj : ∀ c : Bool, L (fun k => spec_l2Try.j0 k b (valP obj l (endsP l b)) c s.1 s.2.1 s.2.2) = some (if c = true then (b, valP obj l (endsP l b), 1) else if valP obj l (endsP l b) = s.2.1 then (s.1, s.2.1, wrap64 (s.2.2 + 1)) else s) := by
    intro c
    rw [L_shift]
    simp only [spec_l2Try.j0, l1Own_e b (by omega), Option.bind_some, L_ite, L_const]
    repeat' split
    all_goals rfl
  rw [L_shift]
  simp only [spec_l2Try.f, if_pos (show (b.length : Int) = (l.length : Int) by omega), L_bind, l2Value_L l b hg hb obj hobj, Option.bind_some, L_ite, hj, bestS]
  by_cases h0 : s.2.2 = 0
  · simp [h0]
  · by_cases h1 : valP obj l (endsP l b) < s.2.1
    · simp [h0, h1]
    · simp [h0, h1]
theorem l2Try_L (l : List S61) (hg : Good l) (obj : Int) (hobj : objB obj = true) : ∀ (n : Nat) (b : List Int), b.Nodup → (∀ x ∈ b, 0 ≤ x ∧ x < (l.length : Int)) → b.length + n = l.length → ∀ s : List Int × Int × Int, L (fun k => spec_l2Try.f k l b obj s.1 s.2.1 s.2.2) = some (((permsN n ((numsTo l.length).filter (fun x => decide (x ∉ b)))).map (fun q => b ++ q)).foldl (bestS (fun o => valP obj l (endsP l o))) s)
  | 0, b, hn, hx, hl, s => by
    rw [l2Try_leaf l hg obj hobj b ⟨by omega, hx, hn⟩ s]
    simp [permsN]
  | n + 1, b, hn, hx, hl, s => by
    have h8 := hg.1
    have hloop : ∀ (d i : Nat) (s : List Int × Int × Int), i + d = l.length → L (fun k => spec_l2Try.l0 k l b obj (i : Int) s.1 s.2.1 s.2.2) = some ((((numsFrom i d).filter (fun x => decide (x ∉ b))).flatMap (fun y => (permsN n ((numsTo l.length).filter (fun x => decide (x ∉ b ++ [y])))).map (fun q => (b ++ [y]) ++ q))).foldl (bestS (fun o => valP obj l (endsP l o))) s) := by
      intro d
      induction d with
      | zero =>
        intro i s hi
        rw [L_shift]
        simp only [spec_l2Try.l0, if_neg (show ¬ ((i : Int) < (l.length : Int)) by omega), L_const]
        rfl
      | succ d ih =>
        intro i s hi
        have e : wrap64 ((i : Int) + 1) = ((i + 1 : Nat) : Int) := by
          rw [wrap_id (by omega) (by omega)]
          omega
        rw [L_shift]
        simp only [spec_l2Try.l0, if_pos (show ((i : Int) < (l.length : Int)) by omega), L_bind, l1Has_L b _ (show b.length < 4611686018427387904 by omega), Option.bind_some, e, L_ite, L_const, l1Own_e b (by omega), if_pos (show b.length + ([(i : Int)] : List Int).length < 17592186044416 by simp; omega)]
        rw [numsFrom_cons]
        by_cases hm : (i : Int) ∈ b
        · simp only [hm, decide_true, if_true]
          rw [ih (i + 1) s (by omega), List.filter_cons_of_neg (by simp [hm])]
        · rw [if_neg (by simp [hm])]
          have hrec := l2Try_L l hg obj hobj n (b ++ [(i : Int)]) (by
            rw [List.nodup_append]
            exact ⟨hn, by simp, fun a ha c hc => by
              rw [List.mem_singleton] at hc
              rintro rfl
              exact hm (hc ▸ ha)⟩) (fun x h => by
            rcases List.mem_append.1 h with h | h
            · exact hx x h
            · rw [List.mem_singleton] at h
              omega) (by simp; omega) s
          rw [hrec, Option.bind_some, ih (i + 1) _ (by omega), List.filter_cons_of_pos (by simp [hm]), List.flatMap_cons, List.foldl_append]
    rw [L_shift]
    simp only [spec_l2Try.f, if_neg (show ¬ (b.length : Int) = (l.length : Int) by omega)]
    have := hloop l.length 0 s (by omega)
    rw [numsFrom_all] at this
    refine this.trans ?_
    congr 2
    rw [permsN, List.map_flatMap]
    congr 1
    funext y
    rw [List.map_map]
    have e1 : (fun q => b ++ q) ∘ (fun q => y :: q) = fun q => (b ++ [y]) ++ q := by
      funext q
      simp
    rw [e1, List.filter_filter]
    congr 2
    apply List.filter_congr
    intro a _
    by_cases h1 : a = y
    · simp [h1]
    · simp [h1]
theorem l2All_L (l : List S61) (hg : Good l) (obj : Int) (hobj : objB obj = true) : L (fun k => spec_l2All.f k l obj) = some (bestP l obj) := by
  have h := l2Try_L l hg obj hobj l.length [] List.nodup_nil (by simp) (by simp) ([], 0, 0)
  have e : (numsTo l.length).filter (fun x => decide (x ∉ ([] : List Int))) = numsTo l.length := by simp
  rw [e] at h
  simp only [List.nil_append, List.map_id'] at h
  simp only [spec_l2All.f, L_bind, h, Option.bind_some, L_const]
  rfl
theorem l2Best_L (l : List S61) (hg : Good l) (obj : Int) (hobj : objB obj = true) : L (fun k => spec_l2Best.f k l obj) = some ((bestP l obj).1, (bestP l obj).2.1) := by
  simp only [spec_l2Best.f, L_bind, l2All_L l hg obj hobj, Option.bind_some, L_const]
theorem best_L (l : List S61) (hg : Good l) (obj : Int) : L (fun k => impl_best.f k l obj) = some (bestP l obj) := by
  have h8 := hg.1
  have hn := ruled_l l.length (by omega) l.length 0 (by omega)
  have hn2 : L (fun k => impl_numbersTo.f k (l.length : Int)) = some (numsTo l.length) := by
    simp only [impl_numbersTo.f]
    exact hn
  simp only [impl_best.f, L_bind, hn2, Option.bind_some]
  refine each_L (fun o s => ⟨⟨fun k => impl_best_1.step_mono l obj k o s⟩⟩) l.length h8 ([], 0, 0) (fun q hq s => ?_)
  have hq1 := hq.1
  simp only [impl_best_1.step, L_bind, valueOf_L l q hg hq obj, Option.bind_some, L_ite, copyInts_e q (by omega), L_const, bestS]
  repeat' split
  all_goals rfl

theorem SplitGain_both (l : List S61) (obj : Int) (h : l.length ≤ 1048576) :
    ∃ (R : Int) (b : Bool), L (fun k => spec_SplitGain.f k l obj) = some (R, b) ∧ L (fun k => impl_SplitGain.f k l obj) = some (R, b) := by
  have hj : ∀ b, L (fun k => impl_SplitGain.j0 k l obj b) = if b = true then some (0, false) else (L (fun k => impl_best.f k l obj)).bind (fun t => (L (fun k => impl_prefixBound.f k l [] obj)).bind (fun v => some (wrap64 (t.2.1 - v), true))) := by
    intro b
    rw [L_shift]
    simp only [impl_SplitGain.j0, L_ite, L_const, L_bind]
  simp only [spec_SplitGain.f, spec_l5Two.f, impl_SplitGain.f, impl_isSplitObjective.f, L_bind, L_ite, L_const, l2Good_L l (by omega), IsJobs_L l (by omega), Option.bind_some, hj]
  cases hg : goodB l with
  | false => exact ⟨0, false, by simp, by simp⟩
  | true =>
    by_cases hobj : obj = 2 ∨ obj = 4
    · have ho : (if obj = 2 then some true else some (obj == 4)) = some true := by
        rcases hobj with rfl | rfl <;> rfl
      have ho8 : objB obj = true := by
        rcases hobj with rfl | rfl <;> rfl
      have hgg := goodB_iff.1 hg
      obtain ⟨R, h1, h2⟩ := bound_both l hgg [] rfl obj hobj
      exact ⟨wrap64 ((bestP l obj).2.1 - R), true, by simp only [ho, if_true, Option.bind_some, l2Best_L l hgg obj ho8, h1], by simp only [ho, if_true, Option.bind_some, Bool.not_true, Bool.false_eq_true, if_false, best_L l hgg obj, h2]⟩
    · have ho : (if obj = 2 then some true else some (obj == 4)) = some false := by
        rw [if_neg (fun hc => hobj (.inl hc))]
        congr 1
        simp only [beq_eq_false_iff_ne, ne_eq]
        exact fun hc => hobj (.inr hc)
      simp only [ho, if_true, Option.bind_some]
      exact ⟨0, false, by simp, by simp⟩
theorem laws_FnExactSplitGain_j0f (x0 : List (S63)) (x8 : List (S61)) : L (fun k => laws_FnExactSplitGain.j0 k x0 x8 false) = L (fun k => (laws_toJobS.f k x0).bind fun t448 => ((laws_eqJobS.f k x8 t448).bind fun t451 => (if t451 = true then (some true) else (some false)))) := by
  rw [L_shift]
  simp only [laws_FnExactSplitGain.j0, Bool.false_eq_true, if_false]
theorem FnExactSplitGain : laws_FnExactSplitGain.Pure := by
  intro l obj h1 _ _
  have e1 : maxLen = 9223372036854775807 := rfl
  refine rounds_of_L ?_
  simp only [laws_FnExactSplitGain.f, L_ite, L_const, szJobS_e l (by omega)]
  by_cases hl : l.length ≤ 1048576
  · have hl2 : (l.map toJobP).length ≤ 1048576 := by simpa using hl
    obtain ⟨R, b, hs, hi⟩ := SplitGain_both (l.map toJobP) obj hl2
    rw [if_pos hl]
    simp (disch := omega) only [lt0, Option.bind_some, L_bind, L_ite, L_const, toJobS_L l hl, hs, hi, eqJobS_L _ hl2, laws_FnExactSplitGain_j0f, if_true, Bool.false_eq_true, if_false, bne_self_eq_false]
  · rw [if_neg hl]
    simp only [Option.bind_some, if_pos (show (-1 : Int) < 0 by decide), L_const]

end Go.Proofs.Ytoagdnojoodloaa.Pure
