/- The program's DispatchGap answers what the reference's answers, for all dispatchers and objectives. -/
import Derived.Test.YtoagdnojoodloaaXSFnExactDispatchGap
import Derived.Test.YtoagdnojoodloaaXLim
namespace Go.Proofs.Ytoagdnojoodloaa.Pure
open Go.RowKit Go.Proofs.YtoagdnojoodloaaW.PrintWords Go.Proofs.YtoagdnojoodloaaW.PrintLast Go.Proofs.YtoagdnojoodloaaW.PrintMore Go.Proofs.Ytoagdnojoodloaa.X Go.Proofs.Ytoagdnojoodloaa.XRow Go.Proofs.Ytoagdnojoodloaa.XLim
set_option linter.unusedVariables false
set_option linter.unusedSimpArgs false
instance : ∀ a0 a1 a2 a3 a4 a5, Mono (fun k => impl_DispatchGap.f k a0 a1 a2 a3 a4 a5) := fun a0 a1 a2 a3 a4 a5 => ⟨⟨impl_DispatchGap.mono a0 a1 a2 a3 a4 a5⟩⟩
instance : ∀ a0 a1 a2 a3 a4 a5, Mono (fun k => impl_DispatchValue.f k a0 a1 a2 a3 a4 a5) := fun a0 a1 a2 a3 a4 a5 => ⟨⟨impl_DispatchValue.mono a0 a1 a2 a3 a4 a5⟩⟩
instance : ∀ a0 a1 a2 a3 a4, Mono (fun k => impl_Dispatcher_ends.f k a0 a1 a2 a3 a4) := fun a0 a1 a2 a3 a4 => ⟨⟨impl_Dispatcher_ends.mono a0 a1 a2 a3 a4⟩⟩
instance : ∀ a0 a1 a2 a3 a4, Mono (fun k => impl_IsDispatcher.f k a0 a1 a2 a3 a4) := fun a0 a1 a2 a3 a4 => ⟨⟨impl_IsDispatcher.mono a0 a1 a2 a3 a4⟩⟩
instance : ∀ a0, Mono (fun k => impl_IsJobs.f k a0) := fun a0 => ⟨⟨impl_IsJobs.mono a0⟩⟩
instance : ∀ l0 a1, Mono (fun k => impl_best.f k l0 a1) := fun l0 a1 => ⟨⟨impl_best.mono l0 a1⟩⟩
instance : ∀ a0 a1, Mono (fun k => impl_endsOf.f k a0 a1) := fun a0 a1 => ⟨⟨impl_endsOf.mono a0 a1⟩⟩
instance : ∀ a0, Mono (fun k => impl_nextOrder.f k a0) := fun a0 => ⟨⟨impl_nextOrder.mono a0⟩⟩
instance : ∀ a0, Mono (fun k => impl_numbersTo.f k a0) := fun a0 => ⟨⟨impl_numbersTo.mono a0⟩⟩
instance : ∀ a0 a1 a2, Mono (fun k => impl_valueOf.f k a0 a1 a2) := fun a0 a1 a2 => ⟨⟨impl_valueOf.mono a0 a1 a2⟩⟩
instance : ∀ a0 a1 a2, Mono (fun k => impl_valueOfEnds.f k a0 a1 a2) := fun a0 a1 a2 => ⟨⟨impl_valueOfEnds.mono a0 a1 a2⟩⟩
instance : ∀ a0 a1 a2 a3 a4 a5, Mono (fun k => laws_FnExactDispatchGap.f k a0 a1 a2 a3 a4 a5) := fun a0 a1 a2 a3 a4 a5 => ⟨⟨laws_FnExactDispatchGap.mono a0 a1 a2 a3 a4 a5⟩⟩
instance : ∀ a0 a1 a2 a3 a4 a5 a6 a7 a8 a9, Mono (fun k => laws_eqDispatcher.f k a0 a1 a2 a3 a4 a5 a6 a7 a8 a9) := fun a0 a1 a2 a3 a4 a5 a6 a7 a8 a9 => ⟨⟨laws_eqDispatcher.mono a0 a1 a2 a3 a4 a5 a6 a7 a8 a9⟩⟩
instance : ∀ a0 a1, Mono (fun k => laws_eqJobS.f k a0 a1) := fun a0 a1 => ⟨⟨laws_eqJobS.mono a0 a1⟩⟩
instance : ∀ a0 a1, Mono (fun k => laws_eqTaskS.f k a0 a1) := fun a0 a1 => ⟨⟨laws_eqTaskS.mono a0 a1⟩⟩
instance : ∀ a0 a1 a2 a3 a4, Mono (fun k => laws_toDispatcher.f k a0 a1 a2 a3 a4) := fun a0 a1 a2 a3 a4 => ⟨⟨laws_toDispatcher.mono a0 a1 a2 a3 a4⟩⟩
instance : ∀ a0, Mono (fun k => laws_toJobS.f k a0) := fun a0 => ⟨⟨laws_toJobS.mono a0⟩⟩
instance : ∀ a0, Mono (fun k => laws_toTaskS.f k a0) := fun a0 => ⟨⟨laws_toTaskS.mono a0⟩⟩
instance : ∀ a0 a1 a2 a3 a4 a5, Mono (fun k => spec_DispatchGap.f k a0 a1 a2 a3 a4 a5) := fun a0 a1 a2 a3 a4 a5 => ⟨⟨spec_DispatchGap.mono a0 a1 a2 a3 a4 a5⟩⟩
instance : ∀ a0 a1 a2 a3 a4 a5, Mono (fun k => spec_DispatchValue.f k a0 a1 a2 a3 a4 a5) := fun a0 a1 a2 a3 a4 a5 => ⟨⟨spec_DispatchValue.mono a0 a1 a2 a3 a4 a5⟩⟩
instance : ∀ a0 a1 a2 a3 a4, Mono (fun k => spec_l12Ends.f k a0 a1 a2 a3 a4) := fun a0 a1 a2 a3 a4 => ⟨⟨spec_l12Ends.mono a0 a1 a2 a3 a4⟩⟩
instance : ∀ a0 a1 a2 a3 a4, Mono (fun k => spec_l12Good.f k a0 a1 a2 a3 a4) := fun a0 a1 a2 a3 a4 => ⟨⟨spec_l12Good.mono a0 a1 a2 a3 a4⟩⟩
instance : ∀ a0 a1 a2 a3 a4, Mono (fun k => spec_l12Tasks.f k a0 a1 a2 a3 a4) := fun a0 a1 a2 a3 a4 => ⟨⟨spec_l12Tasks.mono a0 a1 a2 a3 a4⟩⟩
instance : ∀ a0 a1, Mono (fun k => spec_l1Has.f k a0 a1) := fun a0 a1 => ⟨⟨spec_l1Has.mono a0 a1⟩⟩
instance : ∀ a0 a1, Mono (fun k => spec_l2All.f k a0 a1) := fun a0 a1 => ⟨⟨spec_l2All.mono a0 a1⟩⟩
instance : ∀ a0 a1, Mono (fun k => spec_l2Best.f k a0 a1) := fun a0 a1 => ⟨⟨spec_l2Best.mono a0 a1⟩⟩
instance : ∀ a0 a1, Mono (fun k => spec_l2Ends.f k a0 a1) := fun a0 a1 => ⟨⟨spec_l2Ends.mono a0 a1⟩⟩
instance : ∀ a0, Mono (fun k => spec_l2Good.f k a0) := fun a0 => ⟨⟨spec_l2Good.mono a0⟩⟩
instance : ∀ a0 a1 a2, Mono (fun k => spec_l2Of.f k a0 a1 a2) := fun a0 a1 a2 => ⟨⟨spec_l2Of.mono a0 a1 a2⟩⟩
instance : ∀ a0 a1, Mono (fun k => spec_l2Starts.f k a0 a1) := fun a0 a1 => ⟨⟨spec_l2Starts.mono a0 a1⟩⟩
instance : ∀ a0 a1 a2 a3 a4 a5, Mono (fun k => spec_l2Try.f k a0 a1 a2 a3 a4 a5) := fun a0 a1 a2 a3 a4 a5 => ⟨⟨spec_l2Try.mono a0 a1 a2 a3 a4 a5⟩⟩
instance : ∀ a0 a1 a2, Mono (fun k => spec_l2Value.f k a0 a1 a2) := fun a0 a1 a2 => ⟨⟨spec_l2Value.mono a0 a1 a2⟩⟩
theorem lt_mid {α : Type} (pre : List α) (x : α) (r : List α) : ((pre.length : Int) < ((pre ++ x :: r).length : Int)) = True := by
  simp only [List.length_append, List.length_cons]
  exact eq_true (by omega)
theorem not_lt_end {α : Type} (pre : List α) : ((pre.length : Int) < ((pre ++ []).length : Int)) = False := by
  simp
theorem le_nat (n : Nat) : (0 ≤ (n : Int)) = True := eq_true (by omega)
theorem getD_mid {α : Type} (pre : List α) (x : α) (r : List α) (d : α) : (pre ++ x :: r).getD (pre.length : Int).toNat d = x := by
  simp [List.getD_eq_getElem?_getD]
theorem rd_mid (pre : List Int) (x : Int) (r : List Int) : rd (pre ++ x :: r) (pre.length : Int) = x := getD_mid pre x r 0
theorem wrap_mid {α : Type} (pre : List α) (x : α) (h : pre.length < 4611686018427387904) : wrap64 ((pre.length : Int) + 1) = ((pre ++ [x]).length : Int) := by
  rw [wrap_id (by omega) (by omega)]
  simp
theorem set_mid {α β : Type} (a : List α) (y v : α) (b : List α) (pre : List β) (h : pre.length = a.length) : (a ++ y :: b).set (pre.length : Int).toNat v = a ++ v :: b := by
  rw [Int.toNat_natCast, h, List.set_append_right _ _ (Nat.le_refl _)]
  simp
theorem rep_succ {α : Type} (x : α) (r : List α) {β : Type} (z : β) : List.replicate (x :: r).length z = z :: List.replicate r.length z := rfl
theorem app_cons {α : Type} (pre : List α) (x : α) (r : List α) : pre ++ x :: r = (pre ++ [x]) ++ r := by simp
theorem getD_set (out : List Int) (i j : Nat) (v : Int) : (out.set i v).getD j 0 = if i = j ∧ j < out.length then v else out.getD j 0 := by
  simp only [List.getD_eq_getElem?_getD, List.getElem?_set]
  by_cases h : i = j
  · subst h
    by_cases h2 : i < out.length
    · simp [h2]
    · simp [h2]
  · simp [h]
theorem ext_getD {a b : List Int} (hl : a.length = b.length) (h : ∀ j : Nat, j < a.length → a.getD j 0 = b.getD j 0) : a = b := by
  apply List.ext_getElem hl
  intro j h1 h2
  have := h j h1
  rwa [List.getD_eq_getElem?_getD, List.getD_eq_getElem?_getD, List.getElem?_eq_getElem h1, List.getElem?_eq_getElem h2] at this
theorem getD_mem {l : List Int} {j : Nat} (hj : j < l.length) : l.getD j 0 ∈ l := by
  rw [List.getD_eq_getElem?_getD, List.getElem?_eq_getElem hj]
  exact List.getElem_mem _
/-- Option.bind_some, not as a reduction: simp would reduce what stands behind it, numbers too. -/
theorem bindS {α β : Type} (a : α) (f : α → Option β) : (some a).bind f = f a := id rfl
def toJobP (x : S63) : S61 := ⟨x.f0, x.f1, x.f2, x.f3⟩
theorem toJobS_l (r : List S63) : ∀ pre : List S63, (pre ++ r).length < 4611686018427387904 → L (fun k => laws_toJobS.l0 k (pre ++ r) (pre.map toJobP ++ List.replicate r.length z61) (pre.length : Int)) = some ((pre ++ r).map toJobP) := by
  induction r with
  | nil =>
    intro pre hb
    rw [L_shift]
    simp only [laws_toJobS.l0, not_lt_end, if_false, L_const, List.length_nil, List.replicate_zero]
    simp
  | cons x r ih =>
    intro pre hb
    rw [L_shift]
    have hl : pre.length < 4611686018427387904 := by simp at hb; omega
    have e : rd_T63 (pre ++ x :: r) (pre.length : Int) = x := getD_mid pre x r _
    have e2 : ((pre.length : Int) < ((pre.map toJobP ++ z61 :: List.replicate r.length z61).length : Int)) = True := by
      simp only [List.length_append, List.length_cons, List.length_map]
      exact eq_true (by omega)
    simp only [laws_toJobS.l0, laws_toJob.f, lt_mid, le_nat, if_true, rep_succ, e, e2, wrap_mid pre x hl, Option.bind_some, set_mid (pre.map toJobP) _ _ _ pre (by simp)]
    have := ih (pre ++ [x]) (by simpa using hb)
    simpa [toJobP] using this
theorem toJobS_L (l : List S63) (h : l.length ≤ 1048576) : L (fun k => laws_toJobS.f k l) = some (l.map toJobP) := by
  simp only [laws_toJobS.f, le_nat, if_true, Int.toNat_natCast, if_pos (show l.length ≤ 8796093022208 by omega)]
  exact toJobS_l l [] (by simp; omega)
theorem eqJobS_l (r : List S61) : ∀ pre : List S61, (pre ++ r).length < 4611686018427387904 → L (fun k => laws_eqJobS.l0 k (pre ++ r) (pre ++ r) (pre.length : Int)) = some true := by
  induction r with
  | nil =>
    intro pre hb
    rw [L_shift]
    simp only [laws_eqJobS.l0, not_lt_end, if_false, L_const]
  | cons x r ih =>
    intro pre hb
    rw [L_shift]
    have hl : pre.length < 4611686018427387904 := by simp at hb; omega
    simp only [laws_eqJobS.l0, laws_eqJob.f, lt_mid, le_nat, if_true, wrap_mid pre x hl, Option.bind_some]
    rw [app_cons pre x r]
    exact ih (pre ++ [x]) (by simpa using hb)
theorem eqJobS_L (l : List S61) (h : l.length ≤ 1048576) : L (fun k => laws_eqJobS.f k l l) = some true := by
  simp only [laws_eqJobS.f, if_true]
  exact eqJobS_l l [] (by simp; omega)
theorem szJobS_e (l : List S63) (h : l.length ≤ 9223372036854775807) : laws_szJobS.f l 1048576 = if l.length ≤ 1048576 then some (1048576 - (l.length : Int)) else some (-1) := by
  unfold laws_szJobS.f
  have e : wrap64 (1048576 - (l.length : Int)) = 1048576 - (l.length : Int) := wrap_id (by omega) (by omega)
  rw [e]
  by_cases h2 : l.length ≤ 1048576
  · rw [if_neg (by omega), if_pos h2]
  · rw [if_pos (by omega), if_neg h2]
theorem ite_and (b c : Bool) : (if b = true then some c else some false) = some (b && c) := by cases b <;> rfl
theorem bind_self {α : Type} (o : Option α) : (o.bind fun t => some t) = o := by cases o <;> rfl
def inB (a lo hi : Int) : Bool := decide (lo ≤ a) && decide (a ≤ hi)
theorem inB_iff {a lo hi : Int} : inB a lo hi = true ↔ lo ≤ a ∧ a ≤ hi := by simp [inB]
theorem within_e (a lo hi : Int) : impl_within.f a lo hi = some (inB a lo hi) := by
  unfold impl_within.f inB
  by_cases h : lo ≤ a <;> simp [h]
theorem l1In_e (a lo hi : Int) : spec_l1In.f a lo hi = some (inB a lo hi) := by
  unfold spec_l1In.f inB
  by_cases h : lo ≤ a <;> simp [h]
theorem mx_e (a b : Int) : mx a b = max a b := by
  unfold mx
  omega
theorem l1Most_e (a b : Int) : spec_l1Most.f a b = some (max a b) := by
  unfold spec_l1Most.f
  by_cases h : a > b
  · rw [if_pos h]
    congr 1
    omega
  · rw [if_neg h]
    congr 1
    omega
theorem l1Has_l (x : Int) (r : List Int) : ∀ pre : List Int, (pre ++ r).length < 4611686018427387904 → L (fun k => spec_l1Has.l0 k (pre ++ r) x (pre.length : Int)) = some (decide (x ∈ r)) := by
  induction r with
  | nil =>
    intro pre hb
    rw [L_shift]
    simp only [spec_l1Has.l0, not_lt_end, if_false, L_const]
    simp
  | cons y r ih =>
    intro pre hb
    rw [L_shift]
    have hl : pre.length < 4611686018427387904 := by simp at hb; omega
    simp only [spec_l1Has.l0, lt_mid, le_nat, if_true, rd_mid, wrap_mid pre y hl, L_ite, L_const]
    rw [app_cons pre y r, ih (pre ++ [y]) (by simpa using hb)]
    by_cases h : y = x
    · subst h
      simp
    · rw [if_neg h]
      have : ¬ x = y := fun e => h e.symm
      simp [this]
theorem l1Has_L (l : List Int) (x : Int) (h : l.length < 4611686018427387904) : L (fun k => spec_l1Has.f k l x) = some (decide (x ∈ l)) := l1Has_l x l [] (by simpa using h)
theorem perm_of : ∀ (a b : List Int), a.Nodup → (∀ x ∈ a, x ∈ b) → b.length ≤ a.length → a.Perm b
  | [], b, _, _, hl => by
    have : b = [] := List.length_eq_zero_iff.1 (by simpa using hl)
    rw [this]
  | x :: a, b, hn, hs, hl => by
    have hx : x ∈ b := hs x List.mem_cons_self
    have hn' := List.nodup_cons.1 hn
    have hp := List.perm_cons_erase hx
    have h1 : (b.erase x).length ≤ a.length := by
      have := List.length_erase_of_mem hx
      simp at hl
      omega
    have h2 : ∀ y ∈ a, y ∈ b.erase x := fun y hy => (List.mem_erase_of_ne (by rintro rfl; exact hn'.1 hy)).2 (hs y (List.mem_cons_of_mem _ hy))
    exact ((perm_of a (b.erase x) hn'.2 h2 h1).cons x).trans hp.symm
def numsTo (n : Nat) : List Int := (List.range n).map (fun i : Nat => (i : Int))
theorem numsTo_length (n : Nat) : (numsTo n).length = n := by simp [numsTo]
theorem mem_numsTo {n : Nat} {x : Int} : x ∈ numsTo n ↔ 0 ≤ x ∧ x < n := by
  simp only [numsTo, List.mem_map, List.mem_range]
  constructor
  · rintro ⟨i, hi, rfl⟩
    omega
  · intro h
    exact ⟨x.toNat, by omega, by omega⟩
theorem numsTo_nodup (n : Nat) : (numsTo n).Nodup := by
  unfold numsTo
  exact List.Pairwise.map _ (fun a b h => by omega) List.nodup_range
theorem numsTo_succ (n : Nat) : numsTo (n + 1) = numsTo n ++ [(n : Int)] := by
  unfold numsTo
  rw [List.range_succ, List.map_append]
  rfl
/-- Different numbers of n things, none of them in pre. -/
def diffB (n : Int) : List Int → List Int → Bool
  | _, [] => true
  | pre, x :: r => inB x 0 (n - 1) && (!decide (x ∈ pre) && diffB n (pre ++ [x]) r)
/-- An order of n jobs. -/
def orderB (n : Nat) (l : List Int) : Bool := decide ((l.length : Int) = n) && diffB n [] l
def IsOrd (n : Nat) (l : List Int) : Prop := l.length = n ∧ (∀ x ∈ l, 0 ≤ x ∧ x < n) ∧ l.Nodup
theorem IsOrd.perm {n : Nat} {l : List Int} (h : IsOrd n l) : l.Perm (numsTo n) := perm_of l _ h.2.2 (fun x hx => mem_numsTo.2 (h.2.1 x hx)) (by rw [numsTo_length, h.1]; exact Nat.le_refl _)
theorem IsOrd.of_perm {n : Nat} {l : List Int} (h : l.Perm (numsTo n)) : IsOrd n l := ⟨by rw [h.length_eq, numsTo_length], fun x hx => mem_numsTo.1 (h.mem_iff.1 hx), h.nodup_iff.2 (numsTo_nodup n)⟩
theorem IsOrd.mem {n : Nat} {l : List Int} (h : IsOrd n l) {x : Int} : x ∈ l ↔ 0 ≤ x ∧ x < n := by rw [h.perm.mem_iff, mem_numsTo]
def jobB (j : S61) : Bool := inB j.f0 1 50 && (inB j.f1 0 50 && (inB j.f2 0 500 && inB j.f3 0 500))
def goodB (l : List S61) : Bool := l.all jobB && decide ((l.length : Int) ≤ 8)
structure JobOk (j : S61) : Prop where
  t0 : 1 ≤ j.f0
  t1 : j.f0 ≤ 50
  w0 : 0 ≤ j.f1
  w1 : j.f1 ≤ 50
  r0 : 0 ≤ j.f2
  r1 : j.f2 ≤ 500
  d0 : 0 ≤ j.f3
  d1 : j.f3 ≤ 500
def Good (l : List S61) : Prop := l.length ≤ 8 ∧ ∀ j ∈ l, JobOk j
theorem goodB_iff {l : List S61} : goodB l = true ↔ Good l := by
  simp only [goodB, Good, Bool.and_eq_true, List.all_eq_true, decide_eq_true_eq, jobB, inB_iff]
  constructor
  · rintro ⟨h, hl⟩
    exact ⟨by omega, fun j hj => by
      obtain ⟨⟨a, b⟩, ⟨c, d⟩, ⟨e, f⟩, g, i⟩ := h j hj
      exact ⟨a, b, c, d, e, f, g, i⟩⟩
  · rintro ⟨hl, h⟩
    exact ⟨fun j hj => ⟨⟨(h j hj).t0, (h j hj).t1⟩, ⟨(h j hj).w0, (h j hj).w1⟩, ⟨(h j hj).r0, (h j hj).r1⟩, (h j hj).d0, (h j hj).d1⟩, by omega⟩
theorem l2Job_e (j : S61) : spec_l2Job.f j.f0 j.f1 j.f2 j.f3 = some (jobB j) := by
  simp only [spec_l2Job.f, l1In_e, Option.bind_some, ite_and, jobB]
theorem l2Good_l (r : List S61) : ∀ pre : List S61, (pre ++ r).length < 4611686018427387904 → L (fun k => spec_l2Good.l0 k (pre ++ r) (pre.length : Int)) = some (r.all jobB && decide (((pre ++ r).length : Int) ≤ 8)) := by
  induction r with
  | nil =>
    intro pre hb
    rw [L_shift]
    simp only [spec_l2Good.l0, not_lt_end, if_false, L_const]
    simp
  | cons x r ih =>
    intro pre hb
    rw [L_shift]
    have hl : pre.length < 4611686018427387904 := by simp at hb; omega
    have e : rd_T61 (pre ++ x :: r) (pre.length : Int) = x := getD_mid pre x r _
    simp only [spec_l2Good.l0, lt_mid, le_nat, if_true, e, wrap_mid pre x hl, l2Job_e, Option.bind_some, L_ite, L_const]
    rw [app_cons pre x r, ih (pre ++ [x]) (by simpa using hb), ite_and]
    rw [List.all_cons, Bool.and_assoc]
theorem l2Good_L (l : List S61) (h : l.length < 4611686018427387904) : L (fun k => spec_l2Good.f k l) = some (goodB l) := by
  have := l2Good_l l [] (by simpa using h)
  simpa [goodB, spec_l2Good.f] using this
theorem isDate_e (n : Int) : impl_isDate.f n = some (inB n 0 500) := by
  simp only [impl_isDate.f, within_e, Option.bind_some]
theorem IsJobs_l (r : List S61) : ∀ pre : List S61, (pre ++ r).length < 4611686018427387904 → L (fun k => impl_IsJobs.l0 k (pre ++ r) ((pre ++ r).length : Int) (pre.length : Int)) = some (r.all jobB) := by
  induction r with
  | nil =>
    intro pre hb
    rw [L_shift]
    simp only [impl_IsJobs.l0, not_lt_end, if_false, L_const]
    simp
  | cons x r ih =>
    intro pre hb
    rw [L_shift]
    have hl : pre.length < 4611686018427387904 := by simp at hb; omega
    have e : rd_T61 (pre ++ x :: r) (pre.length : Int) = x := getD_mid pre x r _
    simp only [impl_IsJobs.l0, lt_mid, le_nat, if_true, e, wrap_mid pre x hl, within_e, isDate_e, Option.bind_some, L_ite, L_const]
    rw [app_cons pre x r, ih (pre ++ [x]) (by simpa using hb)]
    simp only [ite_and, List.all_cons, jobB, Bool.and_assoc]
theorem IsJobs_L (l : List S61) (h : l.length < 4611686018427387904) : L (fun k => impl_IsJobs.f k l) = some (goodB l) := by
  have := IsJobs_l l [] (by simpa using h)
  simp only [List.nil_append, List.length_nil, Int.natCast_zero] at this
  simp only [impl_IsJobs.f, L_ite, L_const, this, goodB]
  by_cases h8 : (l.length : Int) ≤ 8
  · rw [if_neg (by omega)]
    simp [h8]
  · rw [if_pos (by omega)]
    simp [h8]
def jobAt (l : List S61) (x : Int) : S61 := l.getD x.toNat z61
theorem jobAt_mem {l : List S61} {x : Int} (h0 : 0 ≤ x) (h1 : x < l.length) : jobAt l x ∈ l := by
  unfold jobAt
  rw [List.getD_eq_getElem?_getD, List.getElem?_eq_getElem (by omega)]
  exact List.getElem_mem _
/-- The ends, put into out by the jobs' numbers. -/
def endsF (l : List S61) : List Int → List Int → Int → List Int
  | [], out, _ => out
  | x :: r, out, now => endsF l r (out.set x.toNat (max now (jobAt l x).f2 + (jobAt l x).f0)) (max now (jobAt l x).f2 + (jobAt l x).f0)
def startsF (l : List S61) : List Int → List Int → Int → List Int
  | [], out, _ => out
  | x :: r, out, now => startsF l r (out.set x.toNat (max now (jobAt l x).f2)) (max now (jobAt l x).f2 + (jobAt l x).f0)
def endsP (l : List S61) (o : List Int) : List Int := endsF l o (List.replicate l.length 0) 0
def startsP (l : List S61) (o : List Int) : List Int := startsF l o (List.replicate l.length 0) 0
theorem endsF_length (l : List S61) : ∀ (o out : List Int) (now : Int), (endsF l o out now).length = out.length
  | [], out, now => rfl
  | x :: r, out, now => by rw [endsF, endsF_length l r, List.length_set]
theorem startsF_length (l : List S61) : ∀ (o out : List Int) (now : Int), (startsF l o out now).length = out.length
  | [], out, now => rfl
  | x :: r, out, now => by rw [startsF, startsF_length l r, List.length_set]
theorem endsP_length (l : List S61) (o : List Int) : (endsP l o).length = l.length := by rw [endsP, endsF_length, List.length_replicate]
theorem startsP_length (l : List S61) (o : List Int) : (startsP l o).length = l.length := by rw [startsP, startsF_length, List.length_replicate]
theorem ends_starts (l : List S61) : ∀ (o E S : List Int) (now : Int), E.length = l.length → S.length = l.length → (∀ x ∈ o, 0 ≤ x ∧ x < (l.length : Int)) →
    ∀ j : Nat, j < l.length → ((j : Int) ∈ o ∨ E.getD j 0 = S.getD j 0 + (l.getD j z61).f0) → (endsF l o E now).getD j 0 = (startsF l o S now).getD j 0 + (l.getD j z61).f0
  | [], E, S, now, _, _, _, j, _, h => by
    rcases h with h | h
    · cases h
    · exact h
  | x :: r, E, S, now, hE, hS, hx, j, hj, h => by
    rw [endsF, startsF]
    refine ends_starts l r _ _ _ (by rw [List.length_set, hE]) (by rw [List.length_set, hS]) (fun y hy => hx y (List.mem_cons_of_mem _ hy)) j hj ?_
    have hx0 := hx x List.mem_cons_self
    by_cases hr : (j : Int) ∈ r
    · exact .inl hr
    · right
      rw [getD_set, getD_set, hE, hS]
      by_cases e : x.toNat = j
      · rw [if_pos ⟨e, hj⟩, if_pos ⟨e, hj⟩]
        unfold jobAt
        rw [e]
      · rw [if_neg (fun h => e h.1), if_neg (fun h => e h.1)]
        rcases h with h | h
        · rcases List.mem_cons.1 h with h | h
          · exact absurd (by omega) e
          · exact absurd h hr
        · exact h
theorem ends_bounds (l : List S61) (hg : Good l) : ∀ (o E : List Int) (now : Int), 0 ≤ now → now ≤ 500 + 50 * (8 - o.length : Int) → o.length ≤ 8 → (∀ x ∈ o, 0 ≤ x ∧ x < (l.length : Int)) → (∀ v ∈ E, 0 ≤ v ∧ v ≤ 900) → ∀ v ∈ endsF l o E now, 0 ≤ v ∧ v ≤ 900
  | [], E, now, _, _, _, _, hE => hE
  | x :: r, E, now, h0, h1, hl, hx, hE => by
    rw [endsF]
    have hx0 := hx x List.mem_cons_self
    have hj := hg.2 _ (jobAt_mem hx0.1 hx0.2)
    have a0 := hj.t0
    have a1 := hj.t1
    have a2 := hj.r0
    have a3 := hj.r1
    simp only [List.length_cons] at h1 hl
    refine ends_bounds l hg r _ _ (by omega) (by omega) (by omega) (fun y hy => hx y (List.mem_cons_of_mem _ hy)) (fun v hv => ?_)
    rcases List.mem_or_eq_of_mem_set hv with h | h
    · exact hE v h
    · rw [h]
      omega
theorem endsP_bounds {l : List S61} {o : List Int} (hg : Good l) (ho : IsOrd l.length o) : ∀ v ∈ endsP l o, 0 ≤ v ∧ v ≤ 900 :=
  ends_bounds l hg o _ 0 (by omega) (by have := ho.1; have := hg.1; omega) (by have := ho.1; have := hg.1; omega) ho.2.1 (fun v hv => by rw [(List.mem_replicate.1 hv).2]; omega)
theorem endsP_starts {l : List S61} {o : List Int} (ho : IsOrd l.length o) (j : Nat) (hj : j < l.length) : (endsP l o).getD j 0 = (startsP l o).getD j 0 + (l.getD j z61).f0 :=
  ends_starts l o _ _ 0 (by simp) (by simp) ho.2.1 j hj (.inl (ho.mem.2 ⟨by omega, by omega⟩))
theorem endsOf_l (l : List S61) (hg : Good l) (r : List Int) (hx : ∀ x ∈ r, 0 ≤ x ∧ x < (l.length : Int)) : ∀ (pre E : List Int) (now : Int), (pre ++ r).length < 4611686018427387904 → E.length = l.length → 0 ≤ now → now + 50 * r.length ≤ 900 → r.length ≤ 8 →
    L (fun k => impl_endsOf.l0 k l E now (pre ++ r) ((pre ++ r).length : Int) (pre.length : Int)) = some (endsF l r E now) := by
  induction r with
  | nil =>
    intro pre E now hb _ _ _ _
    rw [L_shift]
    simp only [impl_endsOf.l0, not_lt_end, if_false, L_const, endsF]
  | cons x r ih =>
    intro pre E now hb hE h0 h1 h2
    rw [L_shift]
    have hl : pre.length < 4611686018427387904 := by simp at hb; omega
    have hx0 := hx x List.mem_cons_self
    have hj := hg.2 _ (jobAt_mem hx0.1 hx0.2)
    have a0 := hj.t0
    have a1 := hj.t1
    have a2 := hj.r0
    have a3 := hj.r1
    simp only [List.length_cons] at h1 h2
    have e : rd_T61 l x = jobAt l x := rfl
    simp only [impl_endsOf.l0, lt_mid, le_nat, if_true, rd_mid, wrap_mid pre x hl, e, mx_e, if_pos hx0.1, if_pos hx0.2, if_pos (show x < (E.length : Int) by omega), wrap_id (show -9223372036854775808 ≤ max now (jobAt l x).f2 + (jobAt l x).f0 by omega) (show max now (jobAt l x).f2 + (jobAt l x).f0 ≤ 9223372036854775807 by omega)]
    rw [app_cons pre x r, endsF]
    exact ih (fun y hy => hx y (List.mem_cons_of_mem _ hy)) (pre ++ [x]) _ _ (by simpa using hb) (by rw [List.length_set, hE]) (by omega) (by omega) (by omega)
theorem endsOf_L (l : List S61) (o : List Int) (hg : Good l) (ho : IsOrd l.length o) : L (fun k => impl_endsOf.f k l o) = some (endsP l o) := by
  have h8 := hg.1
  have hl := ho.1
  simp only [impl_endsOf.f, le_nat, if_true, Int.toNat_natCast, if_pos (show l.length ≤ 35184372088832 by omega)]
  exact endsOf_l l hg o ho.2.1 [] _ 0 (by simp; omega) (by simp) (by omega) (by omega) (by omega)
theorem l2Starts_l (l : List S61) (hg : Good l) (r : List Int) (hx : ∀ x ∈ r, 0 ≤ x ∧ x < (l.length : Int)) : ∀ (pre E : List Int) (now : Int), (pre ++ r).length < 4611686018427387904 → E.length = l.length → 0 ≤ now → now + 50 * r.length ≤ 900 → r.length ≤ 8 →
    L (fun k => spec_l2Starts.l0 k l (pre ++ r) E now (pre.length : Int)) = some (startsF l r E now) := by
  induction r with
  | nil =>
    intro pre E now hb _ _ _ _
    rw [L_shift]
    simp only [spec_l2Starts.l0, not_lt_end, if_false, L_const, startsF]
  | cons x r ih =>
    intro pre E now hb hE h0 h1 h2
    rw [L_shift]
    have hl : pre.length < 4611686018427387904 := by simp at hb; omega
    have hx0 := hx x List.mem_cons_self
    have hj := hg.2 _ (jobAt_mem hx0.1 hx0.2)
    have a0 := hj.t0
    have a1 := hj.t1
    have a2 := hj.r0
    have a3 := hj.r1
    simp only [List.length_cons] at h1 h2
    have e : rd_T61 l x = jobAt l x := rfl
    have e2 : rd (E.set x.toNat (max now (jobAt l x).f2)) x = max now (jobAt l x).f2 := by
      show (E.set x.toNat (max now (jobAt l x).f2)).getD x.toNat 0 = _
      rw [getD_set, if_pos ⟨rfl, by omega⟩]
    simp only [spec_l2Starts.l0, lt_mid, le_nat, if_true, rd_mid, wrap_mid pre x hl, e, l1Most_e, Option.bind_some, e2, if_pos hx0.1, if_pos hx0.2, if_pos (show x < (E.length : Int) by omega), wrap_id (show -9223372036854775808 ≤ max now (jobAt l x).f2 + (jobAt l x).f0 by omega) (show max now (jobAt l x).f2 + (jobAt l x).f0 ≤ 9223372036854775807 by omega)]
    rw [app_cons pre x r, startsF]
    exact ih (fun y hy => hx y (List.mem_cons_of_mem _ hy)) (pre ++ [x]) _ _ (by simpa using hb) (by rw [List.length_set, hE]) (by omega) (by omega) (by omega)
theorem l2Starts_L (l : List S61) (o : List Int) (hg : Good l) (ho : IsOrd l.length o) : L (fun k => spec_l2Starts.f k l o) = some (startsP l o) := by
  have h8 := hg.1
  have hl := ho.1
  simp only [spec_l2Starts.f, le_nat, if_true, Int.toNat_natCast, if_pos (show l.length ≤ 35184372088832 by omega)]
  exact l2Starts_l l hg o ho.2.1 [] _ 0 (by simp; omega) (by simp) (by omega) (by omega) (by omega)
theorem l2Ends_l (l : List S61) (T : List Int) (hT : T.length = l.length) (hB : ∀ j : Nat, j < l.length → -1000000 ≤ T.getD j 0 + (l.getD j z61).f0 ∧ T.getD j 0 + (l.getD j z61).f0 ≤ 1000000) (h8 : l.length ≤ 8) : ∀ (d i : Nat) (S : List Int), i + d = l.length → S.length = l.length →
    (∀ j : Nat, j < l.length → S.getD j 0 = if j < i then T.getD j 0 + (l.getD j z61).f0 else T.getD j 0) →
    ∃ R : List Int, L (fun k => spec_l2Ends.l0 k l S (i : Int)) = some R ∧ R.length = l.length ∧ ∀ j : Nat, j < l.length → R.getD j 0 = T.getD j 0 + (l.getD j z61).f0
  | 0, i, S, hi, hS, h => by
    refine ⟨S, ?_, hS, fun j hj => by rw [h j hj, if_pos (by omega)]⟩
    rw [L_shift]
    simp only [spec_l2Ends.l0, if_neg (show ¬ (i : Int) < (l.length : Int) by omega), L_const]
  | d + 1, i, S, hi, hS, h => by
    rw [L_shift]
    have hb := hB i (by omega)
    have e1 : rd S (i : Int) = T.getD i 0 := by
      show S.getD (i : Int).toNat 0 = _
      rw [Int.toNat_natCast, h i (by omega), if_neg (by omega)]
    have e2 : rd_T61 l (i : Int) = l.getD i z61 := by
      show l.getD (i : Int).toNat z61 = _
      rw [Int.toNat_natCast]
    have e3 : wrap64 ((i : Int) + 1) = ((i + 1 : Nat) : Int) := by
      rw [wrap_id (by omega) (by omega)]
      omega
    simp only [spec_l2Ends.l0, if_pos (show (i : Int) < (l.length : Int) by omega), if_pos (show (i : Int) < (S.length : Int) by omega), le_nat, if_true, e1, e2, e3, Int.toNat_natCast, wrap_id (show -9223372036854775808 ≤ T.getD i 0 + (l.getD i z61).f0 by omega) (by omega)]
    refine l2Ends_l l T hT hB h8 d (i + 1) _ (by omega) (by rw [List.length_set, hS]) (fun j hj => ?_)
    rw [getD_set]
    by_cases e : i = j
    · subst e
      rw [if_pos ⟨rfl, by omega⟩, if_pos (by omega)]
    · rw [if_neg (fun h => e h.1), h j hj]
      by_cases hji : j < i
      · rw [if_pos hji, if_pos (by omega)]
      · rw [if_neg hji, if_neg (by omega)]
theorem l2Ends_L (l : List S61) (o : List Int) (hg : Good l) (ho : IsOrd l.length o) : L (fun k => spec_l2Ends.f k l o) = some (endsP l o) := by
  simp only [spec_l2Ends.f, L_bind, l2Starts_L l o hg ho, Option.bind_some]
  have hb := endsP_bounds hg ho
  obtain ⟨R, h1, h2, h3⟩ := l2Ends_l l (startsP l o) (startsP_length l o) (fun j hj => by
    rw [← endsP_starts ho j hj]
    have := hb _ (getD_mem (l := endsP l o) (j := j) (by rw [endsP_length]; exact hj))
    omega) hg.1 l.length 0 (startsP l o) (by omega) (startsP_length l o) (fun j hj => by rw [if_neg (by omega)])
  rw [show (0 : Int) = ((0 : Nat) : Int) from rfl, h1]
  congr 1
  refine ext_getD (by rw [h2, endsP_length]) (fun j hj => ?_)
  rw [h3 j (by omega), endsP_starts ho j (by omega)]
def maxTo (v : Int) (l : List Int) : Int := l.foldl max v
theorem mul_bd {w e : Int} (w0 : 0 ≤ w) (w1 : w ≤ 50) (e0 : 0 ≤ e) (e1 : e ≤ 2000) : 0 ≤ w * e ∧ w * e ≤ 100000 := by
  have h1 : w * e ≤ 50 * e := Int.mul_le_mul_of_nonneg_right w1 e0
  have h2 : 0 ≤ w * e := Int.mul_nonneg w0 e0
  omega
/-- What a job with an end adds to a value. -/
def addF (v : Int) (j : S61) (e obj : Int) (first : Bool) : Int :=
  if obj = 1 then max v e else if obj = 2 then v + e else if obj = 3 then v + j.f1 * e else if obj = 4 then (if first = true then e - j.f3 else max v (e - j.f3))
  else if obj = 5 then v + max 0 (e - j.f3) else if obj = 6 then v + j.f1 * max 0 (e - j.f3) else if e - j.f3 ≤ 0 then v else if obj = 7 then v + 1 else v + j.f1
theorem addF_bd (v : Int) (j : S61) (e obj : Int) (first : Bool) (hj : JobOk j) (he0 : 0 ≤ e) (he1 : e ≤ 2000) {B : Int} (hB : 0 ≤ B) (hv0 : -B ≤ v) (hv1 : v ≤ B) : -(B + 100000) ≤ addF v j e obj first ∧ addF v j e obj first ≤ B + 100000 := by
  have a2 := hj.d0
  have a3 := hj.d1
  have m1 := mul_bd hj.w0 hj.w1 he0 he1
  have m2 := mul_bd hj.w0 hj.w1 (show 0 ≤ max 0 (e - j.f3) by omega) (by omega)
  have w0 := hj.w0
  have w1 := hj.w1
  unfold addF
  repeat' split
  all_goals omega
theorem add_e (v : Int) (j : S61) (e obj : Int) (first : Bool) (hj : JobOk j) (he0 : 0 ≤ e) (he1 : e ≤ 2000) (hv0 : -1000000000 ≤ v) (hv1 : v ≤ 1000000000) : impl_add.f v j.f0 j.f1 j.f2 j.f3 e obj first = some (addF v j e obj first) := by
  have a2 := hj.d0
  have a3 := hj.d1
  have m1 := mul_bd hj.w0 hj.w1 he0 he1
  have m2 := mul_bd hj.w0 hj.w1 (show 0 ≤ max 0 (e - j.f3) by omega) (by omega)
  have w0 := hj.w0
  have w1 := hj.w1
  unfold impl_add.f addF
  simp only [mx_e]
  rw [wrap_id (show -9223372036854775808 ≤ e - j.f3 by omega) (by omega), wrap_id (show -9223372036854775808 ≤ v + e by omega) (by omega), wrap_id (show -9223372036854775808 ≤ j.f1 * e by omega) (by omega), wrap_id (show -9223372036854775808 ≤ v + j.f1 * e by omega) (by omega), wrap_id (show -9223372036854775808 ≤ v + max 0 (e - j.f3) by omega) (by omega), wrap_id (show -9223372036854775808 ≤ j.f1 * max 0 (e - j.f3) by omega) (by omega), wrap_id (show -9223372036854775808 ≤ v + j.f1 * max 0 (e - j.f3) by omega) (by omega), wrap_id (show -9223372036854775808 ≤ v + 1 by omega) (by omega), wrap_id (show -9223372036854775808 ≤ v + j.f1 by omega) (by omega)]
  repeat' split
  all_goals first | rfl | contradiction
/-- The value of an objective for ends. -/
def valF (obj : Int) : Int → Bool → List S61 → List Int → Int
  | v, _, [], _ => v
  | v, _, _, [] => v
  | v, first, j :: js, e :: es => valF obj (addF v j e obj first) false js es
def valP (obj : Int) (l : List S61) (es : List Int) : Int := valF obj 0 true l es
theorem valueOfEnds_l (obj : Int) (r : List S61) (hr : ∀ j ∈ r, JobOk j) : ∀ (pre : List S61) (pe es : List Int) (v : Int), (pre ++ r).length < 4611686018427387904 → pe.length = pre.length → es.length = r.length → (∀ e ∈ es, 0 ≤ e ∧ e ≤ 2000) → -(100000 * (1000 - r.length : Int)) ≤ v → v ≤ 100000 * (1000 - r.length : Int) → r.length ≤ 100 →
    L (fun k => impl_valueOfEnds.l0 k (pe ++ es) obj v (pre ++ r) ((pre ++ r).length : Int) (pre.length : Int)) = some (valF obj v (decide (pre.length = 0)) r es) := by
  induction r with
  | nil =>
    intro pre pe es v hb hpe hes _ _ _ _
    rw [L_shift]
    simp only [impl_valueOfEnds.l0, not_lt_end, if_false, L_const, valF]
  | cons x r ih =>
    intro pre pe es v hb hpe hes he h0 h1 h2
    match es, hes with
    | y :: es, hes =>
      rw [L_shift]
      have hl : pre.length < 4611686018427387904 := by simp at hb; omega
      have e : rd_T61 (pre ++ x :: r) (pre.length : Int) = x := getD_mid pre x r _
      have e1 : rd (pe ++ y :: es) (pre.length : Int) = y := by rw [← hpe]; exact rd_mid pe y es
      have e2 : ((pre.length : Int) < ((pe ++ y :: es).length : Int)) = True := by rw [← hpe]; exact lt_mid pe y es
      have e3 : ((pre.length : Int) == 0) = decide (pre.length = 0) := by
        by_cases h : pre.length = 0
        · rw [h]; rfl
        · rw [decide_eq_false h]
          simp
          exact fun e => h (by rw [e]; rfl)
      have hx := hr x List.mem_cons_self
      have hy := he y List.mem_cons_self
      simp only [List.length_cons] at h0 h1 h2 hes
      have hbd := addF_bd v x y obj (decide (pre.length = 0)) hx hy.1 hy.2 (B := 100000 * (1000 - (r.length + 1 : Nat) : Int)) (by omega) (by omega) (by omega)
      simp only [impl_valueOfEnds.l0, lt_mid, le_nat, if_true, e, e1, e2, e3, wrap_mid pre x hl, add_e v x y obj _ hx hy.1 hy.2 (by omega) (by omega), Option.bind_some]
      rw [app_cons pre x r, app_cons pe y es, ih (fun j hj => hr j (List.mem_cons_of_mem _ hj)) (pre ++ [x]) (pe ++ [y]) es _ (by simpa using hb) (by simp [hpe]) (by omega) (fun e he' => he e (List.mem_cons_of_mem _ he')) (by omega) (by omega) (by omega), valF]
      simp
theorem valueOfEnds_L (l : List S61) (hg : Good l) (es : List Int) (hes : es.length = l.length) (he : ∀ e ∈ es, 0 ≤ e ∧ e ≤ 2000) (obj : Int) : L (fun k => impl_valueOfEnds.f k l es obj) = some (valP obj l es) := by
  have h8 := hg.1
  have := valueOfEnds_l obj l hg.2 [] [] es 0 (by simp; omega) rfl hes he (by omega) (by omega) (by omega)
  simpa [impl_valueOfEnds.f, valP] using this
theorem valueOf_L (l : List S61) (o : List Int) (hg : Good l) (ho : IsOrd l.length o) (obj : Int) : L (fun k => impl_valueOf.f k l o obj) = some (valP obj l (endsP l o)) := by
  simp only [impl_valueOf.f, bind_self, L_bind, endsOf_L l o hg ho, Option.bind_some]
  exact valueOfEnds_L l hg _ (endsP_length l o) (fun e he => by have := endsP_bounds hg ho e he; omega) obj
def objB (obj : Int) : Bool := inB obj 1 8
theorem isObjective_e (n : Int) : impl_isObjective.f n = some (objB n) := by
  simp only [impl_isObjective.f, within_e, Option.bind_some, objB]
theorem objB_iff {n : Int} : objB n = true ↔ n = 1 ∨ n = 2 ∨ n = 3 ∨ n = 4 ∨ n = 5 ∨ n = 6 ∨ n = 7 ∨ n = 8 := by
  rw [objB, inB_iff]
  omega
theorem l2Objective_e (n : Int) : spec_l2Objective.f n = some (objB n) := by
  simp only [spec_l2Objective.f, l1In_e, Option.bind_some, objB]
theorem l2Cost_e (v : Int) (j : S61) (e obj : Int) (first : Bool) (hj : JobOk j) (he0 : 0 ≤ e) (he1 : e ≤ 2000) (ho : objB obj = true) (h1 : obj ≠ 1) (h4 : obj ≠ 4) : ∃ c, spec_l2Cost.f j.f0 j.f1 j.f2 j.f3 e obj = some c ∧ v + c = addF v j e obj first := by
  have a2 := hj.d0
  have a3 := hj.d1
  have m1 := mul_bd hj.w0 hj.w1 he0 he1
  have m2 := mul_bd hj.w0 hj.w1 (show 0 ≤ max (e - j.f3) 0 by omega) (by omega)
  have em : max (e - j.f3) 0 = max 0 (e - j.f3) := by omega
  simp only [spec_l2Cost.f, l1Most_e, Option.bind_some, wrap_id (show -9223372036854775808 ≤ e - j.f3 by omega) (show e - j.f3 ≤ 9223372036854775807 by omega), wrap_id (show -9223372036854775808 ≤ j.f1 * e by omega) (by omega), wrap_id (show -9223372036854775808 ≤ j.f1 * max (e - j.f3) 0 by omega) (by omega)]
  rcases objB_iff.1 ho with rfl | rfl | rfl | rfl | rfl | rfl | rfl | rfl
  · exact absurd rfl h1
  · exact ⟨_, rfl, rfl⟩
  · exact ⟨_, rfl, rfl⟩
  · exact absurd rfl h4
  · exact ⟨_, rfl, by rw [em]; rfl⟩
  · exact ⟨_, rfl, by rw [em]; rfl⟩
  · by_cases h : e - j.f3 ≤ 0
    · exact ⟨0, by simp; omega, by simp [addF, h]⟩
    · exact ⟨1, by simp; omega, by simp [addF, h]⟩
  · by_cases h : e - j.f3 ≤ 0
    · exact ⟨0, by simp; omega, by simp [addF, h]⟩
    · exact ⟨j.f1, by simp; omega, by simp [addF, h]⟩
theorem l2Of_l (obj : Int) (hobj : objB obj = true) (r : List S61) (hr : ∀ j ∈ r, JobOk j) : ∀ (pre : List S61) (pe es : List Int) (v : Int), (pre ++ r).length < 4611686018427387904 → pe.length = pre.length → es.length = r.length → (∀ e ∈ es, 0 ≤ e ∧ e ≤ 2000) → -(100000 * (1000 - r.length : Int)) ≤ v → v ≤ 100000 * (1000 - r.length : Int) → r.length ≤ 100 → (pre.length = 0 → v = 0) →
    L (fun k => spec_l2Of.l0 k (pre ++ r) (pe ++ es) obj v (pre.length : Int)) = some (valF obj v (decide (pre.length = 0)) r es) := by
  induction r with
  | nil =>
    intro pre pe es v hb hpe hes _ _ _ _ _
    rw [L_shift]
    simp only [spec_l2Of.l0, not_lt_end, if_false, L_const, valF]
  | cons x r ih =>
    intro pre pe es v hb hpe hes he h0 h1 h2 hv
    match es, hes with
    | y :: es, hes =>
      have hl : pre.length < 4611686018427387904 := by simp at hb; omega
      have e : rd_T61 (pre ++ x :: r) (pre.length : Int) = x := getD_mid pre x r _
      have e1 : rd (pe ++ y :: es) (pre.length : Int) = y := by rw [← hpe]; exact rd_mid pe y es
      have e2 : ((pre.length : Int) < ((pe ++ y :: es).length : Int)) = True := by rw [← hpe]; exact lt_mid pe y es
      have hx := hr x List.mem_cons_self
      have hy := he y List.mem_cons_self
      simp only [List.length_cons] at h0 h1 h2 hes
      have hbd := addF_bd v x y obj (decide (pre.length = 0)) hx hy.1 hy.2 (B := 100000 * (1000 - (r.length + 1 : Nat) : Int)) (by omega) (by omega) (by omega)
      have a2 := hx.d0
      have a3 := hx.d1
      have hstep : L (fun k => spec_l2Of.l0 k (pre ++ x :: r) (pe ++ y :: es) obj v (pre.length : Int)) = L (fun k => spec_l2Of.l0 k (pre ++ x :: r) (pe ++ y :: es) obj (addF v x y obj (decide (pre.length = 0))) ((pre ++ [x]).length : Int)) := by
        rw [L_shift]
        simp only [spec_l2Of.l0, lt_mid, le_nat, if_true, e, e1, e2, wrap_mid pre x hl]
        by_cases h4 : obj = 4
        · subst h4
          simp only [spec_l2Greatest.f, Option.bind_some, wrap_id (show -9223372036854775808 ≤ y - x.f3 by omega) (show y - x.f3 ≤ 9223372036854775807 by omega)]
          by_cases hp : pre.length = 0
          · simp [hp, addF]
          · have hp2 : ¬ pre = [] := fun h => hp (by rw [h]; rfl)
            by_cases hc : y - x.f3 > v
            · have : max v (y - x.f3) = y - x.f3 := by omega
              simp [hp2, addF, hc, this]
            · have : max v (y - x.f3) = v := by omega
              simp [hp2, addF, hc, this]
        · by_cases h1' : obj = 1
          · subst h1'
            simp only [spec_l2Greatest.f, Option.bind_some]
            by_cases hp : pre.length = 0
            · have : max v y = y := by have := hv hp; omega
              simp [hp, addF, this]
            · have hp2 : ¬ pre = [] := fun h => hp (by rw [h]; rfl)
              by_cases hc : y > v
              · have : max v y = y := by omega
                simp [hp2, addF, hc, this]
              · have : max v y = v := by omega
                simp [hp2, addF, hc, this]
          · obtain ⟨c, hc, hv2⟩ := l2Cost_e v x y obj (decide (pre.length = 0)) hx hy.1 hy.2 hobj h1' h4
            have hg : spec_l2Greatest.f obj = some false := by simp [spec_l2Greatest.f, h1', h4]
            simp only [hg, Option.bind_some, hc, hv2, wrap_id (show -9223372036854775808 ≤ addF v x y obj (decide (pre.length = 0)) by omega) (show addF v x y obj (decide (pre.length = 0)) ≤ 9223372036854775807 by omega)]
            simp
      rw [hstep, app_cons pre x r, app_cons pe y es, ih (fun j hj => hr j (List.mem_cons_of_mem _ hj)) (pre ++ [x]) (pe ++ [y]) es _ (by simpa using hb) (by simp [hpe]) (by omega) (fun e he' => he e (List.mem_cons_of_mem _ he')) (by omega) (by omega) (by omega) (by simp), valF]
      simp
theorem l2Of_L (l : List S61) (hg : Good l) (es : List Int) (hes : es.length = l.length) (he : ∀ e ∈ es, 0 ≤ e ∧ e ≤ 2000) (obj : Int) (hobj : objB obj = true) : L (fun k => spec_l2Of.f k l es obj) = some (valP obj l es) := by
  have h8 := hg.1
  have := l2Of_l obj hobj l hg.2 [] [] es 0 (by simp; omega) rfl hes he (by omega) (by omega) (by omega) (fun _ => rfl)
  simpa [spec_l2Of.f, valP] using this
theorem l2Value_L (l : List S61) (o : List Int) (hg : Good l) (ho : IsOrd l.length o) (obj : Int) (hobj : objB obj = true) : L (fun k => spec_l2Value.f k l o obj) = some (valP obj l (endsP l o)) := by
  simp only [spec_l2Value.f, bind_self, L_bind, l2Ends_L l o hg ho, Option.bind_some]
  exact l2Of_L l hg _ (endsP_length l o) (fun e he => by have := endsP_bounds hg ho e he; omega) obj hobj
/-- The rule difference of two jobs. -/
def gapJ (obj : Int) (a b : S61) : Int := if obj = 1 then a.f2 - b.f2 else if obj = 2 then a.f0 - b.f0 else if obj = 3 then a.f0 * b.f1 - b.f0 * a.f1 else a.f3 - b.f3
/-- The rule difference by the jobs' numbers. -/
def gapI (l : List S61) (obj x y : Int) : Int := gapJ obj (jobAt l x) (jobAt l y)
theorem copyInts_e (l : List Int) (h : l.length ≤ 1048576) : impl_copyInts.f l = some l := by
  simp only [impl_copyInts.f, Option.bind_some, List.length_nil, List.nil_append]
  rw [if_pos (by omega)]
theorem l1Own_e (l : List Int) (h : l.length ≤ 1048576) : spec_l1Own.f l = some l := by
  simp only [spec_l1Own.f, Option.bind_some, List.length_nil, List.nil_append]
  rw [if_pos (by omega)]
theorem rdTask {T a b : List S98} {x : S98} (h : T = a ++ x :: b) : rd_T98 T (a.length : Int) = x := by
  subst h
  exact getD_mid a x b _
def taskB (l : List S61) (m now : Int) (t : S98) : Bool := inB t.f0 0 (l.length - 1) && (inB t.f1 0 (m - 1) && (decide ((jobAt l t.f0).f2 ≤ t.f2) && decide (t.f2 ≤ now - 1)))
def clashB (l : List S61) (t u : S98) : Bool := decide (u.f0 = t.f0) || (decide (u.f1 = t.f1) && decide (u.f2 + (jobAt l u.f0).f0 > t.f2))
def aheadB (t p : S98) : Bool := decide (p.f2 > t.f2) || (decide (p.f2 = t.f2) && decide (p.f1 ≥ t.f1))
def lastB (pre : List S98) (t : S98) : Bool := match pre.getLast? with
  | none => false
  | some p => aheadB t p
def tasksB (l : List S61) (m now : Int) : List S98 → List S98 → Bool
  | _, [] => true
  | pre, t :: r => taskB l m now t && (!lastB pre t && (pre.all (fun u => !clashB l t u) && tasksB l m now (pre ++ [t]) r))
structure TaskOk (l : List S61) (m now : Int) (t : S98) : Prop where
  j0 : 0 ≤ t.f0
  j1 : t.f0 < l.length
  m0 : 0 ≤ t.f1
  m1 : t.f1 < m
  s0 : 0 ≤ t.f2
  s1 : t.f2 < now
theorem taskB_ok {l : List S61} {m now : Int} {t : S98} (hg : Good l) (h : taskB l m now t = true) : TaskOk l m now t := by
  simp only [taskB, Bool.and_eq_true, inB_iff, decide_eq_true_eq] at h
  obtain ⟨⟨a, b⟩, ⟨c, d⟩, e, f⟩ := h
  have hj := hg.2 _ (jobAt_mem (l := l) a (by omega))
  have := hj.r0
  exact ⟨a, by omega, c, by omega, by omega, by omega⟩
theorem end_wrap {l : List S61} {m now : Int} {t : S98} (hg : Good l) (hn : now ≤ 1000) (h : TaskOk l m now t) : wrap64 (t.f2 + (jobAt l t.f0).f0) = t.f2 + (jobAt l t.f0).f0 ∧ 1 ≤ (jobAt l t.f0).f0 ∧ (jobAt l t.f0).f0 ≤ 50 := by
  have hj := hg.2 _ (jobAt_mem h.j0 h.j1)
  have a0 := hj.t0
  have a1 := hj.t1
  have b0 := h.s0
  have b1 := h.s1
  exact ⟨wrap_id (by omega) (by omega), a0, a1⟩
theorem l3Job_e (l : List S61) (x : Int) (h : l.length ≤ 8) : spec_l3Job.f l x = some (inB x 0 (l.length - 1)) := by
  have e : wrap64 ((l.length : Int) - 1) = (l.length : Int) - 1 := wrap_id (by omega) (by omega)
  simp only [spec_l3Job.f, l1In_e, Option.bind_some, e]
theorem l12Tasks_in (l : List S61) (m pk now : Int) (hg : Good l) (hnow : now ≤ 1000) (T pre r : List S98) (t : S98) (hT : T = pre ++ t :: r) (hb : T.length ≤ 10000000) (hok : ∀ u ∈ pre, TaskOk l m now u) :
    ∀ (p2 p1 : List S98), pre = p1 ++ p2 → L (fun k => spec_l12Tasks.l1 k (pre.length : Int) (p1.length : Int) m pk now l T t.f0 t.f1 t.f2) = if p2.all (fun u => !clashB l t u) = true then L (fun k => spec_l12Tasks.l1 k (pre.length : Int) (pre.length : Int) m pk now l T t.f0 t.f1 t.f2) else some false := by
  intro p2
  induction p2 with
  | nil =>
    intro p1 h
    rw [List.append_nil] at h
    subst h
    simp
  | cons u p2 ih =>
    intro p1 h
    rw [L_shift]
    have hu := hok u (by rw [h]; simp)
    have ew := end_wrap hg hnow hu
    have hl : pre.length = p1.length + 1 + p2.length := by
      rw [h]
      simp
      omega
    have hTl : T.length = pre.length + 1 + r.length := by
      rw [hT]
      simp
      omega
    have e1 : rd_T98 T (p1.length : Int) = u := rdTask (b := p2 ++ t :: r) (by rw [hT, h]; simp)
    have e2 : rd_T61 l u.f0 = jobAt l u.f0 := rfl
    have e3 : wrap64 ((p1.length : Int) + 1) = ((p1 ++ [u]).length : Int) := wrap_mid p1 u (by omega)
    simp only [spec_l12Tasks.l1, if_pos (show (p1.length : Int) < (pre.length : Int) by omega), le_nat, if_true, if_pos (show (p1.length : Int) < (T.length : Int) by omega), e1, e2, e3, if_pos hu.j0, if_pos hu.j1, ew.1, L_ite, L_const]
    rw [ih (p1 ++ [u]) (by rw [h]; simp)]
    simp only [List.all_cons, clashB]
    by_cases c1 : u.f0 = t.f0
    · simp [c1]
    · by_cases c2 : u.f1 = t.f1
      · by_cases c3 : u.f2 + (jobAt l u.f0).f0 > t.f2
        · simp [c1, c2, c3]
        · simp [c1, c2, c3]
      · simp [c1, c2]
theorem l12Tasks_end (l : List S61) (m pk now : Int) (T pre r : List S98) (t : S98) (hT : T = pre ++ t :: r) (hb : T.length ≤ 10000000) :
    L (fun k => spec_l12Tasks.l1 k (pre.length : Int) (pre.length : Int) m pk now l T t.f0 t.f1 t.f2) = if lastB pre t = true then some false else L (fun k => spec_l12Tasks.l0 k ((pre ++ [t]).length : Int) m pk now l T) := by
  have hTl : T.length = pre.length + 1 + r.length := by
    rw [hT]
    simp
    omega
  have e3 : wrap64 ((pre.length : Int) + 1) = ((pre ++ [t]).length : Int) := wrap_mid pre t (by omega)
  rw [L_shift]
  rcases List.eq_nil_or_concat pre with h | ⟨q, p, h⟩
  · subst h
    simp only [spec_l12Tasks.l1, e3, lastB]
    simp
  · have hl : pre.length = q.length + 1 := by
      rw [h]
      simp
    have e4 : wrap64 ((pre.length : Int) - 1) = (q.length : Int) := by
      rw [wrap_id (by omega) (by omega)]
      omega
    have e1 : rd_T98 T (q.length : Int) = p := rdTask (b := t :: r) (by rw [hT, h]; simp)
    have e5 : lastB pre t = aheadB t p := by
      rw [h]
      simp [lastB]
    simp only [spec_l12Tasks.l1, if_neg (show ¬ (pre.length : Int) < (pre.length : Int) by omega), if_pos (show (pre.length : Int) > 0 by omega), e4, le_nat, if_true, if_pos (show (q.length : Int) < (T.length : Int) by omega), e1, e3, e5, aheadB, L_ite, L_const]
    by_cases c1 : p.f2 > t.f2
    · simp [c1]
    · by_cases c2 : p.f2 = t.f2
      · by_cases c3 : p.f1 ≥ t.f1
        · simp [c1, c2, c3]
        · simp [c1, c2, c3]
      · simp [c1, c2]
theorem l12Tasks_l (l : List S61) (m pk now : Int) (hg : Good l) (hm : 1 ≤ m ∧ m ≤ 4) (hnow : 0 ≤ now ∧ now ≤ 1000) (T : List S98) (hb : T.length ≤ 10000000) :
    ∀ (r pre : List S98), T = pre ++ r → (∀ u ∈ pre, TaskOk l m now u) → L (fun k => spec_l12Tasks.l0 k (pre.length : Int) m pk now l T) = some (tasksB l m now pre r) := by
  intro r
  induction r with
  | nil =>
    intro pre hT hok
    rw [List.append_nil] at hT
    subst hT
    rw [L_shift]
    simp only [spec_l12Tasks.l0, if_neg (show ¬ (T.length : Int) < (T.length : Int) by omega), L_const, tasksB]
  | cons t r ih =>
    intro pre hT hok
    have hTl : T.length = pre.length + 1 + r.length := by
      rw [hT]
      simp
      omega
    have e1 : rd_T98 T (pre.length : Int) = t := rdTask (b := r) hT
    have e2 : rd_T61 l t.f0 = jobAt l t.f0 := rfl
    have e6 : wrap64 (m - 1) = m - 1 := wrap_id (by omega) (by omega)
    have hj : ∀ b : Bool, L (fun k => spec_l12Tasks.j1 k (pre.length : Int) b m pk now l T t.f0 t.f1 t.f2) = if b = true then some false else L (fun k => spec_l12Tasks.l1 k (pre.length : Int) ((([] : List S98).length : Nat) : Int) m pk now l T t.f0 t.f1 t.f2) := by
      intro b
      rw [L_shift]
      simp only [spec_l12Tasks.j1, L_ite, L_const, List.length_nil]
      rfl
    have hin := l12Tasks_in l m pk now hg hnow.2 T pre r t hT hb hok pre [] rfl
    have hend := l12Tasks_end l m pk now T pre r t hT hb
    rw [L_shift]
    simp only [spec_l12Tasks.l0, if_pos (show (pre.length : Int) < (T.length : Int) by omega), le_nat, if_true, e1, e2, e6, l3Job_e l _ hg.1, l1In_e, Option.bind_some, L_ite, L_const, hj, hin, hend]
    rw [tasksB]
    by_cases c1 : inB t.f0 0 (l.length - 1) = true
    · have hi := inB_iff.1 c1
      by_cases c2 : inB t.f1 0 (m - 1) = true
      · by_cases c3 : t.f2 ≥ now
        · have : ¬ t.f2 ≤ now - 1 := by omega
          simp [taskB, c1, c2, c3, this]
        · have c3' : t.f2 ≤ now - 1 := by omega
          by_cases c4 : t.f2 < (jobAt l t.f0).f2
          · have : ¬ (jobAt l t.f0).f2 ≤ t.f2 := by omega
            simp [taskB, c1, c2, c3, c4, c3', this, hi.1, show t.f0 < (l.length : Int) by omega]
          · have c4' : (jobAt l t.f0).f2 ≤ t.f2 := by omega
            have ht : taskB l m now t = true := by simp [taskB, c1, c2, c3', c4']
            have hi2 := ih (pre ++ [t]) (by rw [hT]; simp) (fun u hu => by
              rcases List.mem_append.1 hu with h | h
              · exact hok u h
              · rw [List.mem_singleton.1 h]
                exact taskB_ok hg ht)
            rw [if_pos c1, if_pos c2, if_neg c3, if_pos hi.1, if_pos (by omega), decide_eq_false c4, if_neg (by simp), hi2, ht]
            cases pre.all (fun u => !clashB l t u) <;> cases lastB pre t <;> simp
      · simp [taskB, c1, c2]
    · simp [taskB, c1]
def dispB (m pk now : Int) (l : List S61) (T : List S98) : Bool := inB m 1 4 && (inB pk 1 4 && (inB now 0 1000 && (goodB l && tasksB l m now [] T)))
theorem l12Good_L (m pk now : Int) (l : List S61) (T : List S98) (hl : l.length ≤ 1048576) (hT : T.length ≤ 1048576) : L (fun k => spec_l12Good.f k m pk now l T) = some (dispB m pk now l T) := by
  simp only [spec_l12Good.f, l1In_e, Option.bind_some, L_bind, L_ite, L_const, l2Good_L l (by omega), bind_self, dispB]
  cases h1 : inB m 1 4 with
  | false => simp
  | true =>
    cases h2 : inB pk 1 4 with
    | false => simp
    | true =>
      cases h3 : inB now 0 1000 with
      | false => simp
      | true =>
        cases h4 : goodB l with
        | false => simp
        | true =>
          have := l12Tasks_l l m pk now (goodB_iff.1 h4) (inB_iff.1 h1) (inB_iff.1 h3) T (by omega) T [] rfl (fun u hu => by cases hu)
          simp only [spec_l12Tasks.f, if_true, Bool.true_and]
          exact this
theorem isNumber_w (x n : Int) (h0 : 0 ≤ n) (h1 : n ≤ 1000) : impl_isNumber.f x n = some (inB x 0 (n - 1)) := by
  have e : wrap64 (n - 1) = n - 1 := wrap_id (by omega) (by omega)
  simp only [impl_isNumber.f, within_e, Option.bind_some, e]
theorem IsDisp_in (l : List S61) (m pk now : Int) (hg : Good l) (hnow : now ≤ 1000) (T : List S98) (n x : Int) (pre : List S98) (t : S98) (hb : pre.length ≤ 10000000) (hok : ∀ u ∈ pre, TaskOk l m now u) :
    ∀ (p2 p1 : List S98), pre = p1 ++ p2 → L (fun k => impl_IsDispatcher.l1 k T n x pre (pre.length : Int) (p1.length : Int) m pk now l T t.f0 t.f1 t.f2) = if p2.all (fun u => !clashB l t u) = true then L (fun k => impl_IsDispatcher.l0 k T n (wrap64 (x + 1)) m pk now l T) else some false := by
  intro p2
  induction p2 with
  | nil =>
    intro p1 h
    rw [List.append_nil] at h
    subst h
    rw [L_shift]
    simp only [impl_IsDispatcher.l1, if_neg (show ¬ (pre.length : Int) < (pre.length : Int) by omega)]
    simp
  | cons u p2 ih =>
    intro p1 h
    rw [L_shift]
    have hu := hok u (by rw [h]; simp)
    have ew := end_wrap hg hnow hu
    have hl : pre.length = p1.length + 1 + p2.length := by
      rw [h]
      simp
      omega
    have e1 : rd_T98 pre (p1.length : Int) = u := rdTask (b := p2) h
    have e2 : rd_T61 l u.f0 = jobAt l u.f0 := rfl
    have e3 : wrap64 ((p1.length : Int) + 1) = ((p1 ++ [u]).length : Int) := wrap_mid p1 u (by omega)
    simp only [impl_IsDispatcher.l1, impl_Dispatcher_endOf.f, if_pos (show (p1.length : Int) < (pre.length : Int) by omega), le_nat, if_true, e1, e2, e3, if_pos hu.j0, if_pos hu.j1, ew.1, L_ite, L_const, Option.bind_some]
    rw [ih (p1 ++ [u]) (by rw [h]; simp)]
    simp only [List.all_cons, clashB]
    by_cases c1 : u.f0 = t.f0
    · simp [c1]
    · by_cases c2 : u.f1 = t.f1
      · by_cases c3 : u.f2 + (jobAt l u.f0).f0 > t.f2
        · simp [c1, c2, c3]
        · simp [c1, c2, c3]
      · simp [c1, c2]
theorem IsDisp_l (l : List S61) (m pk now : Int) (hg : Good l) (hm : 1 ≤ m ∧ m ≤ 4) (hnow : 0 ≤ now ∧ now ≤ 1000) (T : List S98) (hb : T.length ≤ 10000000) :
    ∀ (r pre : List S98), T = pre ++ r → (∀ u ∈ pre, TaskOk l m now u) → L (fun k => impl_IsDispatcher.l0 k T (T.length : Int) (pre.length : Int) m pk now l T) = some (tasksB l m now pre r) := by
  intro r
  induction r with
  | nil =>
    intro pre hT hok
    rw [List.append_nil] at hT
    subst hT
    rw [L_shift]
    simp only [impl_IsDispatcher.l0, if_neg (show ¬ (T.length : Int) < (T.length : Int) by omega), L_const, tasksB]
  | cons t r ih =>
    intro pre hT hok
    have hTl : T.length = pre.length + 1 + r.length := by
      rw [hT]
      simp
      omega
    have e1 : rd_T98 T (pre.length : Int) = t := rdTask (b := r) hT
    have e2 : rd_T61 l t.f0 = jobAt l t.f0 := rfl
    have e6 : wrap64 (now - 1) = now - 1 := wrap_id (by omega) (by omega)
    have e3 : wrap64 ((pre.length : Int) + 1) = ((pre ++ [t]).length : Int) := wrap_mid pre t (by omega)
    have et : T.take (pre.length : Int).toNat = pre := by
      rw [hT]
      simp
    have hin := IsDisp_in l m pk now hg hnow.2 T (T.length : Int) (pre.length : Int) pre t (by omega) hok pre [] rfl
    simp only [List.length_nil, Int.natCast_zero] at hin
    have h3 : ∀ b : Bool, L (fun k => impl_IsDispatcher.j3 k (pre.length : Int) T (T.length : Int) (pre.length : Int) b m pk now l T t.f0 t.f1 t.f2) = if b = true then some false else (if pre.all (fun u => !clashB l t u) = true then L (fun k => impl_IsDispatcher.l0 k T (T.length : Int) ((pre ++ [t]).length : Int) m pk now l T) else some false) := by
      intro b
      rw [L_shift]
      simp only [impl_IsDispatcher.j3, L_ite, L_const, le_nat, if_true, if_pos (show (pre.length : Int) ≤ (T.length : Int) by omega), Option.bind_some, et, hin, e3]
    have h2 : L (fun k => impl_IsDispatcher.j2 k (pre.length : Int) T (T.length : Int) (pre.length : Int) false m pk now l T t.f0 t.f1 t.f2) = if lastB pre t = true then some false else (if pre.all (fun u => !clashB l t u) = true then L (fun k => impl_IsDispatcher.l0 k T (T.length : Int) ((pre ++ [t]).length : Int) m pk now l T) else some false) := by
      rw [L_shift]
      rcases List.eq_nil_or_concat pre with h | ⟨q, p, h⟩
      · have h0 : pre.length = 0 := by
          rw [h]
          rfl
        have hlb : lastB pre t = false := by
          rw [h]
          rfl
        simp only [impl_IsDispatcher.j2, Bool.false_eq_true, if_false, if_neg (show ¬ (pre.length : Int) > 0 by omega), h3, hlb]
      · have hl : pre.length = q.length + 1 := by
          rw [h]
          simp
        have e4 : wrap64 ((pre.length : Int) - 1) = (q.length : Int) := by
          rw [wrap_id (by omega) (by omega)]
          omega
        have e5 : rd_T98 T (q.length : Int) = p := rdTask (b := t :: r) (by rw [hT, h]; simp)
        have e7 : lastB pre t = aheadB t p := by
          rw [h]
          simp [lastB]
        simp only [impl_IsDispatcher.j2, Bool.false_eq_true, if_false, if_pos (show (pre.length : Int) > 0 by omega), e4, le_nat, if_true, if_pos (show (q.length : Int) < (T.length : Int) by omega), e5, L_ite, h3, e7, aheadB]
        by_cases c1 : p.f2 > t.f2
        · simp [c1]
        · by_cases c2 : p.f2 = t.f2
          · by_cases c3 : p.f1 ≥ t.f1
            · simp [c1, c2, c3]
            · simp [c1, c2, c3]
          · simp [c1, c2]
    have h2t : L (fun k => impl_IsDispatcher.j2 k (pre.length : Int) T (T.length : Int) (pre.length : Int) true m pk now l T t.f0 t.f1 t.f2) = some false := by
      rw [L_shift]
      simp only [impl_IsDispatcher.j2, if_true, L_const]
    rw [L_shift]
    have h8 := hg.1
    simp only [impl_IsDispatcher.l0, if_pos (show (pre.length : Int) < (T.length : Int) by omega), le_nat, if_true, e1, e2, e6, isNumber_w _ _ (show (0 : Int) ≤ (l.length : Int) by omega) (by omega), isNumber_w _ m (by omega) (by omega), within_e, Option.bind_some, L_ite, h2t]
    rw [tasksB]
    by_cases c1 : inB t.f0 0 (l.length - 1) = true
    · have hi := inB_iff.1 c1
      by_cases c2 : inB t.f1 0 (m - 1) = true
      · rw [if_pos c1, if_pos c2, if_pos hi.1, if_pos (by omega)]
        have hwi : inB t.f2 (jobAt l t.f0).f2 (now - 1) = (decide ((jobAt l t.f0).f2 ≤ t.f2) && decide (t.f2 ≤ now - 1)) := rfl
        cases c3 : inB t.f2 (jobAt l t.f0).f2 (now - 1) with
        | false =>
          rw [c3] at hwi
          simp only [Bool.not_false, h2t, taskB, c1, c2, ← hwi]
          simp
        | true =>
          rw [c3] at hwi
          have ht : taskB l m now t = true := by
            simp only [taskB, c1, c2, ← hwi]
            rfl
          have hi2 := ih (pre ++ [t]) (by rw [hT]; simp) (fun u hu => by
            rcases List.mem_append.1 hu with h | h
            · exact hok u h
            · rw [List.mem_singleton.1 h]
              exact taskB_ok hg ht)
          simp only [Bool.not_true, h2, hi2, ht]
          cases pre.all (fun u => !clashB l t u) <;> cases lastB pre t <;> simp
      · simp [taskB, c1, c2]
    · simp [taskB, c1]
theorem IsDispatcher_L (m pk now : Int) (l : List S61) (T : List S98) (hl : l.length ≤ 1048576) (hT : T.length ≤ 1048576) : L (fun k => impl_IsDispatcher.f k m pk now l T) = some (dispB m pk now l T) := by
  have hj : ∀ b : Bool, L (fun k => impl_IsDispatcher.j0 k b m pk now l T) = if b = true then some false else L (fun k => impl_IsDispatcher.l0 k T (T.length : Int) 0 m pk now l T) := by
    intro b
    rw [L_shift]
    simp only [impl_IsDispatcher.j0, L_ite, L_const]
  simp only [impl_IsDispatcher.f, within_e, Option.bind_some, L_bind, L_ite, IsJobs_L l (by omega), hj, dispB]
  cases h1 : inB m 1 4 with
  | false => simp
  | true =>
    cases h2 : inB pk 1 4 with
    | false => simp
    | true =>
      cases h3 : inB now 0 1000 with
      | false => simp
      | true =>
        cases h4 : goodB l with
        | false => simp
        | true =>
          have := IsDisp_l l m pk now (goodB_iff.1 h4) (inB_iff.1 h1) (inB_iff.1 h3) T (by omega) T [] rfl (fun u hu => by cases hu)
          simp only [if_true, Bool.true_and, Bool.not_true, Bool.false_eq_true, if_false]
          exact this
theorem dispB_iff {m pk now : Int} {l : List S61} {T : List S98} (h : dispB m pk now l T = true) : (1 ≤ m ∧ m ≤ 4) ∧ (0 ≤ now ∧ now ≤ 1000) ∧ Good l ∧ tasksB l m now [] T = true := by
  simp only [dispB, Bool.and_eq_true, inB_iff, goodB_iff] at h
  exact ⟨h.1, h.2.2.1, h.2.2.2.1, h.2.2.2.2⟩
theorem tasksB_all {l : List S61} {m now : Int} (hg : Good l) : ∀ (r pre : List S98), tasksB l m now pre r = true → ∀ t ∈ r, TaskOk l m now t
  | [], _, _, t, ht => by cases ht
  | x :: r, pre, h, t, ht => by
    rw [tasksB] at h
    simp only [Bool.and_eq_true] at h
    rcases List.mem_cons.1 ht with e | e
    · rw [e]
      exact taskB_ok hg h.1
    · exact tasksB_all hg r _ h.2.2.2 t e
def toTaskP (x : S100) : S98 := ⟨x.f0, x.f1, x.f2⟩
theorem toTaskS_l (r : List S100) : ∀ pre : List S100, (pre ++ r).length < 4611686018427387904 → L (fun k => laws_toTaskS.l0 k (pre ++ r) (pre.map toTaskP ++ List.replicate r.length z98) (pre.length : Int)) = some ((pre ++ r).map toTaskP) := by
  induction r with
  | nil =>
    intro pre hb
    rw [L_shift]
    simp only [laws_toTaskS.l0, not_lt_end, if_false, L_const, List.length_nil, List.replicate_zero]
    simp
  | cons x r ih =>
    intro pre hb
    rw [L_shift]
    have hl : pre.length < 4611686018427387904 := by simp at hb; omega
    have e : rd_T100 (pre ++ x :: r) (pre.length : Int) = x := getD_mid pre x r _
    have e2 : ((pre.length : Int) < ((pre.map toTaskP ++ z98 :: List.replicate r.length z98).length : Int)) = True := by
      simp only [List.length_append, List.length_cons, List.length_map]
      exact eq_true (by omega)
    simp only [laws_toTaskS.l0, laws_toTask.f, lt_mid, le_nat, if_true, rep_succ, e, e2, wrap_mid pre x hl, Option.bind_some, set_mid (pre.map toTaskP) _ _ _ pre (by simp)]
    have := ih (pre ++ [x]) (by simpa using hb)
    simpa [toTaskP] using this
theorem toTaskS_L (l : List S100) (h : l.length ≤ 1048576) : L (fun k => laws_toTaskS.f k l) = some (l.map toTaskP) := by
  simp only [laws_toTaskS.f, le_nat, if_true, Int.toNat_natCast, if_pos (show l.length ≤ 11728124029610 by omega)]
  exact toTaskS_l l [] (by simp; omega)
theorem eqTaskS_l (r : List S98) : ∀ pre : List S98, (pre ++ r).length < 4611686018427387904 → L (fun k => laws_eqTaskS.l0 k (pre ++ r) (pre ++ r) (pre.length : Int)) = some true := by
  induction r with
  | nil =>
    intro pre hb
    rw [L_shift]
    simp only [laws_eqTaskS.l0, not_lt_end, if_false, L_const]
  | cons x r ih =>
    intro pre hb
    rw [L_shift]
    have hl : pre.length < 4611686018427387904 := by simp at hb; omega
    simp only [laws_eqTaskS.l0, laws_eqTask.f, lt_mid, le_nat, if_true, wrap_mid pre x hl, Option.bind_some]
    rw [app_cons pre x r]
    exact ih (pre ++ [x]) (by simpa using hb)
theorem eqTaskS_L (l : List S98) (h : l.length ≤ 1048576) : L (fun k => laws_eqTaskS.f k l l) = some true := by
  simp only [laws_eqTaskS.f, if_true]
  exact eqTaskS_l l [] (by simp; omega)
theorem eqDispatcher_L (a b c : Int) (l : List S61) (T : List S98) (hl : l.length ≤ 1048576) (hT : T.length ≤ 1048576) : L (fun k => laws_eqDispatcher.f k a b c l T a b c l T) = some true := by
  simp only [laws_eqDispatcher.f, if_true, L_bind, eqJobS_L l hl, eqTaskS_L T hT, bindS, L_const]
theorem szDispatcher_e (a b c : Int) (l : List S63) (T : List S100) (hl : l.length ≤ 9223372036854775807) (hT : T.length ≤ 9223372036854775807) :
    laws_szDispatcher.f a b c l T 1048576 = if l.length + T.length ≤ 1048576 then some (1048576 - (l.length : Int) - (T.length : Int)) else some (-1) := by
  simp only [laws_szDispatcher.f, szJobS_e l hl]
  by_cases h1 : l.length ≤ 1048576
  · rw [if_pos h1, bindS, if_neg (by omega)]
    have e : wrap64 (1048576 - (l.length : Int) - (T.length : Int)) = 1048576 - (l.length : Int) - (T.length : Int) := wrap_id (by omega) (by omega)
    simp only [laws_szTaskS.f, e]
    by_cases h2 : l.length + T.length ≤ 1048576
    · rw [if_neg (by omega), bindS, if_neg (by omega), if_pos h2]
    · rw [if_pos (by omega), bindS, if_pos (by omega), if_neg h2]
  · rw [if_neg h1, bindS, if_pos (by omega), if_neg (by omega)]
theorem toDispatcher_L (a b c : Int) (l : List S63) (T : List S100) (hl : l.length ≤ 1048576) (hT : T.length ≤ 1048576) : L (fun k => laws_toDispatcher.f k a b c l T) = some (a, b, c, l.map toJobP, T.map toTaskP) := by
  simp only [laws_toDispatcher.f, L_bind, toJobS_L l hl, toTaskS_L T hT, bindS, L_const]
/-- The ends of all jobs with a task. -/
def endsD (l : List S61) : List S98 → List Int → List Int
  | [], E => E
  | t :: r, E => endsD l r (E.set t.f0.toNat (t.f2 + (jobAt l t.f0).f0))
theorem endsD_length (l : List S61) : ∀ (T : List S98) (E : List Int), (endsD l T E).length = E.length
  | [], E => rfl
  | t :: r, E => by rw [endsD, endsD_length l r, List.length_set]
theorem rep_snoc (n : Nat) (v : Int) : List.replicate n v ++ [v] = List.replicate (n + 1) v := by
  rw [← List.replicate_succ']
theorem specEnds_1 (l : List S61) (m pk now : Int) (hg : Good l) (hnow : now ≤ 1000) (T : List S98) (hb : T.length ≤ 10000000) :
    ∀ (r pre : List S98) (E : List Int), T = pre ++ r → (∀ u ∈ r, TaskOk l m now u) → E.length = l.length → L (fun k => spec_l12Ends.l1 k E (pre.length : Int) m pk now l T) = some (endsD l r E) := by
  intro r
  induction r with
  | nil =>
    intro pre E hT hok hE
    rw [List.append_nil] at hT
    subst hT
    rw [L_shift]
    simp only [spec_l12Ends.l1, if_neg (show ¬ (T.length : Int) < (T.length : Int) by omega), L_const, endsD]
  | cons t r ih =>
    intro pre E hT hok hE
    have hTl : T.length = pre.length + 1 + r.length := by
      rw [hT]
      simp
      omega
    have e1 : rd_T98 T (pre.length : Int) = t := rdTask (b := r) hT
    have e2 : rd_T61 l t.f0 = jobAt l t.f0 := rfl
    have e3 : wrap64 ((pre.length : Int) + 1) = ((pre ++ [t]).length : Int) := wrap_mid pre t (by omega)
    have ht := hok t List.mem_cons_self
    have ew := end_wrap hg hnow ht
    rw [L_shift]
    simp only [spec_l12Ends.l1, if_pos (show (pre.length : Int) < (T.length : Int) by omega), le_nat, if_true, e1, e2, e3, if_pos ht.j0, if_pos ht.j1, ew.1, if_pos (show t.f0 < (E.length : Int) by have := ht.j1; omega), endsD]
    exact ih (pre ++ [t]) _ (by rw [hT]; simp) (fun u hu => hok u (List.mem_cons_of_mem _ hu)) (by rw [List.length_set, hE])
theorem specEnds_0 (l : List S61) (m pk now : Int) (T : List S98) (h8 : l.length ≤ 8) : ∀ (d i : Nat), i + d = l.length → L (fun k => spec_l12Ends.l0 k (List.replicate i (-1)) (i : Int) m pk now l T) = L (fun k => spec_l12Ends.l1 k (List.replicate l.length (-1)) 0 m pk now l T) := by
  intro d
  induction d with
  | zero =>
    intro i hi
    obtain rfl : i = l.length := by omega
    rw [L_shift]
    simp only [spec_l12Ends.l0, if_neg (show ¬ (l.length : Int) < (l.length : Int) by omega)]
  | succ d ih =>
    intro i hi
    rw [L_shift]
    have e3 : wrap64 ((i : Int) + 1) = ((i + 1 : Nat) : Int) := by
      rw [wrap_id (by omega) (by omega)]
      omega
    simp only [spec_l12Ends.l0, if_pos (show (i : Int) < (l.length : Int) by omega), List.length_replicate, if_pos (show i < 17592186044416 by omega), rep_snoc, e3]
    exact ih (i + 1) (by omega)
theorem l12Ends_L (l : List S61) (m pk now : Int) (hg : Good l) (hnow : now ≤ 1000) (T : List S98) (hb : T.length ≤ 10000000) (hok : ∀ u ∈ T, TaskOk l m now u) : L (fun k => spec_l12Ends.f k m pk now l T) = some (endsD l T (List.replicate l.length (-1))) := by
  have h0 := specEnds_0 l m pk now T hg.1 l.length 0 (by omega)
  have h1 := specEnds_1 l m pk now hg hnow T hb T [] (List.replicate l.length (-1)) rfl hok (by simp)
  simp only [spec_l12Ends.f]
  exact h0.trans h1
theorem implEnds_1 (l : List S61) (m pk now : Int) (hg : Good l) (hnow : now ≤ 1000) (T : List S98) (hb : T.length ≤ 10000000) :
    ∀ (r pre : List S98) (E : List Int), T = pre ++ r → (∀ u ∈ r, TaskOk l m now u) → E.length = l.length → L (fun k => impl_Dispatcher_ends.l1 k E T (T.length : Int) (pre.length : Int) m pk now l T) = some (endsD l r E) := by
  intro r
  induction r with
  | nil =>
    intro pre E hT hok hE
    rw [List.append_nil] at hT
    subst hT
    rw [L_shift]
    simp only [impl_Dispatcher_ends.l1, if_neg (show ¬ (T.length : Int) < (T.length : Int) by omega), L_const, endsD]
  | cons t r ih =>
    intro pre E hT hok hE
    have hTl : T.length = pre.length + 1 + r.length := by
      rw [hT]
      simp
      omega
    have e1 : rd_T98 T (pre.length : Int) = t := rdTask (b := r) hT
    have e2 : rd_T61 l t.f0 = jobAt l t.f0 := rfl
    have e3 : wrap64 ((pre.length : Int) + 1) = ((pre ++ [t]).length : Int) := wrap_mid pre t (by omega)
    have ht := hok t List.mem_cons_self
    have ew := end_wrap hg hnow ht
    rw [L_shift]
    simp only [impl_Dispatcher_ends.l1, impl_Dispatcher_endOf.f, if_pos (show (pre.length : Int) < (T.length : Int) by omega), le_nat, if_true, e1, e2, e3, if_pos ht.j0, if_pos ht.j1, ew.1, bindS, if_pos (show t.f0 < (E.length : Int) by have := ht.j1; omega), endsD]
    exact ih (pre ++ [t]) _ (by rw [hT]; simp) (fun u hu => hok u (List.mem_cons_of_mem _ hu)) (by rw [List.length_set, hE])
theorem implEnds_0 (l : List S61) (m pk now : Int) (T : List S98) (h8 : l.length ≤ 8) : ∀ (d i : Nat), i + d = l.length → L (fun k => impl_Dispatcher_ends.l0 k (List.replicate i (-1)) (l.length : Int) (i : Int) m pk now l T) = L (fun k => impl_Dispatcher_ends.l1 k (List.replicate l.length (-1)) T (T.length : Int) 0 m pk now l T) := by
  intro d
  induction d with
  | zero =>
    intro i hi
    obtain rfl : i = l.length := by omega
    rw [L_shift]
    simp only [impl_Dispatcher_ends.l0, if_neg (show ¬ (l.length : Int) < (l.length : Int) by omega)]
  | succ d ih =>
    intro i hi
    rw [L_shift]
    have e3 : wrap64 ((i : Int) + 1) = ((i + 1 : Nat) : Int) := by
      rw [wrap_id (by omega) (by omega)]
      omega
    simp only [impl_Dispatcher_ends.l0, if_pos (show (i : Int) < (l.length : Int) by omega), List.length_replicate, if_pos (show i < 17592186044416 by omega), rep_snoc, e3]
    exact ih (i + 1) (by omega)
theorem ends_L (l : List S61) (m pk now : Int) (hg : Good l) (hnow : now ≤ 1000) (T : List S98) (hb : T.length ≤ 10000000) (hok : ∀ u ∈ T, TaskOk l m now u) : L (fun k => impl_Dispatcher_ends.f k m pk now l T) = some (endsD l T (List.replicate l.length (-1))) := by
  have h0 := implEnds_0 l m pk now T hg.1 l.length 0 (by omega)
  have h1 := implEnds_1 l m pk now hg hnow T hb T [] (List.replicate l.length (-1)) rfl hok (by simp)
  simp only [impl_Dispatcher_ends.f]
  exact h0.trans h1
theorem endsD_bd {l : List S61} {m now : Int} (hg : Good l) (hnow : now ≤ 1000) : ∀ (T : List S98) (E : List Int), (∀ u ∈ T, TaskOk l m now u) → E.length = l.length → ∀ j : Nat, j < l.length → ((j : Int) ∈ T.map (·.f0) ∨ (0 ≤ E.getD j 0 ∧ E.getD j 0 ≤ 2000)) → 0 ≤ (endsD l T E).getD j 0 ∧ (endsD l T E).getD j 0 ≤ 2000
  | [], E, _, _, j, _, h => by
    rcases h with h | h
    · simp at h
    · exact h
  | t :: r, E, hok, hE, j, hj, h => by
    rw [endsD]
    have ht := hok t List.mem_cons_self
    have ew := end_wrap hg hnow ht
    refine endsD_bd hg hnow r _ (fun u hu => hok u (List.mem_cons_of_mem _ hu)) (by rw [List.length_set, hE]) j hj ?_
    by_cases hr : (j : Int) ∈ r.map (·.f0)
    · exact .inl hr
    · right
      rw [getD_set, hE]
      by_cases e : t.f0.toNat = j
      · rw [if_pos ⟨e, hj⟩]
        have := ht.s0
        have := ht.s1
        omega
      · rw [if_neg (fun h => e h.1)]
        rcases h with h | h
        · rw [List.map_cons, List.mem_cons] at h
          rcases h with h | h
          · exact absurd (by omega) e
          · exact absurd h hr
        · exact h
theorem tasks_nodup {l : List S61} {m now : Int} : ∀ (r pre : List S98), tasksB l m now pre r = true → (r.map (·.f0)).Nodup ∧ ∀ t ∈ r, ∀ u ∈ pre, u.f0 ≠ t.f0
  | [], pre, _ => by simp
  | x :: r, pre, h => by
    rw [tasksB] at h
    simp only [Bool.and_eq_true] at h
    obtain ⟨h1, h2⟩ := tasks_nodup r (pre ++ [x]) h.2.2.2
    have h3 : ∀ u ∈ pre, u.f0 ≠ x.f0 := fun u hu => by
      have := List.all_eq_true.1 h.2.2.1 u hu
      intro e
      simp [clashB, e] at this
    refine ⟨?_, ?_⟩
    · rw [List.map_cons, List.nodup_cons]
      refine ⟨fun hx => ?_, h1⟩
      obtain ⟨t, ht, e⟩ := List.mem_map.1 hx
      exact h2 t ht x (by simp) e.symm
    · intro t ht u hu
      rcases List.mem_cons.1 ht with e | e
      · rw [e]
        exact h3 u hu
      · exact h2 t e u (by simp [hu])
theorem endsD_all {l : List S61} {m now : Int} (hg : Good l) (hnow : now ≤ 1000) (T : List S98) (ht : tasksB l m now [] T = true) (hlen : l.length ≤ T.length) : ∀ e ∈ endsD l T (List.replicate l.length (-1)), 0 ≤ e ∧ e ≤ 2000 := by
  have hok := tasksB_all hg T [] ht
  have hn := (tasks_nodup T [] ht).1
  have hp := perm_of (T.map (·.f0)) (numsTo l.length) hn (fun x hx => by
    obtain ⟨t, h1, rfl⟩ := List.mem_map.1 hx
    have := hok t h1
    exact mem_numsTo.2 ⟨this.j0, this.j1⟩) (by rw [numsTo_length, List.length_map]; exact hlen)
  intro e he
  obtain ⟨j, hj, rfl⟩ := List.mem_iff_getElem.1 he
  rw [endsD_length, List.length_replicate] at hj
  have := endsD_bd hg hnow T (List.replicate l.length (-1)) hok (by simp) j hj (.inl (hp.mem_iff.2 (mem_numsTo.2 ⟨by omega, by omega⟩)))
  rwa [List.getD_eq_getElem?_getD, List.getElem?_eq_getElem (by rw [endsD_length, List.length_replicate]; exact hj)] at this
/-- Sooner: by date, then by number. -/
def dueQ (l : List S61) (a b : Int) : Bool := decide ((jobAt l a).f3 < (jobAt l b).f3) || (decide ((jobAt l a).f3 = (jobAt l b).f3) && decide (a < b))
theorem numsTo_asc (n : Nat) : (numsTo n).Pairwise (· < ·) := by
  rw [numsTo, List.pairwise_map]
  exact List.pairwise_lt_range.imp (fun h => by omega)
theorem ruled_l (n : Nat) (hn : n ≤ 1000) : ∀ (d : Nat) (i : Nat), i + d = n → L (fun k => impl_numbersTo.l0 k (n : Int) (numsTo i) (i : Int)) = some (numsTo n)
  | 0, i, hd => by
    rw [L_shift]
    have : i = n := by omega
    subst this
    simp only [impl_numbersTo.l0, Int.lt_irrefl, if_false, L_const]
  | d + 1, i, hd => by
    rw [L_shift]
    have ih := ruled_l n hn d (i + 1) (by omega)
    rw [numsTo_succ] at ih
    simp only [impl_numbersTo.l0, if_pos (show (i : Int) < (n : Int) by omega), if_pos (show (numsTo i).length < 17592186044416 by rw [numsTo_length]; omega), wrap_id (show -9223372036854775808 ≤ (i : Int) + 1 by omega) (show (i : Int) + 1 ≤ 9223372036854775807 by omega)]
    exact ih
/-- All orders of a list: by the first, in the list's order. -/
def permsN : Nat → List Int → List (List Int)
  | 0, _ => [[]]
  | n + 1, s => s.flatMap (fun y => (permsN n (s.filter (· ≠ y))).map (y :: ·))
/-- Each of a list's orders leads to the next one. -/
def RunL (N : List Int → List Int → Prop) : List (List Int) → Prop
  | [] => True
  | [_] => True
  | a :: b :: r => N a b ∧ RunL N (b :: r)
theorem RunL_app {N : List Int → List Int → Prop} {a b : List Int} : ∀ {p : List (List Int)} {q : List (List Int)}, RunL N (p ++ [a]) → RunL N (b :: q) → N a b → RunL N (p ++ a :: b :: q)
  | [], q, _, h2, h3 => ⟨h3, h2⟩
  | [x], q, h1, h2, h3 => ⟨h1.1, h3, h2⟩
  | x :: y :: p, q, h1, h2, h3 => ⟨h1.1, RunL_app (p := y :: p) h1.2 h2 h3⟩
/-- A run from one order to another one. -/
def RunFT (N : List Int → List Int → Prop) (os : List (List Int)) (a b : List Int) : Prop := RunL N os ∧ (∃ r, os = a :: r) ∧ (∃ p, os = p ++ [b])
theorem RunFT_app {N : List Int → List Int → Prop} {p q : List (List Int)} {a b c d : List Int} (h1 : RunFT N p a b) (h2 : RunFT N q c d) (h : N b c) : RunFT N (p ++ q) a d := by
  obtain ⟨r1, ⟨p1, e1⟩, ⟨p2, e2⟩⟩ := h1
  obtain ⟨r2, ⟨q1, f1⟩, ⟨q2, f2⟩⟩ := h2
  refine ⟨?_, ⟨p1 ++ q, by rw [e1]; rfl⟩, ⟨p ++ q2, by rw [f2, List.append_assoc]⟩⟩
  rw [e2, f1, List.append_assoc]
  rw [e2] at r1
  rw [f1] at r2
  exact RunL_app r1 r2 h
theorem filter_ne_mid {P Q : List Int} {y : Int} (h : (P ++ y :: Q).Pairwise (· < ·)) : (P ++ y :: Q).filter (· ≠ y) = P ++ Q := by
  rw [List.pairwise_append] at h
  obtain ⟨_, h2, h3⟩ := h
  rw [List.pairwise_cons] at h2
  rw [List.filter_append, List.filter_cons_of_neg (by simp), List.filter_eq_self.2, List.filter_eq_self.2]
  · intro a ha
    have := h2.1 a ha
    simp; omega
  · intro a ha
    have := h3 a ha y (by simp)
    simp; omega
theorem pairwise_mid {P Q : List Int} {y : Int} (h : (P ++ y :: Q).Pairwise (· < ·)) : (P ++ Q).Pairwise (· < ·) :=
  h.sublist (List.Sublist.append_left (List.sublist_cons_self y Q) P)
theorem perms_run {N : List Int → List Int → Prop} (hN : ∀ (A P Q : List Int) (y z : Int), (P ++ y :: z :: Q).Pairwise (· < ·) → N (A ++ y :: (Q.reverse ++ z :: P.reverse)) (A ++ z :: (P ++ y :: Q))) :
    ∀ (n : Nat) (A s : List Int), s.length = n → s.Pairwise (· < ·) → RunFT N ((permsN n s).map (A ++ ·)) (A ++ s) (A ++ s.reverse)
  | 0, A, s, hl, _ => by
    cases List.eq_nil_of_length_eq_zero hl
    exact ⟨trivial, ⟨[], by simp [permsN]⟩, ⟨[], by simp [permsN]⟩⟩
  | n + 1, A, s, hl, hs => by
    have key : ∀ (Q P : List Int) (y : Int), s = P ++ y :: Q → RunFT N (((y :: Q).flatMap (fun y => (permsN n (s.filter (· ≠ y))).map (y :: ·))).map (A ++ ·)) (A ++ y :: (P ++ Q)) (A ++ s.reverse) := by
      intro Q
      induction Q with
      | nil =>
        intro P y e
        subst e
        have h1 := perms_run hN n (A ++ [y]) (P ++ []) (by simp at hl ⊢; omega) (pairwise_mid hs)
        rw [List.flatMap_cons, List.flatMap_nil, List.append_nil, filter_ne_mid hs, List.map_map]
        have e2 : ((fun x => A ++ x) ∘ fun x => y :: x) = fun x => A ++ [y] ++ x := by
          funext x
          simp
        rw [e2]
        simpa using h1
      | cons z Q ih =>
        intro P y e
        have h2 := ih (P ++ [y]) z (by rw [e]; simp)
        have hs2 := hs
        rw [e] at hs2
        have h1 := perms_run hN n (A ++ [y]) (P ++ z :: Q) (by rw [e] at hl; simp at hl ⊢; omega) (pairwise_mid hs2)
        have e2 : ((fun x => A ++ x) ∘ fun x => y :: x) = fun x => A ++ [y] ++ x := by
          funext x
          simp
        have e3 : s.filter (· ≠ y) = P ++ z :: Q := by rw [e]; exact filter_ne_mid hs2
        rw [List.flatMap_cons, List.map_append, List.map_map, e2, e3]
        refine RunFT_app (b := A ++ y :: (Q.reverse ++ z :: P.reverse)) (c := A ++ z :: (P ++ y :: Q)) ?_ ?_ (hN A P Q y z hs2)
        · simpa using h1
        · simpa using h2
    cases s with
    | nil => simp at hl
    | cons y Q => exact key Q [] y rfl
theorem rd_far (pre : List Int) (x : Int) (mid : List Int) (y : Int) (post : List Int) (n : Int) (h : n = pre.length + 1 + mid.length) : rd (pre ++ x :: (mid ++ y :: post)) n = y := by
  have e1 : pre ++ x :: (mid ++ y :: post) = (pre ++ x :: mid) ++ y :: post := by simp
  have e2 : n = ((pre ++ x :: mid).length : Int) := by rw [h]; simp; omega
  rw [e1, e2]
  exact rd_mid _ _ _
theorem set_far (pre : List Int) (x : Int) (mid : List Int) (y : Int) (post : List Int) (n : Int) (h : n = pre.length + 1 + mid.length) : ((pre ++ x :: (mid ++ y :: post)).set (pre.length : Int).toNat y).set n.toNat x = pre ++ y :: (mid ++ x :: post) := by
  rw [set_mid pre x y _ pre rfl]
  have e1 : pre ++ y :: (mid ++ y :: post) = (pre ++ y :: mid) ++ y :: post := by simp
  have e2 : n = ((pre ++ y :: mid).length : Int) := by rw [h]; simp; omega
  rw [e1, e2, set_mid (pre ++ y :: mid) y x post (pre ++ y :: mid) rfl]
  simp
theorem rd_app (A D : List Int) (j : Nat) (h1 : A.length ≤ j) (h2 : j < (A ++ D).length) : ∃ h : j - A.length < D.length, rd (A ++ D) (j : Int) = D[j - A.length] := by
  rw [List.length_append] at h2
  refine ⟨by omega, ?_⟩
  show (A ++ D).getD (j : Int).toNat 0 = _
  rw [Int.toNat_natCast, List.getD_eq_getElem?_getD, List.getElem?_append_right h1, List.getElem?_eq_getElem (by omega)]
  rfl
theorem rd_desc (A D : List Int) (hD : D.Pairwise (· > ·)) (j : Nat) (h1 : A.length ≤ j) (h2 : j + 1 < (A ++ D).length) : rd (A ++ D) (j : Int) > rd (A ++ D) ((j : Int) + 1) := by
  obtain ⟨a1, e1⟩ := rd_app A D j h1 (by omega)
  obtain ⟨a2, e2⟩ := rd_app A D (j + 1) (by omega) h2
  have e3 : ((j + 1 : Nat) : Int) = (j : Int) + 1 := by omega
  rw [e3] at e2
  rw [e1, e2]
  exact (List.pairwise_iff_getElem.1 hD) _ _ a1 a2 (by omega)
theorem next_scan (o : List Int) (hl : o.length ≤ 1048576) (i : Nat) : ∀ d : Nat, i + d < o.length → (∀ j : Nat, i ≤ j → j < i + d → rd o (j : Int) > rd o ((j : Int) + 1)) → L (fun k => impl_nextOrder.l0 k o (((i + d : Nat) : Int) - 1)) = L (fun k => impl_nextOrder.l0 k o ((i : Int) - 1))
  | 0, _, _ => rfl
  | d + 1, h, hj => by
    have e0 : (((i + (d + 1) : Nat) : Int) - 1) = ((i + d : Nat) : Int) := by omega
    have h1 := hj (i + d) (by omega) (by omega)
    rw [e0, L_shift]
    simp only [impl_nextOrder.l0, wrap_id (show -9223372036854775808 ≤ ((i + d : Nat) : Int) + 1 by omega) (show ((i + d : Nat) : Int) + 1 ≤ 9223372036854775807 by omega), wrap_id (show -9223372036854775808 ≤ ((i + d : Nat) : Int) - 1 by omega) (show ((i + d : Nat) : Int) - 1 ≤ 9223372036854775807 by omega)]
    simp only [if_pos (show ((i + d : Nat) : Int) ≥ 0 by omega), if_pos (show (0 : Int) ≤ ((i + d : Nat) : Int) by omega), if_pos (show ((i + d : Nat) : Int) < (o.length : Int) by omega), if_pos (show (0 : Int) ≤ ((i + d : Nat) : Int) + 1 by omega), if_pos (show ((i + d : Nat) : Int) + 1 < (o.length : Int) by omega), if_pos h1]
    exact next_scan o hl i d (by omega) (fun j a b => hj j a (by omega))
theorem next_scan1 (o : List Int) (hl : o.length ≤ 1048576) (p : Nat) (hp : p < o.length) (i : Nat) : ∀ d : Nat, i + d ≤ o.length → (∀ j : Nat, i ≤ j → j < i + d → rd o (j : Int) < rd o (p : Int)) → L (fun k => impl_nextOrder.l1 k o (p : Int) (((i + d : Nat) : Int) - 1)) = L (fun k => impl_nextOrder.l1 k o (p : Int) ((i : Int) - 1))
  | 0, _, _ => rfl
  | d + 1, h, hj => by
    have e0 : (((i + (d + 1) : Nat) : Int) - 1) = ((i + d : Nat) : Int) := by omega
    have h1 := hj (i + d) (by omega) (by omega)
    rw [e0, L_shift]
    simp only [impl_nextOrder.l1, wrap_id (show -9223372036854775808 ≤ ((i + d : Nat) : Int) - 1 by omega) (show ((i + d : Nat) : Int) - 1 ≤ 9223372036854775807 by omega)]
    simp only [if_pos (show (0 : Int) ≤ ((i + d : Nat) : Int) by omega), if_pos (show ((i + d : Nat) : Int) < (o.length : Int) by omega), if_pos (show (0 : Int) ≤ (p : Int) by omega), if_pos (show (p : Int) < (o.length : Int) by omega), if_pos h1]
    exact next_scan1 o hl p hp i d (by omega) (fun j a b => hj j a (by omega))
theorem next_rev : ∀ (n : Nat) (A M B : List Int), M.length ≤ n → (A ++ (M ++ B)).length ≤ 1048576 → L (fun k => impl_nextOrder.l2 k (A ++ (M ++ B)) (A.length : Int) ((A.length : Int) + M.length - 1)) = some (true, A ++ (M.reverse ++ B))
  | n, A, [], B, h, hl => by
    rw [L_shift]
    simp only [impl_nextOrder.l2, List.length_nil, if_neg (show ¬ ((A.length : Int) < (A.length : Int) + ((0 : Nat) : Int) - 1) by omega), L_const, List.reverse_nil]
  | 0, A, x :: M, B, h, hl => by simp at h
  | n + 1, A, x :: M, B, h, hl => by
    rcases List.eq_nil_or_concat M with rfl | ⟨M, y, rfl⟩
    · rw [L_shift]
      have e : ¬ ((A.length : Int) < (A.length : Int) + (([x] : List Int).length : Int) - 1) := by simp
      simp only [impl_nextOrder.l2, if_neg e, L_const, List.reverse_singleton]
    · have hlen : (A ++ (x :: (M.concat y) ++ B)).length = A.length + 1 + M.length + 1 + B.length := by simp; omega
      have e0 : A ++ (x :: (M.concat y) ++ B) = A ++ x :: (M ++ y :: B) := by simp
      have e1 : (A.length : Int) + ((x :: M.concat y).length : Int) - 1 = (A.length : Int) + 1 + M.length := by simp; omega
      have hlen2 : (A ++ x :: (M ++ y :: B)).length = A.length + 1 + M.length + 1 + B.length := by rw [← e0]; exact hlen
      have ih := next_rev n (A ++ [y]) M (x :: B) (by simp at h; omega) (by simp at hlen2 hl ⊢; omega)
      have e2 : ((A ++ [y]).length : Int) = (A.length : Int) + 1 := by simp
      rw [e2] at ih
      have e3 : (A ++ [y]) ++ (M ++ x :: B) = A ++ y :: (M ++ x :: B) := by simp
      rw [e3] at ih
      rw [e0, e1, L_shift]
      rw [hlen] at hl
      simp only [impl_nextOrder.l2, rd_far A x M y B _ rfl, rd_mid, set_far A x M y B _ rfl, wrap_id (show -9223372036854775808 ≤ (A.length : Int) + 1 + M.length - 1 by omega) (show (A.length : Int) + 1 + M.length - 1 ≤ 9223372036854775807 by omega), wrap_id (show -9223372036854775808 ≤ (A.length : Int) + 1 by omega) (show (A.length : Int) + 1 ≤ 9223372036854775807 by omega)]
      simp only [if_pos (show (A.length : Int) < (A.length : Int) + 1 + M.length by omega), if_pos (show (0 : Int) ≤ (A.length : Int) + 1 + M.length by omega), if_pos (show (A.length : Int) + 1 + M.length < ((A ++ x :: (M ++ y :: B)).length : Int) by omega), if_pos (show (0 : Int) ≤ (A.length : Int) by omega), if_pos (show (A.length : Int) < ((A ++ x :: (M ++ y :: B)).length : Int) by omega)]
      rw [ih]
      simp
theorem next_step (A P Q : List Int) (y z : Int) (hs : (P ++ y :: z :: Q).Pairwise (· < ·)) (hl : (A ++ y :: (Q.reverse ++ z :: P.reverse)).length ≤ 1048576) : L (fun k => impl_nextOrder.f k (A ++ y :: (Q.reverse ++ z :: P.reverse))) = some (true, A ++ z :: (P ++ y :: Q)) := by
  rw [List.pairwise_append, List.pairwise_cons, List.pairwise_cons] at hs
  obtain ⟨hP, ⟨hy, hz, hQ⟩, hPy⟩ := hs
  have hD : (Q.reverse ++ z :: P.reverse).Pairwise (· > ·) := by
    have e : Q.reverse ++ z :: P.reverse = (P ++ z :: Q).reverse := by simp
    rw [e, List.pairwise_reverse, List.pairwise_append, List.pairwise_cons]
    exact ⟨hP, ⟨hz, hQ⟩, fun a ha b hb => hPy a ha b (List.mem_cons_of_mem _ hb)⟩
  have hlen : (A ++ y :: (Q.reverse ++ z :: P.reverse)).length = A.length + 1 + Q.length + 1 + P.length := by simp; omega
  generalize ho : A ++ y :: (Q.reverse ++ z :: P.reverse) = o at *
  have ho1 : o = (A ++ [y]) ++ (Q.reverse ++ z :: P.reverse) := by rw [← ho]; simp
  have ho2 : o = (A ++ y :: (Q.reverse ++ [z])) ++ P.reverse := by rw [← ho]; simp
  have hry : rd o (A.length : Int) = y := by rw [← ho]; exact rd_mid _ _ _
  have hrz : rd o ((A.length : Int) + 1 + (Q.reverse.length : Int)) = z := by rw [← ho]; exact rd_far A y Q.reverse z P.reverse _ rfl
  have e0 : (o.length : Int) - 2 = ((A.length + 1 + (Q.length + P.length) : Nat) : Int) - 1 := by omega
  simp only [impl_nextOrder.f, wrap_id (show -9223372036854775808 ≤ (o.length : Int) - 2 by omega) (show (o.length : Int) - 2 ≤ 9223372036854775807 by omega)]
  rw [e0, next_scan o hl (A.length + 1) (Q.length + P.length) (by omega) (fun j h1 h2 => by
    have := rd_desc (A ++ [y]) _ hD j (by simp; omega) (by rw [← ho1]; omega)
    rwa [← ho1] at this)]
  have e1 : (((A.length + 1 : Nat) : Int) - 1) = (A.length : Int) := by omega
  rw [e1, L_shift]
  have hfirst : ¬ (rd o (A.length : Int) > rd o ((A.length : Int) + 1)) := by
    obtain ⟨a1, a2⟩ := rd_app (A ++ [y]) (Q.reverse ++ z :: P.reverse) (A.length + 1) (by simp) (by rw [← ho1]; omega)
    rw [← ho1] at a2
    have e3 : ((A.length + 1 : Nat) : Int) = (A.length : Int) + 1 := by omega
    rw [e3] at a2
    rw [hry, a2]
    have h5 : A.length + 1 - (A ++ [y]).length = 0 := by simp
    simp only [h5]
    have : ∀ (l : List Int) (h : 0 < (l ++ z :: P.reverse).length), (∀ q ∈ l, y < q) → y < (l ++ z :: P.reverse)[0] := by
      intro l h hq
      cases l with
      | nil => exact hy z (by simp)
      | cons q l => exact hq q (by simp)
    have := this Q.reverse (by simp; omega) (fun q hq => hy q (by simp at hq; simp [hq]))
    omega
  simp only [impl_nextOrder.l0, wrap_id (show -9223372036854775808 ≤ (A.length : Int) + 1 by omega) (show (A.length : Int) + 1 ≤ 9223372036854775807 by omega)]
  simp only [if_pos (show (A.length : Int) ≥ 0 by omega), if_pos (show (0 : Int) ≤ (A.length : Int) by omega), if_pos (show (A.length : Int) < (o.length : Int) by omega), if_pos (show (0 : Int) ≤ (A.length : Int) + 1 by omega), if_pos (show (A.length : Int) + 1 < (o.length : Int) by omega), if_neg hfirst]
  rw [L_shift]
  have e4 : (o.length : Int) - 1 = ((A.length + 1 + Q.length + 1 + P.length : Nat) : Int) - 1 := by omega
  simp only [impl_nextOrder.j1, if_neg (show ¬ (A.length : Int) < 0 by omega), wrap_id (show -9223372036854775808 ≤ (o.length : Int) - 1 by omega) (show (o.length : Int) - 1 ≤ 9223372036854775807 by omega)]
  rw [e4, next_scan1 o hl A.length (by omega) (A.length + 1 + Q.length + 1) P.length (by omega) (fun j h1 h2 => by
    obtain ⟨a1, a2⟩ := rd_app (A ++ y :: (Q.reverse ++ [z])) P.reverse j (by simp; omega) (by rw [← ho2]; omega)
    rw [← ho2] at a2
    rw [a2, hry]
    have hm : P.reverse[j - (A ++ y :: (Q.reverse ++ [z])).length] ∈ P := List.mem_reverse.1 (List.getElem_mem a1)
    exact hPy _ hm y List.mem_cons_self)]
  have e5 : (((A.length + 1 + Q.length + 1 : Nat) : Int) - 1) = (A.length : Int) + 1 + (Q.reverse.length : Int) := by rw [List.length_reverse]; omega
  have e6 : (Q.reverse.length : Int) = (Q.length : Int) := by simp
  rw [e5, L_shift]
  have hyz := hy z List.mem_cons_self
  simp only [impl_nextOrder.l1, hrz, hry, wrap_id (show -9223372036854775808 ≤ (A.length : Int) + 1 by omega) (show (A.length : Int) + 1 ≤ 9223372036854775807 by omega)]
  simp only [if_pos (show (0 : Int) ≤ (A.length : Int) + 1 + (Q.reverse.length : Int) by omega), if_pos (show (A.length : Int) + 1 + (Q.reverse.length : Int) < (o.length : Int) by omega), if_pos (show (0 : Int) ≤ (A.length : Int) by omega), if_pos (show (A.length : Int) < (o.length : Int) by omega), if_neg (show ¬ z < y by omega), wrap_id (show -9223372036854775808 ≤ (o.length : Int) - 1 by omega) (show (o.length : Int) - 1 ≤ 9223372036854775807 by omega)]
  have hset := set_far A y Q.reverse z P.reverse ((A.length : Int) + 1 + (Q.reverse.length : Int)) rfl
  rw [ho] at hset
  rw [hset]
  have e7 : A ++ z :: (Q.reverse ++ y :: P.reverse) = (A ++ [z]) ++ ((Q.reverse ++ y :: P.reverse) ++ []) := by simp
  have e8 : (A.length : Int) + 1 = ((A ++ [z]).length : Int) := by simp
  have e9 : (o.length : Int) - 1 = ((A ++ [z]).length : Int) + (Q.reverse ++ y :: P.reverse).length - 1 := by simp; omega
  rw [e7, e8, e9, next_rev _ _ _ _ (Nat.le_refl _) (by rw [← e7]; simp; omega)]
  simp
theorem next_last (s : List Int) (hs : s.Pairwise (· < ·)) (hl : s.length ≤ 1048576) : L (fun k => impl_nextOrder.f k s.reverse) = some (false, s.reverse) := by
  have hD : s.reverse.Pairwise (· > ·) := List.pairwise_reverse.2 hs
  have hlen : s.reverse.length = s.length := by simp
  generalize s.reverse = o at *
  have hend : ∀ x : Int, x < 0 → L (fun k => impl_nextOrder.l0 k o x) = some (false, o) := by
    intro x hx
    rw [L_shift]
    simp only [impl_nextOrder.l0, if_neg (show ¬ x ≥ 0 by omega)]
    rw [L_shift]
    simp only [impl_nextOrder.j1, if_pos hx, L_const]
  simp only [impl_nextOrder.f, wrap_id (show -9223372036854775808 ≤ (o.length : Int) - 2 by omega) (show (o.length : Int) - 2 ≤ 9223372036854775807 by omega)]
  by_cases h : o.length ≤ 1
  · exact hend _ (by omega)
  · have e0 : (o.length : Int) - 2 = ((0 + (o.length - 1) : Nat) : Int) - 1 := by omega
    rw [e0, next_scan o (by omega) 0 (o.length - 1) (by omega) (fun j h1 h2 => by
      have := rd_desc [] o hD j (by simp) (by simp; omega)
      simpa using this)]
    exact hend _ (by omega)
theorem permsN_perm : ∀ (n : Nat) (s : List Int), s.length = n → s.Nodup → ∀ q ∈ permsN n s, q.Perm s
  | 0, s, hl, _, q, hq => by
    cases List.eq_nil_of_length_eq_zero hl
    simp only [permsN, List.mem_singleton] at hq
    rw [hq]
  | n + 1, s, hl, hs, q, hq => by
    simp only [permsN, List.mem_flatMap, List.mem_map] at hq
    obtain ⟨y, hy, p, hp, rfl⟩ := hq
    have e := hs.erase_eq_filter y
    have h1 : (s.filter (· ≠ y)).length = n := by
      have h2 := List.length_erase_of_mem hy
      rw [e] at h2
      simp only [bne] at h2
      have h3 : (s.filter (fun x => !x == y)) = s.filter (· ≠ y) := by
        apply List.filter_congr
        intro a _
        by_cases h : a = y <;> simp [h]
      rw [h3] at h2
      omega
    have ih := permsN_perm n _ h1 (hs.filter _) p hp
    refine (ih.cons y).trans ?_
    have h3 : (s.filter (fun x => x != y)) = s.filter (· ≠ y) := by
      apply List.filter_congr
      intro a _
      by_cases h : a = y <;> simp [h]
    rw [← h3, ← e]
    exact (List.perm_cons_erase hy).symm
/-- One order leads to the next one. -/
def NextL (a b : List Int) : Prop := L (fun k => impl_nextOrder.f k a) = some (true, b)
theorem each_run {σ : Type} {step : Nat → List Int → σ → Option σ} {F : σ → List Int → σ} (hm : ∀ o s, Mono (fun k => step k o s)) : ∀ (r : List (List Int)) (o : List Int) (s : σ), (∀ q ∈ o :: r, ∀ s, L (fun k => step k q s) = some (F s q)) → RunL NextL (o :: r) → (∀ (p : List (List Int)) (b : List Int), o :: r = p ++ [b] → ∃ c, L (fun k => impl_nextOrder.f k b) = some (false, c)) → L (fun k => impl_eachOrder.run step k o s) = some ((o :: r).foldl F s)
  | [], o, s, h1, h2, h3 => by
    obtain ⟨c, hc⟩ := h3 [] o rfl
    rw [L_shift]
    simp only [impl_eachOrder.run, L_bind, h1 o List.mem_cons_self, hc, Option.bind_some, Bool.false_eq_true, if_false, L_const]
    rfl
  | b :: r, o, s, h1, h2, h3 => by
    have h4 := h2.1
    unfold NextL at h4
    rw [L_shift]
    simp only [impl_eachOrder.run, L_bind, h1 o List.mem_cons_self, h4, Option.bind_some, if_true]
    exact each_run hm r b _ (fun q hq => h1 q (List.mem_cons_of_mem _ hq)) h2.2 (fun p c e => h3 (o :: p) c (by rw [e]; rfl))
/-- A walk over all orders of n things, told by a fold over them. -/
theorem each_L {σ : Type} {step : Nat → List Int → σ → Option σ} {F : σ → List Int → σ} (hm : ∀ o s, Mono (fun k => step k o s)) (n : Nat) (hn : n ≤ 8) (s : σ) (h : ∀ q, IsOrd n q → ∀ s, L (fun k => step k q s) = some (F s q)) : L (fun k => impl_eachOrder.run step k (numsTo n) s) = some ((permsN n (numsTo n)).foldl F s) := by
  have hlen : ∀ (A P Q : List Int) (y z : Int), A ++ P ++ y :: z :: Q = A ++ P ++ y :: z :: Q := fun _ _ _ _ _ => rfl
  have hrun := perms_run (N := fun a b => a.length ≤ 1048576 → NextL a b) (fun A P Q y z hs hl => next_step A P Q y z hs hl) n [] (numsTo n) (numsTo_length n) (numsTo_asc n)
  have e : (permsN n (numsTo n)).map (fun x => [] ++ x) = permsN n (numsTo n) := by simp
  rw [e] at hrun
  obtain ⟨h1, ⟨r, h2⟩, ⟨p, h3⟩⟩ := hrun
  rw [List.nil_append] at h2 h3
  have hall : ∀ q ∈ permsN n (numsTo n), IsOrd n q := fun q hq => IsOrd.of_perm (permsN_perm n (numsTo n) (numsTo_length n) (numsTo_nodup n) q hq)
  rw [h2] at hall h1 h3 ⊢
  refine each_run hm r (numsTo n) s (fun q hq => h q (hall q hq)) ?_ (fun p' b hb => ?_)
  · have : ∀ os : List (List Int), (∀ q ∈ os, IsOrd n q) → RunL (fun a b => a.length ≤ 1048576 → NextL a b) os → RunL NextL os := by
      intro os
      induction os with
      | nil => exact fun _ _ => trivial
      | cons a os ih =>
        cases os with
        | nil => exact fun _ _ => trivial
        | cons b os => exact fun ha hr => ⟨hr.1 (by rw [(ha a List.mem_cons_self).1]; omega), ih (fun q hq => ha q (List.mem_cons_of_mem _ hq)) hr.2⟩
    exact this _ hall h1
  · rw [h3] at hb
    have hb2 : b = (numsTo n).reverse := by
      have := congrArg List.getLast? hb
      simpa using this.symm
    exact ⟨_, by rw [hb2]; exact next_last _ (numsTo_asc n) (by rw [numsTo_length]; omega)⟩
/-- What one order does to the best so far: the first best order, its value, and how many there are. -/
def bestS (V : List Int → Int) (s : List Int × Int × Int) (o : List Int) : List Int × Int × Int :=
  if s.2.2 = 0 ∨ V o < s.2.1 then (o, V o, 1) else if V o = s.2.1 then (s.1, s.2.1, wrap64 (s.2.2 + 1)) else s
/-- The best of all orders. -/
def bestP (l : List S61) (obj : Int) : List Int × Int × Int := (permsN l.length (numsTo l.length)).foldl (bestS (fun o => valP obj l (endsP l o))) ([], 0, 0)
def numsFrom (i d : Nat) : List Int := (List.range' i d).map (fun j : Nat => (j : Int))
theorem numsFrom_all (n : Nat) : numsFrom 0 n = numsTo n := by
  unfold numsFrom numsTo
  rw [List.range_eq_range']
theorem numsFrom_cons (i d : Nat) : numsFrom i (d + 1) = (i : Int) :: numsFrom (i + 1) d := by
  unfold numsFrom
  rw [List.range'_succ]
  rfl
theorem l2Try_leaf (l : List S61) (hg : Good l) (obj : Int) (hobj : objB obj = true) (b : List Int) (hb : IsOrd l.length b) (s : List Int × Int × Int) : L (fun k => spec_l2Try.f k l b obj s.1 s.2.1 s.2.2) = some (bestS (fun o => valP obj l (endsP l o)) s b) := by
  have h8 := hg.1
  have hb1 := hb.1
  have hj : ∀ c : Bool, L (fun k => spec_l2Try.j0 k b (valP obj l (endsP l b)) c s.1 s.2.1 s.2.2) = some (if c = true then (b, valP obj l (endsP l b), 1) else if valP obj l (endsP l b) = s.2.1 then (s.1, s.2.1, wrap64 (s.2.2 + 1)) else s) := by
    intro c
    rw [L_shift]
    simp only [spec_l2Try.j0, l1Own_e b (by omega), Option.bind_some, L_ite, L_const]
    repeat' split
    all_goals rfl
  rw [L_shift]
  simp only [spec_l2Try.f, if_pos (show (b.length : Int) = (l.length : Int) by omega), L_bind, l2Value_L l b hg hb obj hobj, Option.bind_some, L_ite, hj, bestS]
  by_cases h0 : s.2.2 = 0
  · simp [h0]
  · by_cases h1 : valP obj l (endsP l b) < s.2.1
    · simp [h0, h1]
    · simp [h0, h1]
theorem l2Try_L (l : List S61) (hg : Good l) (obj : Int) (hobj : objB obj = true) : ∀ (n : Nat) (b : List Int), b.Nodup → (∀ x ∈ b, 0 ≤ x ∧ x < (l.length : Int)) → b.length + n = l.length → ∀ s : List Int × Int × Int, L (fun k => spec_l2Try.f k l b obj s.1 s.2.1 s.2.2) = some (((permsN n ((numsTo l.length).filter (fun x => decide (x ∉ b)))).map (fun q => b ++ q)).foldl (bestS (fun o => valP obj l (endsP l o))) s)
  | 0, b, hn, hx, hl, s => by
    rw [l2Try_leaf l hg obj hobj b ⟨by omega, hx, hn⟩ s]
    simp [permsN]
  | n + 1, b, hn, hx, hl, s => by
    have h8 := hg.1
    have hloop : ∀ (d i : Nat) (s : List Int × Int × Int), i + d = l.length → L (fun k => spec_l2Try.l0 k l b obj (i : Int) s.1 s.2.1 s.2.2) = some ((((numsFrom i d).filter (fun x => decide (x ∉ b))).flatMap (fun y => (permsN n ((numsTo l.length).filter (fun x => decide (x ∉ b ++ [y])))).map (fun q => (b ++ [y]) ++ q))).foldl (bestS (fun o => valP obj l (endsP l o))) s) := by
      intro d
      induction d with
      | zero =>
        intro i s hi
        rw [L_shift]
        simp only [spec_l2Try.l0, if_neg (show ¬ ((i : Int) < (l.length : Int)) by omega), L_const]
        rfl
      | succ d ih =>
        intro i s hi
        have e : wrap64 ((i : Int) + 1) = ((i + 1 : Nat) : Int) := by
          rw [wrap_id (by omega) (by omega)]
          omega
        rw [L_shift]
        simp only [spec_l2Try.l0, if_pos (show ((i : Int) < (l.length : Int)) by omega), L_bind, l1Has_L b _ (show b.length < 4611686018427387904 by omega), Option.bind_some, e, L_ite, L_const, l1Own_e b (by omega), if_pos (show b.length + ([(i : Int)] : List Int).length < 17592186044416 by simp; omega)]
        rw [numsFrom_cons]
        by_cases hm : (i : Int) ∈ b
        · simp only [hm, decide_true, if_true]
          rw [ih (i + 1) s (by omega), List.filter_cons_of_neg (by simp [hm])]
        · rw [if_neg (by simp [hm])]
          have hrec := l2Try_L l hg obj hobj n (b ++ [(i : Int)]) (by
            rw [List.nodup_append]
            exact ⟨hn, by simp, fun a ha c hc => by
              rw [List.mem_singleton] at hc
              rintro rfl
              exact hm (hc ▸ ha)⟩) (fun x h => by
            rcases List.mem_append.1 h with h | h
            · exact hx x h
            · rw [List.mem_singleton] at h
              omega) (by simp; omega) s
          rw [hrec, Option.bind_some, ih (i + 1) _ (by omega), List.filter_cons_of_pos (by simp [hm]), List.flatMap_cons, List.foldl_append]
    rw [L_shift]
    simp only [spec_l2Try.f, if_neg (show ¬ (b.length : Int) = (l.length : Int) by omega)]
    have := hloop l.length 0 s (by omega)
    rw [numsFrom_all] at this
    refine this.trans ?_
    congr 2
    rw [permsN, List.map_flatMap]
    congr 1
    funext y
    rw [List.map_map]
    have e1 : (fun q => b ++ q) ∘ (fun q => y :: q) = fun q => (b ++ [y]) ++ q := by
      funext q
      simp
    rw [e1, List.filter_filter]
    congr 2
    apply List.filter_congr
    intro a _
    by_cases h1 : a = y
    · simp [h1]
    · simp [h1]
theorem l2All_L (l : List S61) (hg : Good l) (obj : Int) (hobj : objB obj = true) : L (fun k => spec_l2All.f k l obj) = some (bestP l obj) := by
  have h := l2Try_L l hg obj hobj l.length [] List.nodup_nil (by simp) (by simp) ([], 0, 0)
  have e : (numsTo l.length).filter (fun x => decide (x ∉ ([] : List Int))) = numsTo l.length := by simp
  rw [e] at h
  simp only [List.nil_append, List.map_id'] at h
  simp only [spec_l2All.f, L_bind, h, Option.bind_some, L_const]
  rfl
theorem l2Best_L (l : List S61) (hg : Good l) (obj : Int) (hobj : objB obj = true) : L (fun k => spec_l2Best.f k l obj) = some ((bestP l obj).1, (bestP l obj).2.1) := by
  simp only [spec_l2Best.f, L_bind, l2All_L l hg obj hobj, Option.bind_some, L_const]
theorem best_L (l : List S61) (hg : Good l) (obj : Int) : L (fun k => impl_best.f k l obj) = some (bestP l obj) := by
  have h8 := hg.1
  have hn := ruled_l l.length (by omega) l.length 0 (by omega)
  have hn2 : L (fun k => impl_numbersTo.f k (l.length : Int)) = some (numsTo l.length) := by
    simp only [impl_numbersTo.f]
    exact hn
  simp only [impl_best.f, L_bind, hn2, Option.bind_some]
  refine each_L (fun o s => ⟨⟨fun k => impl_best_1.step_mono l obj k o s⟩⟩) l.length h8 ([], 0, 0) (fun q hq s => ?_)
  have hq1 := hq.1
  simp only [impl_best_1.step, L_bind, valueOf_L l q hg hq obj, Option.bind_some, L_ite, copyInts_e q (by omega), L_const, bestS]
  repeat' split
  all_goals rfl

theorem DValue_both2 (m pk now : Int) (l : List S61) (T : List S98) (obj : Int) (hl : l.length ≤ 1048576) (hT : T.length ≤ 1048576) : ∃ (R : Int) (ok : Bool), L (fun k => spec_DispatchValue.f k m pk now l T obj) = some (R, ok) ∧ L (fun k => impl_DispatchValue.f k m pk now l T obj) = some (R, ok) ∧ (ok = true → 1 ≤ m ∧ Good l ∧ objB obj = true) := by
  have h1 := l12Good_L m pk now l T hl hT
  have h2 := IsDispatcher_L m pk now l T hl hT
  have j1 : L (fun k => spec_DispatchValue.j0 k obj true m pk now l T) = some (0, false) := by
    rw [L_shift]
    simp only [spec_DispatchValue.j0, if_true, L_const]
  have j2 : L (fun k => impl_DispatchValue.j0 k obj true m pk now l T) = some (0, false) := by
    rw [L_shift]
    simp only [impl_DispatchValue.j0, if_true, L_const]
  cases hb : dispB m pk now l T with
  | false =>
    rw [hb] at h1 h2
    refine ⟨0, false, ?_, ?_, fun h => by cases h⟩
    · simp only [spec_DispatchValue.f, L_bind, h1, bindS, Bool.false_eq_true, if_false, j1]
    · simp only [impl_DispatchValue.f, L_bind, h2, bindS, Bool.false_eq_true, if_false, j2]
  | true =>
    rw [hb] at h1 h2
    obtain ⟨hm, hn, hg, ht⟩ := dispB_iff hb
    cases ho : objB obj with
    | false =>
      refine ⟨0, false, ?_, ?_, fun h => by cases h⟩
      · simp only [spec_DispatchValue.f, L_bind, h1, bindS, if_true, l2Objective_e, ho, Bool.false_eq_true, if_false, j1]
      · simp only [impl_DispatchValue.f, L_bind, h2, bindS, if_true, isObjective_e, ho, Bool.false_eq_true, if_false, j2]
    | true =>
      cases hd : decide ((T.length : Int) < (l.length : Int)) with
      | true =>
        refine ⟨0, false, ?_, ?_, fun h => by cases h⟩
        · simp only [spec_DispatchValue.f, L_bind, h1, bindS, if_true, l2Objective_e, ho, hd, j1]
        · simp only [impl_DispatchValue.f, L_bind, h2, bindS, if_true, isObjective_e, ho, hd, j2]
      | false =>
        have hlen : l.length ≤ T.length := by
          have := of_decide_eq_false hd
          omega
        have hok := tasksB_all hg T [] ht
        have hE := endsD_all hg hn.2 T ht hlen
        have hEl : (endsD l T (List.replicate l.length (-1))).length = l.length := by rw [endsD_length, List.length_replicate]
        refine ⟨valP obj l (endsD l T (List.replicate l.length (-1))), true, ?_, ?_, fun _ => ⟨hm.1, hg, by first | rfl | exact ho⟩⟩
        · have e : L (fun k => spec_DispatchValue.f k m pk now l T obj) = L (fun k => spec_DispatchValue.j0 k obj false m pk now l T) := by
            simp only [spec_DispatchValue.f, L_bind, h1, bindS, if_true, l2Objective_e, ho, hd]
          rw [e, L_shift]
          simp only [spec_DispatchValue.j0, Bool.false_eq_true, if_false, L_bind, l12Ends_L l m pk now hg hn.2 T (by omega) hok, bindS, l2Of_L l hg _ hEl hE obj ho, L_const]
        · have e : L (fun k => impl_DispatchValue.f k m pk now l T obj) = L (fun k => impl_DispatchValue.j0 k obj false m pk now l T) := by
            simp only [impl_DispatchValue.f, L_bind, h2, bindS, if_true, isObjective_e, ho, hd]
          rw [e, L_shift]
          simp only [impl_DispatchValue.j0, Bool.false_eq_true, if_false, L_bind, ends_L l m pk now hg hn.2 T (by omega) hok, bindS, valueOfEnds_L l hg _ hEl hE obj, L_const]
theorem DGap_both (m pk now : Int) (l : List S61) (T : List S98) (obj : Int) (hl : l.length ≤ 1048576) (hT : T.length ≤ 1048576) : ∃ (R : Int) (ok : Bool), L (fun k => spec_DispatchGap.f k m pk now l T obj) = some (R, ok) ∧ L (fun k => impl_DispatchGap.f k m pk now l T obj) = some (R, ok) := by
  obtain ⟨R, ok, h1, h2, h3⟩ := DValue_both2 m pk now l T obj hl hT
  simp only [spec_DispatchGap.f, impl_DispatchGap.f, L_bind, L_ite, L_const, h1, h2, Option.bind_some]
  cases ok with
  | false => exact ⟨0, false, by simp, by simp⟩
  | true =>
    obtain ⟨hm, hg, ho⟩ := h3 rfl
    by_cases h : m = 1
    · exact ⟨wrap64 (R - (bestP l obj).2.1), true, by simp [h, l2Best_L l hg obj ho], by simp [h, best_L l hg obj]⟩
    · have h5 : m > 1 := by omega
      exact ⟨0, false, by simp [h5], by simp [h]⟩
theorem FnExactDispatchGap : laws_FnExactDispatchGap.Pure := by
  intro a b c l T obj _ _ _ h1 h2 _
  replace h1 := h1.1
  replace h2 := h2.1
  have e1 : maxLen = 9223372036854775807 := rfl
  refine rounds_of_L ?_
  simp only [laws_FnExactDispatchGap.f, szDispatcher_e a b c l T (by omega) (by omega)]
  by_cases hs : l.length + T.length ≤ 1048576
  · have q9 : ¬ (1048576 - (l.length : Int) - (T.length : Int)) < 0 := by omega
    have ht := toDispatcher_L a b c l T (by omega) (by omega)
    have hl2 : (l.map toJobP).length ≤ 1048576 := by rw [List.length_map]; omega
    have hT2 : (T.map toTaskP).length ≤ 1048576 := by rw [List.length_map]; omega
    obtain ⟨R, ok, hsp, him⟩ := DGap_both a b c (l.map toJobP) (T.map toTaskP) obj hl2 hT2
    have he := eqDispatcher_L a b c (l.map toJobP) (T.map toTaskP) hl2 hT2
    simp only [if_pos hs, bindS, if_neg q9, L_bind, ht, hsp, him, if_true, bne_self_eq_false]
    rw [L_shift]
    simp only [laws_FnExactDispatchGap.j0, Bool.false_eq_true, if_false, L_bind, ht, bindS, he, if_true, L_const]
  · simp only [if_neg hs, bindS, if_pos (show (-1 : Int) < 0 by decide), L_const]

end Go.Proofs.Ytoagdnojoodloaa.Pure
