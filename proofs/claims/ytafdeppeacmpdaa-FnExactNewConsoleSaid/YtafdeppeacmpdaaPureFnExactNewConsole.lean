/- The program's NewConsole answers what the reference's answers, for all dispatchers. -/
import Derived.Test.YtafdeppeacmpdaaXSFnExactNewConsole
import Derived.Test.YtafdeppeacmpdaaXLim
namespace Go.Proofs.Ytafdeppeacmpdaa.Pure
open Go.RowKit Go.Proofs.YtafdeppeacmpdaaW.PrintWords Go.Proofs.YtafdeppeacmpdaaW.PrintLast Go.Proofs.YtafdeppeacmpdaaW.PrintMore Go.Proofs.Ytafdeppeacmpdaa.X Go.Proofs.Ytafdeppeacmpdaa.XRow Go.Proofs.Ytafdeppeacmpdaa.XLim
set_option linter.unusedVariables false
set_option linter.unusedSimpArgs false
instance : ∀ a0 a1 a2 a3 a4, Mono (fun k => impl_IsDispatcher.f k a0 a1 a2 a3 a4) := fun a0 a1 a2 a3 a4 => ⟨⟨impl_IsDispatcher.mono a0 a1 a2 a3 a4⟩⟩
instance : ∀ a0, Mono (fun k => impl_IsJobs.f k a0) := fun a0 => ⟨⟨impl_IsJobs.mono a0⟩⟩
instance : ∀ a0 a1 a2 a3 a4, Mono (fun k => impl_NewConsole.f k a0 a1 a2 a3 a4) := fun a0 a1 a2 a3 a4 => ⟨⟨impl_NewConsole.mono a0 a1 a2 a3 a4⟩⟩
instance : ∀ a0 a1 a2 a3 a4, Mono (fun k => laws_FnExactNewConsole.f k a0 a1 a2 a3 a4) := fun a0 a1 a2 a3 a4 => ⟨⟨laws_FnExactNewConsole.mono a0 a1 a2 a3 a4⟩⟩
instance : ∀ a0 a1 a2 a3 a4 a5 a6 a7 a8 a9 a10 a11 a12 a13 a14 a15, Mono (fun k => laws_eqConsole.f k a0 a1 a2 a3 a4 a5 a6 a7 a8 a9 a10 a11 a12 a13 a14 a15) := fun a0 a1 a2 a3 a4 a5 a6 a7 a8 a9 a10 a11 a12 a13 a14 a15 => ⟨⟨laws_eqConsole.mono a0 a1 a2 a3 a4 a5 a6 a7 a8 a9 a10 a11 a12 a13 a14 a15⟩⟩
instance : ∀ a0 a1 a2 a3 a4 a5 a6 a7 a8 a9, Mono (fun k => laws_eqDispatcher.f k a0 a1 a2 a3 a4 a5 a6 a7 a8 a9) := fun a0 a1 a2 a3 a4 a5 a6 a7 a8 a9 => ⟨⟨laws_eqDispatcher.mono a0 a1 a2 a3 a4 a5 a6 a7 a8 a9⟩⟩
instance : ∀ a0 a1, Mono (fun k => laws_eqJobS.f k a0 a1) := fun a0 a1 => ⟨⟨laws_eqJobS.mono a0 a1⟩⟩
instance : ∀ a0 a1, Mono (fun k => laws_eqTaskS.f k a0 a1) := fun a0 a1 => ⟨⟨laws_eqTaskS.mono a0 a1⟩⟩
instance : ∀ a0 a1 a2 a3 a4 a5 a6 a7 a8, Mono (fun k => laws_heldConsole.f k a0 a1 a2 a3 a4 a5 a6 a7 a8) := fun a0 a1 a2 a3 a4 a5 a6 a7 a8 => ⟨⟨laws_heldConsole.mono a0 a1 a2 a3 a4 a5 a6 a7 a8⟩⟩
instance : ∀ a0 a1 a2 a3 a4 a5, Mono (fun k => laws_heldDispatcher.f k a0 a1 a2 a3 a4 a5) := fun a0 a1 a2 a3 a4 a5 => ⟨⟨laws_heldDispatcher.mono a0 a1 a2 a3 a4 a5⟩⟩
instance : ∀ a0 a1, Mono (fun k => laws_heldJobS.f k a0 a1) := fun a0 a1 => ⟨⟨laws_heldJobS.mono a0 a1⟩⟩
instance : ∀ a0 a1, Mono (fun k => laws_heldTaskS.f k a0 a1) := fun a0 a1 => ⟨⟨laws_heldTaskS.mono a0 a1⟩⟩
instance : ∀ a0 a1 a2 a3 a4 a5 a6 a7 a8, Mono (fun k => laws_markConsole.f k a0 a1 a2 a3 a4 a5 a6 a7 a8) := fun a0 a1 a2 a3 a4 a5 a6 a7 a8 => ⟨⟨laws_markConsole.mono a0 a1 a2 a3 a4 a5 a6 a7 a8⟩⟩
instance : ∀ a0 a1 a2 a3 a4 a5, Mono (fun k => laws_markDispatcher.f k a0 a1 a2 a3 a4 a5) := fun a0 a1 a2 a3 a4 a5 => ⟨⟨laws_markDispatcher.mono a0 a1 a2 a3 a4 a5⟩⟩
instance : ∀ a0 a1, Mono (fun k => laws_markJobS.f k a0 a1) := fun a0 a1 => ⟨⟨laws_markJobS.mono a0 a1⟩⟩
instance : ∀ a0 a1, Mono (fun k => laws_markTaskS.f k a0 a1) := fun a0 a1 => ⟨⟨laws_markTaskS.mono a0 a1⟩⟩
instance : ∀ a0 a1 a2 a3 a4, Mono (fun k => laws_toDispatcher.f k a0 a1 a2 a3 a4) := fun a0 a1 a2 a3 a4 => ⟨⟨laws_toDispatcher.mono a0 a1 a2 a3 a4⟩⟩
instance : ∀ a0, Mono (fun k => laws_toJobS.f k a0) := fun a0 => ⟨⟨laws_toJobS.mono a0⟩⟩
instance : ∀ a0, Mono (fun k => laws_toTaskS.f k a0) := fun a0 => ⟨⟨laws_toTaskS.mono a0⟩⟩
instance : ∀ a0 a1 a2 a3 a4, Mono (fun k => spec_NewConsole.f k a0 a1 a2 a3 a4) := fun a0 a1 a2 a3 a4 => ⟨⟨spec_NewConsole.mono a0 a1 a2 a3 a4⟩⟩
instance : ∀ a0 a1 a2 a3 a4, Mono (fun k => spec_l12Good.f k a0 a1 a2 a3 a4) := fun a0 a1 a2 a3 a4 => ⟨⟨spec_l12Good.mono a0 a1 a2 a3 a4⟩⟩
instance : ∀ a0 a1 a2 a3 a4, Mono (fun k => spec_l12Tasks.f k a0 a1 a2 a3 a4) := fun a0 a1 a2 a3 a4 => ⟨⟨spec_l12Tasks.mono a0 a1 a2 a3 a4⟩⟩
instance : ∀ a0, Mono (fun k => spec_l2Good.f k a0) := fun a0 => ⟨⟨spec_l2Good.mono a0⟩⟩
theorem lt_mid {α : Type} (pre : List α) (x : α) (r : List α) : ((pre.length : Int) < ((pre ++ x :: r).length : Int)) = True := by
  simp only [List.length_append, List.length_cons]
  exact eq_true (by omega)
theorem not_lt_end {α : Type} (pre : List α) : ((pre.length : Int) < ((pre ++ []).length : Int)) = False := by
  simp
theorem le_nat (n : Nat) : (0 ≤ (n : Int)) = True := eq_true (by omega)
theorem getD_mid {α : Type} (pre : List α) (x : α) (r : List α) (d : α) : (pre ++ x :: r).getD (pre.length : Int).toNat d = x := by
  simp [List.getD_eq_getElem?_getD]
theorem wrap_mid {α : Type} (pre : List α) (x : α) (h : pre.length < 4611686018427387904) : wrap64 ((pre.length : Int) + 1) = ((pre ++ [x]).length : Int) := by
  rw [wrap_id (by omega) (by omega)]
  simp
theorem set_mid {α β : Type} (a : List α) (y v : α) (b : List α) (pre : List β) (h : pre.length = a.length) : (a ++ y :: b).set (pre.length : Int).toNat v = a ++ v :: b := by
  rw [Int.toNat_natCast, h, List.set_append_right _ _ (Nat.le_refl _)]
  simp
theorem rep_succ {α : Type} (x : α) (r : List α) {β : Type} (z : β) : List.replicate (x :: r).length z = z :: List.replicate r.length z := rfl
theorem app_cons {α : Type} (pre : List α) (x : α) (r : List α) : pre ++ x :: r = (pre ++ [x]) ++ r := by simp
/-- Option.bind_some, not as a reduction: simp would reduce what stands behind it, numbers too. -/
theorem bindS {α β : Type} (a : α) (f : α → Option β) : (some a).bind f = f a := id rfl
def toJobP (x : S148) : S137 := ⟨x.f0, x.f1, x.f2, x.f3⟩
theorem toJobS_l (r : List S148) : ∀ pre : List S148, (pre ++ r).length < 4611686018427387904 → L (fun k => laws_toJobS.l0 k (pre ++ r) (pre.map toJobP ++ List.replicate r.length z137) (pre.length : Int)) = some ((pre ++ r).map toJobP) := by
  induction r with
  | nil =>
    intro pre hb
    rw [L_shift]
    simp only [laws_toJobS.l0, not_lt_end, if_false, L_const, List.length_nil, List.replicate_zero]
    simp
  | cons x r ih =>
    intro pre hb
    rw [L_shift]
    have hl : pre.length < 4611686018427387904 := by simp at hb; omega
    have e : rd_T148 (pre ++ x :: r) (pre.length : Int) = x := getD_mid pre x r _
    have e2 : ((pre.length : Int) < ((pre.map toJobP ++ z137 :: List.replicate r.length z137).length : Int)) = True := by
      simp only [List.length_append, List.length_cons, List.length_map]
      exact eq_true (by omega)
    simp only [laws_toJobS.l0, laws_toJob.f, lt_mid, le_nat, if_true, rep_succ, e, e2, wrap_mid pre x hl, Option.bind_some, set_mid (pre.map toJobP) _ _ _ pre (by simp)]
    have := ih (pre ++ [x]) (by simpa using hb)
    simpa [toJobP] using this
theorem toJobS_L (l : List S148) (h : l.length ≤ 1048576) : L (fun k => laws_toJobS.f k l) = some (l.map toJobP) := by
  simp only [laws_toJobS.f, le_nat, if_true, Int.toNat_natCast, if_pos (show l.length ≤ 8796093022208 by omega)]
  exact toJobS_l l [] (by simp; omega)
theorem eqJobS_l (r : List S137) : ∀ pre : List S137, (pre ++ r).length < 4611686018427387904 → L (fun k => laws_eqJobS.l0 k (pre ++ r) (pre ++ r) (pre.length : Int)) = some true := by
  induction r with
  | nil =>
    intro pre hb
    rw [L_shift]
    simp only [laws_eqJobS.l0, not_lt_end, if_false, L_const]
  | cons x r ih =>
    intro pre hb
    rw [L_shift]
    have hl : pre.length < 4611686018427387904 := by simp at hb; omega
    simp only [laws_eqJobS.l0, laws_eqJob.f, lt_mid, le_nat, if_true, wrap_mid pre x hl, Option.bind_some]
    rw [app_cons pre x r]
    exact ih (pre ++ [x]) (by simpa using hb)
theorem eqJobS_L (l : List S137) (h : l.length ≤ 1048576) : L (fun k => laws_eqJobS.f k l l) = some true := by
  simp only [laws_eqJobS.f, if_true]
  exact eqJobS_l l [] (by simp; omega)
theorem szJobS_e (l : List S148) (h : l.length ≤ 9223372036854775807) : laws_szJobS.f l 1048576 = if l.length ≤ 1048576 then some (1048576 - (l.length : Int)) else some (-1) := by
  unfold laws_szJobS.f
  have e : wrap64 (1048576 - (l.length : Int)) = 1048576 - (l.length : Int) := wrap_id (by omega) (by omega)
  rw [e]
  by_cases h2 : l.length ≤ 1048576
  · rw [if_neg (by omega), if_pos h2]
  · rw [if_pos (by omega), if_neg h2]
def countJ : Int → List S137 → List S137
  | _, [] => []
  | v, _ :: r => ⟨v, v + 1, v + 1 + 1, v + 1 + 1 + 1⟩ :: countJ (v + 1 + 1 + 1 + 1) r
theorem markJobS_l (r : List S137) : ∀ (pre : List S137) (v : Int), (pre ++ r).length < 4611686018427387904 → 0 ≤ v → v + 4 * r.length < 9223372036854775807 → L (fun k => laws_markJobS.l0 k (pre ++ r) v (pre.length : Int)) = some (v + 4 * r.length, pre ++ countJ v r) := by
  induction r with
  | nil =>
    intro pre v hb h0 h1
    rw [L_shift]
    simp only [laws_markJobS.l0, not_lt_end, if_false, L_const]
    simp [countJ]
  | cons x r ih =>
    intro pre v hb h0 h1
    rw [L_shift]
    have hl : pre.length < 4611686018427387904 := by simp at hb; omega
    simp only [List.length_cons] at h1
    have e : ∀ y, rd_T137 (pre ++ y :: r) (pre.length : Int) = y := fun y => getD_mid pre y r _
    have es : ∀ y z, (pre ++ y :: r).set (pre.length : Int).toNat z = pre ++ z :: r := fun y z => set_mid pre y z r pre rfl
    simp only [laws_markJobS.l0, lt_mid, le_nat, if_true, Option.bind_some, e, es, wrap_mid pre x hl, wrap_id (show -9223372036854775808 ≤ v + 1 by omega) (show v + 1 ≤ 9223372036854775807 by omega), wrap_id (show -9223372036854775808 ≤ v + 1 + 1 by omega) (show v + 1 + 1 ≤ 9223372036854775807 by omega), wrap_id (show -9223372036854775808 ≤ v + 1 + 1 + 1 by omega) (show v + 1 + 1 + 1 ≤ 9223372036854775807 by omega), wrap_id (show -9223372036854775808 ≤ v + 1 + 1 + 1 + 1 by omega) (show v + 1 + 1 + 1 + 1 ≤ 9223372036854775807 by omega)]
    have := ih (pre ++ [⟨v, v + 1, v + 1 + 1, v + 1 + 1 + 1⟩]) (v + 1 + 1 + 1 + 1) (by simpa using hb) (by omega) (by omega)
    simp only [List.append_assoc, List.cons_append, List.nil_append, List.length_append, List.length_cons, List.length_nil] at this ⊢
    rw [this]
    simp only [countJ, Option.some.injEq, Prod.mk.injEq]
    exact ⟨by omega, by first | rfl | trivial⟩
theorem markJobS_L (l : List S137) (v : Int) (h : l.length ≤ 1048576) (h0 : 0 ≤ v) (h1 : v ≤ 1000000000) : L (fun k => laws_markJobS.f k l v) = some (v + 4 * l.length, countJ v l) := by
  have := markJobS_l l [] v (by simp; omega) h0 (by omega)
  simpa [laws_markJobS.f] using this
theorem ite_and (b c : Bool) : (if b = true then some c else some false) = some (b && c) := by cases b <;> rfl
theorem bind_self {α : Type} (o : Option α) : (o.bind fun t => some t) = o := by cases o <;> rfl
def inB (a lo hi : Int) : Bool := decide (lo ≤ a) && decide (a ≤ hi)
theorem inB_iff {a lo hi : Int} : inB a lo hi = true ↔ lo ≤ a ∧ a ≤ hi := by simp [inB]
theorem within_e (a lo hi : Int) : impl_within.f a lo hi = some (inB a lo hi) := by
  unfold impl_within.f inB
  by_cases h : lo ≤ a <;> simp [h]
theorem l1In_e (a lo hi : Int) : spec_l1In.f a lo hi = some (inB a lo hi) := by
  unfold spec_l1In.f inB
  by_cases h : lo ≤ a <;> simp [h]
def numsTo (n : Nat) : List Int := (List.range n).map (fun i : Nat => (i : Int))
/-- Different numbers of n things, none of them in pre. -/
def diffB (n : Int) : List Int → List Int → Bool
  | _, [] => true
  | pre, x :: r => inB x 0 (n - 1) && (!decide (x ∈ pre) && diffB n (pre ++ [x]) r)
/-- An order of n jobs. -/
def orderB (n : Nat) (l : List Int) : Bool := decide ((l.length : Int) = n) && diffB n [] l
def IsOrd (n : Nat) (l : List Int) : Prop := l.length = n ∧ (∀ x ∈ l, 0 ≤ x ∧ x < n) ∧ l.Nodup
def jobB (j : S137) : Bool := inB j.f0 1 50 && (inB j.f1 0 50 && (inB j.f2 0 500 && inB j.f3 0 500))
def goodB (l : List S137) : Bool := l.all jobB && decide ((l.length : Int) ≤ 8)
structure JobOk (j : S137) : Prop where
  t0 : 1 ≤ j.f0
  t1 : j.f0 ≤ 50
  w0 : 0 ≤ j.f1
  w1 : j.f1 ≤ 50
  r0 : 0 ≤ j.f2
  r1 : j.f2 ≤ 500
  d0 : 0 ≤ j.f3
  d1 : j.f3 ≤ 500
def Good (l : List S137) : Prop := l.length ≤ 8 ∧ ∀ j ∈ l, JobOk j
theorem goodB_iff {l : List S137} : goodB l = true ↔ Good l := by
  simp only [goodB, Good, Bool.and_eq_true, List.all_eq_true, decide_eq_true_eq, jobB, inB_iff]
  constructor
  · rintro ⟨h, hl⟩
    exact ⟨by omega, fun j hj => by
      obtain ⟨⟨a, b⟩, ⟨c, d⟩, ⟨e, f⟩, g, i⟩ := h j hj
      exact ⟨a, b, c, d, e, f, g, i⟩⟩
  · rintro ⟨hl, h⟩
    exact ⟨fun j hj => ⟨⟨(h j hj).t0, (h j hj).t1⟩, ⟨(h j hj).w0, (h j hj).w1⟩, ⟨(h j hj).r0, (h j hj).r1⟩, (h j hj).d0, (h j hj).d1⟩, by omega⟩
theorem l2Job_e (j : S137) : spec_l2Job.f j.f0 j.f1 j.f2 j.f3 = some (jobB j) := by
  simp only [spec_l2Job.f, l1In_e, Option.bind_some, ite_and, jobB]
theorem l2Good_l (r : List S137) : ∀ pre : List S137, (pre ++ r).length < 4611686018427387904 → L (fun k => spec_l2Good.l0 k (pre ++ r) (pre.length : Int)) = some (r.all jobB && decide (((pre ++ r).length : Int) ≤ 8)) := by
  induction r with
  | nil =>
    intro pre hb
    rw [L_shift]
    simp only [spec_l2Good.l0, not_lt_end, if_false, L_const]
    simp
  | cons x r ih =>
    intro pre hb
    rw [L_shift]
    have hl : pre.length < 4611686018427387904 := by simp at hb; omega
    have e : rd_T137 (pre ++ x :: r) (pre.length : Int) = x := getD_mid pre x r _
    simp only [spec_l2Good.l0, lt_mid, le_nat, if_true, e, wrap_mid pre x hl, l2Job_e, Option.bind_some, L_ite, L_const]
    rw [app_cons pre x r, ih (pre ++ [x]) (by simpa using hb), ite_and]
    rw [List.all_cons, Bool.and_assoc]
theorem l2Good_L (l : List S137) (h : l.length < 4611686018427387904) : L (fun k => spec_l2Good.f k l) = some (goodB l) := by
  have := l2Good_l l [] (by simpa using h)
  simpa [goodB, spec_l2Good.f] using this
theorem isDate_e (n : Int) : impl_isDate.f n = some (inB n 0 500) := by
  simp only [impl_isDate.f, within_e, Option.bind_some]
theorem IsJobs_l (r : List S137) : ∀ pre : List S137, (pre ++ r).length < 4611686018427387904 → L (fun k => impl_IsJobs.l0 k (pre ++ r) ((pre ++ r).length : Int) (pre.length : Int)) = some (r.all jobB) := by
  induction r with
  | nil =>
    intro pre hb
    rw [L_shift]
    simp only [impl_IsJobs.l0, not_lt_end, if_false, L_const]
    simp
  | cons x r ih =>
    intro pre hb
    rw [L_shift]
    have hl : pre.length < 4611686018427387904 := by simp at hb; omega
    have e : rd_T137 (pre ++ x :: r) (pre.length : Int) = x := getD_mid pre x r _
    simp only [impl_IsJobs.l0, lt_mid, le_nat, if_true, e, wrap_mid pre x hl, within_e, isDate_e, Option.bind_some, L_ite, L_const]
    rw [app_cons pre x r, ih (pre ++ [x]) (by simpa using hb)]
    simp only [ite_and, List.all_cons, jobB, Bool.and_assoc]
theorem IsJobs_L (l : List S137) (h : l.length < 4611686018427387904) : L (fun k => impl_IsJobs.f k l) = some (goodB l) := by
  have := IsJobs_l l [] (by simpa using h)
  simp only [List.nil_append, List.length_nil, Int.natCast_zero] at this
  simp only [impl_IsJobs.f, L_ite, L_const, this, goodB]
  by_cases h8 : (l.length : Int) ≤ 8
  · rw [if_neg (by omega)]
    simp [h8]
  · rw [if_pos (by omega)]
    simp [h8]
def jobAt (l : List S137) (x : Int) : S137 := l.getD x.toNat z137
theorem jobAt_mem {l : List S137} {x : Int} (h0 : 0 ≤ x) (h1 : x < l.length) : jobAt l x ∈ l := by
  unfold jobAt
  rw [List.getD_eq_getElem?_getD, List.getElem?_eq_getElem (by omega)]
  exact List.getElem_mem _
/-- The ends, put into out by the jobs' numbers. -/
def endsF (l : List S137) : List Int → List Int → Int → List Int
  | [], out, _ => out
  | x :: r, out, now => endsF l r (out.set x.toNat (max now (jobAt l x).f2 + (jobAt l x).f0)) (max now (jobAt l x).f2 + (jobAt l x).f0)
def startsF (l : List S137) : List Int → List Int → Int → List Int
  | [], out, _ => out
  | x :: r, out, now => startsF l r (out.set x.toNat (max now (jobAt l x).f2)) (max now (jobAt l x).f2 + (jobAt l x).f0)
def endsP (l : List S137) (o : List Int) : List Int := endsF l o (List.replicate l.length 0) 0
def startsP (l : List S137) (o : List Int) : List Int := startsF l o (List.replicate l.length 0) 0
theorem eqLog_e (D P : ByteArray) (c : Int) : laws_eqLog.f D P c D P c = some true := by
  simp only [laws_eqLog.f, if_true]
theorem rdTask {T a b : List S135} {x : S135} (h : T = a ++ x :: b) : rd_T135 T (a.length : Int) = x := by
  subst h
  exact getD_mid a x b _
def taskB (l : List S137) (m now : Int) (t : S135) : Bool := inB t.f0 0 (l.length - 1) && (inB t.f1 0 (m - 1) && (decide ((jobAt l t.f0).f2 ≤ t.f2) && decide (t.f2 ≤ now - 1)))
def clashB (l : List S137) (t u : S135) : Bool := decide (u.f0 = t.f0) || (decide (u.f1 = t.f1) && decide (u.f2 + (jobAt l u.f0).f0 > t.f2))
def aheadB (t p : S135) : Bool := decide (p.f2 > t.f2) || (decide (p.f2 = t.f2) && decide (p.f1 ≥ t.f1))
def lastB (pre : List S135) (t : S135) : Bool := match pre.getLast? with
  | none => false
  | some p => aheadB t p
def tasksB (l : List S137) (m now : Int) : List S135 → List S135 → Bool
  | _, [] => true
  | pre, t :: r => taskB l m now t && (!lastB pre t && (pre.all (fun u => !clashB l t u) && tasksB l m now (pre ++ [t]) r))
structure TaskOk (l : List S137) (m now : Int) (t : S135) : Prop where
  j0 : 0 ≤ t.f0
  j1 : t.f0 < l.length
  m0 : 0 ≤ t.f1
  m1 : t.f1 < m
  s0 : 0 ≤ t.f2
  s1 : t.f2 < now
theorem taskB_ok {l : List S137} {m now : Int} {t : S135} (hg : Good l) (h : taskB l m now t = true) : TaskOk l m now t := by
  simp only [taskB, Bool.and_eq_true, inB_iff, decide_eq_true_eq] at h
  obtain ⟨⟨a, b⟩, ⟨c, d⟩, e, f⟩ := h
  have hj := hg.2 _ (jobAt_mem (l := l) a (by omega))
  have := hj.r0
  exact ⟨a, by omega, c, by omega, by omega, by omega⟩
theorem end_wrap {l : List S137} {m now : Int} {t : S135} (hg : Good l) (hn : now ≤ 1000) (h : TaskOk l m now t) : wrap64 (t.f2 + (jobAt l t.f0).f0) = t.f2 + (jobAt l t.f0).f0 ∧ 1 ≤ (jobAt l t.f0).f0 ∧ (jobAt l t.f0).f0 ≤ 50 := by
  have hj := hg.2 _ (jobAt_mem h.j0 h.j1)
  have a0 := hj.t0
  have a1 := hj.t1
  have b0 := h.s0
  have b1 := h.s1
  exact ⟨wrap_id (by omega) (by omega), a0, a1⟩
theorem l3Job_e (l : List S137) (x : Int) (h : l.length ≤ 8) : spec_l3Job.f l x = some (inB x 0 (l.length - 1)) := by
  have e : wrap64 ((l.length : Int) - 1) = (l.length : Int) - 1 := wrap_id (by omega) (by omega)
  simp only [spec_l3Job.f, l1In_e, Option.bind_some, e]
theorem l12Tasks_in (l : List S137) (m pk now : Int) (hg : Good l) (hnow : now ≤ 1000) (T pre r : List S135) (t : S135) (hT : T = pre ++ t :: r) (hb : T.length ≤ 10000000) (hok : ∀ u ∈ pre, TaskOk l m now u) :
    ∀ (p2 p1 : List S135), pre = p1 ++ p2 → L (fun k => spec_l12Tasks.l1 k (pre.length : Int) (p1.length : Int) m pk now l T t.f0 t.f1 t.f2) = if p2.all (fun u => !clashB l t u) = true then L (fun k => spec_l12Tasks.l1 k (pre.length : Int) (pre.length : Int) m pk now l T t.f0 t.f1 t.f2) else some false := by
  intro p2
  induction p2 with
  | nil =>
    intro p1 h
    rw [List.append_nil] at h
    subst h
    simp
  | cons u p2 ih =>
    intro p1 h
    rw [L_shift]
    have hu := hok u (by rw [h]; simp)
    have ew := end_wrap hg hnow hu
    have hl : pre.length = p1.length + 1 + p2.length := by
      rw [h]
      simp
      omega
    have hTl : T.length = pre.length + 1 + r.length := by
      rw [hT]
      simp
      omega
    have e1 : rd_T135 T (p1.length : Int) = u := rdTask (b := p2 ++ t :: r) (by rw [hT, h]; simp)
    have e2 : rd_T137 l u.f0 = jobAt l u.f0 := rfl
    have e3 : wrap64 ((p1.length : Int) + 1) = ((p1 ++ [u]).length : Int) := wrap_mid p1 u (by omega)
    simp only [spec_l12Tasks.l1, if_pos (show (p1.length : Int) < (pre.length : Int) by omega), le_nat, if_true, if_pos (show (p1.length : Int) < (T.length : Int) by omega), e1, e2, e3, if_pos hu.j0, if_pos hu.j1, ew.1, L_ite, L_const]
    rw [ih (p1 ++ [u]) (by rw [h]; simp)]
    simp only [List.all_cons, clashB]
    by_cases c1 : u.f0 = t.f0
    · simp [c1]
    · by_cases c2 : u.f1 = t.f1
      · by_cases c3 : u.f2 + (jobAt l u.f0).f0 > t.f2
        · simp [c1, c2, c3]
        · simp [c1, c2, c3]
      · simp [c1, c2]
theorem l12Tasks_end (l : List S137) (m pk now : Int) (T pre r : List S135) (t : S135) (hT : T = pre ++ t :: r) (hb : T.length ≤ 10000000) :
    L (fun k => spec_l12Tasks.l1 k (pre.length : Int) (pre.length : Int) m pk now l T t.f0 t.f1 t.f2) = if lastB pre t = true then some false else L (fun k => spec_l12Tasks.l0 k ((pre ++ [t]).length : Int) m pk now l T) := by
  have hTl : T.length = pre.length + 1 + r.length := by
    rw [hT]
    simp
    omega
  have e3 : wrap64 ((pre.length : Int) + 1) = ((pre ++ [t]).length : Int) := wrap_mid pre t (by omega)
  rw [L_shift]
  rcases List.eq_nil_or_concat pre with h | ⟨q, p, h⟩
  · subst h
    simp only [spec_l12Tasks.l1, e3, lastB]
    simp
  · have hl : pre.length = q.length + 1 := by
      rw [h]
      simp
    have e4 : wrap64 ((pre.length : Int) - 1) = (q.length : Int) := by
      rw [wrap_id (by omega) (by omega)]
      omega
    have e1 : rd_T135 T (q.length : Int) = p := rdTask (b := t :: r) (by rw [hT, h]; simp)
    have e5 : lastB pre t = aheadB t p := by
      rw [h]
      simp [lastB]
    simp only [spec_l12Tasks.l1, if_neg (show ¬ (pre.length : Int) < (pre.length : Int) by omega), if_pos (show (pre.length : Int) > 0 by omega), e4, le_nat, if_true, if_pos (show (q.length : Int) < (T.length : Int) by omega), e1, e3, e5, aheadB, L_ite, L_const]
    by_cases c1 : p.f2 > t.f2
    · simp [c1]
    · by_cases c2 : p.f2 = t.f2
      · by_cases c3 : p.f1 ≥ t.f1
        · simp [c1, c2, c3]
        · simp [c1, c2, c3]
      · simp [c1, c2]
theorem l12Tasks_l (l : List S137) (m pk now : Int) (hg : Good l) (hm : 1 ≤ m ∧ m ≤ 4) (hnow : 0 ≤ now ∧ now ≤ 1000) (T : List S135) (hb : T.length ≤ 10000000) :
    ∀ (r pre : List S135), T = pre ++ r → (∀ u ∈ pre, TaskOk l m now u) → L (fun k => spec_l12Tasks.l0 k (pre.length : Int) m pk now l T) = some (tasksB l m now pre r) := by
  intro r
  induction r with
  | nil =>
    intro pre hT hok
    rw [List.append_nil] at hT
    subst hT
    rw [L_shift]
    simp only [spec_l12Tasks.l0, if_neg (show ¬ (T.length : Int) < (T.length : Int) by omega), L_const, tasksB]
  | cons t r ih =>
    intro pre hT hok
    have hTl : T.length = pre.length + 1 + r.length := by
      rw [hT]
      simp
      omega
    have e1 : rd_T135 T (pre.length : Int) = t := rdTask (b := r) hT
    have e2 : rd_T137 l t.f0 = jobAt l t.f0 := rfl
    have e6 : wrap64 (m - 1) = m - 1 := wrap_id (by omega) (by omega)
    have hj : ∀ b : Bool, L (fun k => spec_l12Tasks.j1 k (pre.length : Int) b m pk now l T t.f0 t.f1 t.f2) = if b = true then some false else L (fun k => spec_l12Tasks.l1 k (pre.length : Int) ((([] : List S135).length : Nat) : Int) m pk now l T t.f0 t.f1 t.f2) := by
      intro b
      rw [L_shift]
      simp only [spec_l12Tasks.j1, L_ite, L_const, List.length_nil]
      rfl
    have hin := l12Tasks_in l m pk now hg hnow.2 T pre r t hT hb hok pre [] rfl
    have hend := l12Tasks_end l m pk now T pre r t hT hb
    rw [L_shift]
    simp only [spec_l12Tasks.l0, if_pos (show (pre.length : Int) < (T.length : Int) by omega), le_nat, if_true, e1, e2, e6, l3Job_e l _ hg.1, l1In_e, Option.bind_some, L_ite, L_const, hj, hin, hend]
    rw [tasksB]
    by_cases c1 : inB t.f0 0 (l.length - 1) = true
    · have hi := inB_iff.1 c1
      by_cases c2 : inB t.f1 0 (m - 1) = true
      · by_cases c3 : t.f2 ≥ now
        · have : ¬ t.f2 ≤ now - 1 := by omega
          simp [taskB, c1, c2, c3, this]
        · have c3' : t.f2 ≤ now - 1 := by omega
          by_cases c4 : t.f2 < (jobAt l t.f0).f2
          · have : ¬ (jobAt l t.f0).f2 ≤ t.f2 := by omega
            simp [taskB, c1, c2, c3, c4, c3', this, hi.1, show t.f0 < (l.length : Int) by omega]
          · have c4' : (jobAt l t.f0).f2 ≤ t.f2 := by omega
            have ht : taskB l m now t = true := by simp [taskB, c1, c2, c3', c4']
            have hi2 := ih (pre ++ [t]) (by rw [hT]; simp) (fun u hu => by
              rcases List.mem_append.1 hu with h | h
              · exact hok u h
              · rw [List.mem_singleton.1 h]
                exact taskB_ok hg ht)
            rw [if_pos c1, if_pos c2, if_neg c3, if_pos hi.1, if_pos (by omega), decide_eq_false c4, if_neg (by simp), hi2, ht]
            cases pre.all (fun u => !clashB l t u) <;> cases lastB pre t <;> simp
      · simp [taskB, c1, c2]
    · simp [taskB, c1]
def dispB (m pk now : Int) (l : List S137) (T : List S135) : Bool := inB m 1 4 && (inB pk 1 4 && (inB now 0 1000 && (goodB l && tasksB l m now [] T)))
theorem l12Good_L (m pk now : Int) (l : List S137) (T : List S135) (hl : l.length ≤ 1048576) (hT : T.length ≤ 1048576) : L (fun k => spec_l12Good.f k m pk now l T) = some (dispB m pk now l T) := by
  simp only [spec_l12Good.f, l1In_e, Option.bind_some, L_bind, L_ite, L_const, l2Good_L l (by omega), bind_self, dispB]
  cases h1 : inB m 1 4 with
  | false => simp
  | true =>
    cases h2 : inB pk 1 4 with
    | false => simp
    | true =>
      cases h3 : inB now 0 1000 with
      | false => simp
      | true =>
        cases h4 : goodB l with
        | false => simp
        | true =>
          have := l12Tasks_l l m pk now (goodB_iff.1 h4) (inB_iff.1 h1) (inB_iff.1 h3) T (by omega) T [] rfl (fun u hu => by cases hu)
          simp only [spec_l12Tasks.f, if_true, Bool.true_and]
          exact this
theorem isNumber_w (x n : Int) (h0 : 0 ≤ n) (h1 : n ≤ 1000) : impl_isNumber.f x n = some (inB x 0 (n - 1)) := by
  have e : wrap64 (n - 1) = n - 1 := wrap_id (by omega) (by omega)
  simp only [impl_isNumber.f, within_e, Option.bind_some, e]
theorem IsDisp_in (l : List S137) (m pk now : Int) (hg : Good l) (hnow : now ≤ 1000) (T : List S135) (n x : Int) (pre : List S135) (t : S135) (hb : pre.length ≤ 10000000) (hok : ∀ u ∈ pre, TaskOk l m now u) :
    ∀ (p2 p1 : List S135), pre = p1 ++ p2 → L (fun k => impl_IsDispatcher.l1 k T n x pre (pre.length : Int) (p1.length : Int) m pk now l T t.f0 t.f1 t.f2) = if p2.all (fun u => !clashB l t u) = true then L (fun k => impl_IsDispatcher.l0 k T n (wrap64 (x + 1)) m pk now l T) else some false := by
  intro p2
  induction p2 with
  | nil =>
    intro p1 h
    rw [List.append_nil] at h
    subst h
    rw [L_shift]
    simp only [impl_IsDispatcher.l1, if_neg (show ¬ (pre.length : Int) < (pre.length : Int) by omega)]
    simp
  | cons u p2 ih =>
    intro p1 h
    rw [L_shift]
    have hu := hok u (by rw [h]; simp)
    have ew := end_wrap hg hnow hu
    have hl : pre.length = p1.length + 1 + p2.length := by
      rw [h]
      simp
      omega
    have e1 : rd_T135 pre (p1.length : Int) = u := rdTask (b := p2) h
    have e2 : rd_T137 l u.f0 = jobAt l u.f0 := rfl
    have e3 : wrap64 ((p1.length : Int) + 1) = ((p1 ++ [u]).length : Int) := wrap_mid p1 u (by omega)
    simp only [impl_IsDispatcher.l1, impl_Dispatcher_endOf.f, if_pos (show (p1.length : Int) < (pre.length : Int) by omega), le_nat, if_true, e1, e2, e3, if_pos hu.j0, if_pos hu.j1, ew.1, L_ite, L_const, Option.bind_some]
    rw [ih (p1 ++ [u]) (by rw [h]; simp)]
    simp only [List.all_cons, clashB]
    by_cases c1 : u.f0 = t.f0
    · simp [c1]
    · by_cases c2 : u.f1 = t.f1
      · by_cases c3 : u.f2 + (jobAt l u.f0).f0 > t.f2
        · simp [c1, c2, c3]
        · simp [c1, c2, c3]
      · simp [c1, c2]
theorem IsDisp_l (l : List S137) (m pk now : Int) (hg : Good l) (hm : 1 ≤ m ∧ m ≤ 4) (hnow : 0 ≤ now ∧ now ≤ 1000) (T : List S135) (hb : T.length ≤ 10000000) :
    ∀ (r pre : List S135), T = pre ++ r → (∀ u ∈ pre, TaskOk l m now u) → L (fun k => impl_IsDispatcher.l0 k T (T.length : Int) (pre.length : Int) m pk now l T) = some (tasksB l m now pre r) := by
  intro r
  induction r with
  | nil =>
    intro pre hT hok
    rw [List.append_nil] at hT
    subst hT
    rw [L_shift]
    simp only [impl_IsDispatcher.l0, if_neg (show ¬ (T.length : Int) < (T.length : Int) by omega), L_const, tasksB]
  | cons t r ih =>
    intro pre hT hok
    have hTl : T.length = pre.length + 1 + r.length := by
      rw [hT]
      simp
      omega
    have e1 : rd_T135 T (pre.length : Int) = t := rdTask (b := r) hT
    have e2 : rd_T137 l t.f0 = jobAt l t.f0 := rfl
    have e6 : wrap64 (now - 1) = now - 1 := wrap_id (by omega) (by omega)
    have e3 : wrap64 ((pre.length : Int) + 1) = ((pre ++ [t]).length : Int) := wrap_mid pre t (by omega)
    have et : T.take (pre.length : Int).toNat = pre := by
      rw [hT]
      simp
    have hin := IsDisp_in l m pk now hg hnow.2 T (T.length : Int) (pre.length : Int) pre t (by omega) hok pre [] rfl
    simp only [List.length_nil, Int.natCast_zero] at hin
    have h3 : ∀ b : Bool, L (fun k => impl_IsDispatcher.j3 k (pre.length : Int) T (T.length : Int) (pre.length : Int) b m pk now l T t.f0 t.f1 t.f2) = if b = true then some false else (if pre.all (fun u => !clashB l t u) = true then L (fun k => impl_IsDispatcher.l0 k T (T.length : Int) ((pre ++ [t]).length : Int) m pk now l T) else some false) := by
      intro b
      rw [L_shift]
      simp only [impl_IsDispatcher.j3, L_ite, L_const, le_nat, if_true, if_pos (show (pre.length : Int) ≤ (T.length : Int) by omega), Option.bind_some, et, hin, e3]
    have h2 : L (fun k => impl_IsDispatcher.j2 k (pre.length : Int) T (T.length : Int) (pre.length : Int) false m pk now l T t.f0 t.f1 t.f2) = if lastB pre t = true then some false else (if pre.all (fun u => !clashB l t u) = true then L (fun k => impl_IsDispatcher.l0 k T (T.length : Int) ((pre ++ [t]).length : Int) m pk now l T) else some false) := by
      rw [L_shift]
      rcases List.eq_nil_or_concat pre with h | ⟨q, p, h⟩
      · have h0 : pre.length = 0 := by
          rw [h]
          rfl
        have hlb : lastB pre t = false := by
          rw [h]
          rfl
        simp only [impl_IsDispatcher.j2, Bool.false_eq_true, if_false, if_neg (show ¬ (pre.length : Int) > 0 by omega), h3, hlb]
      · have hl : pre.length = q.length + 1 := by
          rw [h]
          simp
        have e4 : wrap64 ((pre.length : Int) - 1) = (q.length : Int) := by
          rw [wrap_id (by omega) (by omega)]
          omega
        have e5 : rd_T135 T (q.length : Int) = p := rdTask (b := t :: r) (by rw [hT, h]; simp)
        have e7 : lastB pre t = aheadB t p := by
          rw [h]
          simp [lastB]
        simp only [impl_IsDispatcher.j2, Bool.false_eq_true, if_false, if_pos (show (pre.length : Int) > 0 by omega), e4, le_nat, if_true, if_pos (show (q.length : Int) < (T.length : Int) by omega), e5, L_ite, h3, e7, aheadB]
        by_cases c1 : p.f2 > t.f2
        · simp [c1]
        · by_cases c2 : p.f2 = t.f2
          · by_cases c3 : p.f1 ≥ t.f1
            · simp [c1, c2, c3]
            · simp [c1, c2, c3]
          · simp [c1, c2]
    have h2t : L (fun k => impl_IsDispatcher.j2 k (pre.length : Int) T (T.length : Int) (pre.length : Int) true m pk now l T t.f0 t.f1 t.f2) = some false := by
      rw [L_shift]
      simp only [impl_IsDispatcher.j2, if_true, L_const]
    rw [L_shift]
    have h8 := hg.1
    simp only [impl_IsDispatcher.l0, if_pos (show (pre.length : Int) < (T.length : Int) by omega), le_nat, if_true, e1, e2, e6, isNumber_w _ _ (show (0 : Int) ≤ (l.length : Int) by omega) (by omega), isNumber_w _ m (by omega) (by omega), within_e, Option.bind_some, L_ite, h2t]
    rw [tasksB]
    by_cases c1 : inB t.f0 0 (l.length - 1) = true
    · have hi := inB_iff.1 c1
      by_cases c2 : inB t.f1 0 (m - 1) = true
      · rw [if_pos c1, if_pos c2, if_pos hi.1, if_pos (by omega)]
        have hwi : inB t.f2 (jobAt l t.f0).f2 (now - 1) = (decide ((jobAt l t.f0).f2 ≤ t.f2) && decide (t.f2 ≤ now - 1)) := rfl
        cases c3 : inB t.f2 (jobAt l t.f0).f2 (now - 1) with
        | false =>
          rw [c3] at hwi
          simp only [Bool.not_false, h2t, taskB, c1, c2, ← hwi]
          simp
        | true =>
          rw [c3] at hwi
          have ht : taskB l m now t = true := by
            simp only [taskB, c1, c2, ← hwi]
            rfl
          have hi2 := ih (pre ++ [t]) (by rw [hT]; simp) (fun u hu => by
            rcases List.mem_append.1 hu with h | h
            · exact hok u h
            · rw [List.mem_singleton.1 h]
              exact taskB_ok hg ht)
          simp only [Bool.not_true, h2, hi2, ht]
          cases pre.all (fun u => !clashB l t u) <;> cases lastB pre t <;> simp
      · simp [taskB, c1, c2]
    · simp [taskB, c1]
theorem IsDispatcher_L (m pk now : Int) (l : List S137) (T : List S135) (hl : l.length ≤ 1048576) (hT : T.length ≤ 1048576) : L (fun k => impl_IsDispatcher.f k m pk now l T) = some (dispB m pk now l T) := by
  have hj : ∀ b : Bool, L (fun k => impl_IsDispatcher.j0 k b m pk now l T) = if b = true then some false else L (fun k => impl_IsDispatcher.l0 k T (T.length : Int) 0 m pk now l T) := by
    intro b
    rw [L_shift]
    simp only [impl_IsDispatcher.j0, L_ite, L_const]
  simp only [impl_IsDispatcher.f, within_e, Option.bind_some, L_bind, L_ite, IsJobs_L l (by omega), hj, dispB]
  cases h1 : inB m 1 4 with
  | false => simp
  | true =>
    cases h2 : inB pk 1 4 with
    | false => simp
    | true =>
      cases h3 : inB now 0 1000 with
      | false => simp
      | true =>
        cases h4 : goodB l with
        | false => simp
        | true =>
          have := IsDisp_l l m pk now (goodB_iff.1 h4) (inB_iff.1 h1) (inB_iff.1 h3) T (by omega) T [] rfl (fun u hu => by cases hu)
          simp only [if_true, Bool.true_and, Bool.not_true, Bool.false_eq_true, if_false]
          exact this
def toTaskP (x : S150) : S135 := ⟨x.f0, x.f1, x.f2⟩
theorem toTaskS_l (r : List S150) : ∀ pre : List S150, (pre ++ r).length < 4611686018427387904 → L (fun k => laws_toTaskS.l0 k (pre ++ r) (pre.map toTaskP ++ List.replicate r.length z135) (pre.length : Int)) = some ((pre ++ r).map toTaskP) := by
  induction r with
  | nil =>
    intro pre hb
    rw [L_shift]
    simp only [laws_toTaskS.l0, not_lt_end, if_false, L_const, List.length_nil, List.replicate_zero]
    simp
  | cons x r ih =>
    intro pre hb
    rw [L_shift]
    have hl : pre.length < 4611686018427387904 := by simp at hb; omega
    have e : rd_T150 (pre ++ x :: r) (pre.length : Int) = x := getD_mid pre x r _
    have e2 : ((pre.length : Int) < ((pre.map toTaskP ++ z135 :: List.replicate r.length z135).length : Int)) = True := by
      simp only [List.length_append, List.length_cons, List.length_map]
      exact eq_true (by omega)
    simp only [laws_toTaskS.l0, laws_toTask.f, lt_mid, le_nat, if_true, rep_succ, e, e2, wrap_mid pre x hl, Option.bind_some, set_mid (pre.map toTaskP) _ _ _ pre (by simp)]
    have := ih (pre ++ [x]) (by simpa using hb)
    simpa [toTaskP] using this
theorem toTaskS_L (l : List S150) (h : l.length ≤ 1048576) : L (fun k => laws_toTaskS.f k l) = some (l.map toTaskP) := by
  simp only [laws_toTaskS.f, le_nat, if_true, Int.toNat_natCast, if_pos (show l.length ≤ 11728124029610 by omega)]
  exact toTaskS_l l [] (by simp; omega)
theorem eqTaskS_l (r : List S135) : ∀ pre : List S135, (pre ++ r).length < 4611686018427387904 → L (fun k => laws_eqTaskS.l0 k (pre ++ r) (pre ++ r) (pre.length : Int)) = some true := by
  induction r with
  | nil =>
    intro pre hb
    rw [L_shift]
    simp only [laws_eqTaskS.l0, not_lt_end, if_false, L_const]
  | cons x r ih =>
    intro pre hb
    rw [L_shift]
    have hl : pre.length < 4611686018427387904 := by simp at hb; omega
    simp only [laws_eqTaskS.l0, laws_eqTask.f, lt_mid, le_nat, if_true, wrap_mid pre x hl, Option.bind_some]
    rw [app_cons pre x r]
    exact ih (pre ++ [x]) (by simpa using hb)
theorem eqTaskS_L (l : List S135) (h : l.length ≤ 1048576) : L (fun k => laws_eqTaskS.f k l l) = some true := by
  simp only [laws_eqTaskS.f, if_true]
  exact eqTaskS_l l [] (by simp; omega)
def countT : Int → List S135 → List S135
  | _, [] => []
  | v, _ :: r => ⟨v, v + 1, v + 1 + 1⟩ :: countT (v + 1 + 1 + 1) r
theorem markTaskS_l (r : List S135) : ∀ (pre : List S135) (v : Int), (pre ++ r).length < 4611686018427387904 → 0 ≤ v → v + 3 * r.length < 9223372036854775807 → L (fun k => laws_markTaskS.l0 k (pre ++ r) v (pre.length : Int)) = some (v + 3 * r.length, pre ++ countT v r) := by
  induction r with
  | nil =>
    intro pre v hb h0 h1
    rw [L_shift]
    simp only [laws_markTaskS.l0, not_lt_end, if_false, L_const]
    simp [countT]
  | cons x r ih =>
    intro pre v hb h0 h1
    rw [L_shift]
    have hl : pre.length < 4611686018427387904 := by simp at hb; omega
    simp only [List.length_cons] at h1
    have e : ∀ y, rd_T135 (pre ++ y :: r) (pre.length : Int) = y := fun y => getD_mid pre y r _
    have es : ∀ y z, (pre ++ y :: r).set (pre.length : Int).toNat z = pre ++ z :: r := fun y z => set_mid pre y z r pre rfl
    simp only [laws_markTaskS.l0, lt_mid, le_nat, if_true, Option.bind_some, e, es, wrap_mid pre x hl, wrap_id (show -9223372036854775808 ≤ v + 1 by omega) (show v + 1 ≤ 9223372036854775807 by omega), wrap_id (show -9223372036854775808 ≤ v + 1 + 1 by omega) (show v + 1 + 1 ≤ 9223372036854775807 by omega), wrap_id (show -9223372036854775808 ≤ v + 1 + 1 + 1 by omega) (show v + 1 + 1 + 1 ≤ 9223372036854775807 by omega)]
    have := ih (pre ++ [⟨v, v + 1, v + 1 + 1⟩]) (v + 1 + 1 + 1) (by simpa using hb) (by omega) (by omega)
    simp only [List.append_assoc, List.cons_append, List.nil_append, List.length_append, List.length_cons, List.length_nil] at this ⊢
    rw [this]
    simp only [countT, Option.some.injEq, Prod.mk.injEq]
    exact ⟨by omega, by first | rfl | trivial⟩
theorem markTaskS_L (l : List S135) (v : Int) (h : l.length ≤ 1048576) (h0 : 0 ≤ v) (h1 : v ≤ 1000000000) : L (fun k => laws_markTaskS.f k l v) = some (v + 3 * l.length, countT v l) := by
  have := markTaskS_l l [] v (by simp; omega) h0 (by omega)
  simpa [laws_markTaskS.f] using this
theorem heldTaskS_l (r : List S135) : ∀ (pre : List S135) (v : Int), (pre.length + r.length) < 4611686018427387904 → 0 ≤ v → v + 3 * r.length < 9223372036854775807 → L (fun k => laws_heldTaskS.l0 k (pre ++ countT v r) v (pre.length : Int)) = some (v + 3 * r.length) := by
  induction r with
  | nil =>
    intro pre v hb h0 h1
    rw [L_shift]
    simp only [laws_heldTaskS.l0, countT, not_lt_end, if_false, L_const]
    simp
  | cons x r ih =>
    intro pre v hb h0 h1
    rw [L_shift]
    simp only [List.length_cons] at h1 hb
    have hl : pre.length < 4611686018427387904 := by omega
    have e : rd_T135 (pre ++ countT v (x :: r)) (pre.length : Int) = ⟨v, v + 1, v + 1 + 1⟩ := getD_mid pre _ _ _
    simp only [laws_heldTaskS.l0, e]
    simp only [countT, lt_mid, le_nat, if_true, wrap_mid pre x hl, wrap_id (show -9223372036854775808 ≤ v + 1 by omega) (show v + 1 ≤ 9223372036854775807 by omega), wrap_id (show -9223372036854775808 ≤ v + 1 + 1 by omega) (show v + 1 + 1 ≤ 9223372036854775807 by omega), wrap_id (show -9223372036854775808 ≤ v + 1 + 1 + 1 by omega) (show v + 1 + 1 + 1 ≤ 9223372036854775807 by omega)]
    have := ih (pre ++ [⟨v, v + 1, v + 1 + 1⟩]) (v + 1 + 1 + 1) (by simp; omega) (by omega) (by omega)
    simp only [List.append_assoc, List.cons_append, List.nil_append, List.length_append, List.length_cons, List.length_nil] at this ⊢
    rw [this]
    simp only [Option.some.injEq]
    omega
theorem heldTaskS_L (l : List S135) (v : Int) (h : l.length ≤ 1048576) (h0 : 0 ≤ v) (h1 : v ≤ 1000000000) : L (fun k => laws_heldTaskS.f k (countT v l) v) = some (v + 3 * l.length) := by
  have := heldTaskS_l l [] v (by simp; omega) h0 (by omega)
  simpa [laws_heldTaskS.f] using this
theorem heldJobS_l (r : List S137) : ∀ (pre : List S137) (v : Int), (pre.length + r.length) < 4611686018427387904 → 0 ≤ v → v + 4 * r.length < 9223372036854775807 → L (fun k => laws_heldJobS.l0 k (pre ++ countJ v r) v (pre.length : Int)) = some (v + 4 * r.length) := by
  induction r with
  | nil =>
    intro pre v hb h0 h1
    rw [L_shift]
    simp only [laws_heldJobS.l0, countJ, not_lt_end, if_false, L_const]
    simp
  | cons x r ih =>
    intro pre v hb h0 h1
    rw [L_shift]
    simp only [List.length_cons] at h1 hb
    have hl : pre.length < 4611686018427387904 := by omega
    have e : rd_T137 (pre ++ countJ v (x :: r)) (pre.length : Int) = ⟨v, v + 1, v + 1 + 1, v + 1 + 1 + 1⟩ := getD_mid pre _ _ _
    simp only [laws_heldJobS.l0, e]
    simp only [countJ, lt_mid, le_nat, if_true, wrap_mid pre x hl, wrap_id (show -9223372036854775808 ≤ v + 1 by omega) (show v + 1 ≤ 9223372036854775807 by omega), wrap_id (show -9223372036854775808 ≤ v + 1 + 1 by omega) (show v + 1 + 1 ≤ 9223372036854775807 by omega), wrap_id (show -9223372036854775808 ≤ v + 1 + 1 + 1 by omega) (show v + 1 + 1 + 1 ≤ 9223372036854775807 by omega), wrap_id (show -9223372036854775808 ≤ v + 1 + 1 + 1 + 1 by omega) (show v + 1 + 1 + 1 + 1 ≤ 9223372036854775807 by omega)]
    have := ih (pre ++ [⟨v, v + 1, v + 1 + 1, v + 1 + 1 + 1⟩]) (v + 1 + 1 + 1 + 1) (by simp; omega) (by omega) (by omega)
    simp only [List.append_assoc, List.cons_append, List.nil_append, List.length_append, List.length_cons, List.length_nil] at this ⊢
    rw [this]
    simp only [Option.some.injEq]
    omega
theorem heldJobS_L (l : List S137) (v : Int) (h : l.length ≤ 1048576) (h0 : 0 ≤ v) (h1 : v ≤ 1000000000) : L (fun k => laws_heldJobS.f k (countJ v l) v) = some (v + 4 * l.length) := by
  have := heldJobS_l l [] v (by simp; omega) h0 (by omega)
  simpa [laws_heldJobS.f] using this
theorem eqDispatcher_L (a b c : Int) (l : List S137) (T : List S135) (hl : l.length ≤ 1048576) (hT : T.length ≤ 1048576) : L (fun k => laws_eqDispatcher.f k a b c l T a b c l T) = some true := by
  simp only [laws_eqDispatcher.f, if_true, L_bind, eqJobS_L l hl, eqTaskS_L T hT, bindS, L_const]
theorem markDispatcher_L (a b c : Int) (l : List S137) (T : List S135) (hl : l.length ≤ 1048576) (hT : T.length ≤ 1048576) : L (fun k => laws_markDispatcher.f k a b c l T 1) = some (1 + 4 * (l.length : Int) + 3 * (T.length : Int), countJ 1 l, countT (1 + 4 * (l.length : Int)) T) := by
  simp only [laws_markDispatcher.f, L_bind, markJobS_L l 1 hl (by omega) (by omega), markTaskS_L T (1 + 4 * l.length) hT (by omega) (by omega), bindS, L_const]
theorem heldDispatcher_L (a b c : Int) (l : List S137) (T : List S135) (hl : l.length ≤ 1048576) (hT : T.length ≤ 1048576) : L (fun k => laws_heldDispatcher.f k a b c (countJ 1 l) (countT (1 + 4 * (l.length : Int)) T) 1) = some (1 + 4 * (l.length : Int) + 3 * (T.length : Int)) := by
  simp only [laws_heldDispatcher.f, L_bind, heldJobS_L l 1 hl (by omega) (by omega), heldTaskS_L T (1 + 4 * l.length) hT (by omega) (by omega), bindS, L_const, if_neg (show ¬ (1 + 4 * (l.length : Int)) < 0 by omega), if_neg (show ¬ (1 + 4 * (l.length : Int) + 3 * (T.length : Int)) < 0 by omega)]
theorem szDispatcher_e (a b c : Int) (l : List S148) (T : List S150) (hl : l.length ≤ 9223372036854775807) (hT : T.length ≤ 9223372036854775807) :
    laws_szDispatcher.f a b c l T 1048576 = if l.length + T.length ≤ 1048576 then some (1048576 - (l.length : Int) - (T.length : Int)) else some (-1) := by
  simp only [laws_szDispatcher.f, szJobS_e l hl]
  by_cases h1 : l.length ≤ 1048576
  · rw [if_pos h1, bindS, if_neg (by omega)]
    have e : wrap64 (1048576 - (l.length : Int) - (T.length : Int)) = 1048576 - (l.length : Int) - (T.length : Int) := wrap_id (by omega) (by omega)
    simp only [laws_szTaskS.f, e]
    by_cases h2 : l.length + T.length ≤ 1048576
    · rw [if_neg (by omega), bindS, if_neg (by omega), if_pos h2]
    · rw [if_pos (by omega), bindS, if_pos (by omega), if_neg h2]
  · rw [if_neg h1, bindS, if_pos (by omega), if_neg (by omega)]
theorem toDispatcher_L (a b c : Int) (l : List S148) (T : List S150) (hl : l.length ≤ 1048576) (hT : T.length ≤ 1048576) : L (fun k => laws_toDispatcher.f k a b c l T) = some (a, b, c, l.map toJobP, T.map toTaskP) := by
  simp only [laws_toDispatcher.f, L_bind, toJobS_L l hl, toTaskS_L T hT, bindS, L_const]
theorem eqConsole_L (a b c : Int) (l : List S137) (T : List S135) (D P : ByteArray) (n : Int) (hl : l.length ≤ 1048576) (hT : T.length ≤ 1048576) : L (fun k => laws_eqConsole.f k a b c l T D P n a b c l T D P n) = some true := by
  simp only [laws_eqConsole.f, L_bind, eqDispatcher_L a b c l T hl hT, bindS, if_true, eqLog_e, L_const]
theorem markConsole_L (a b c : Int) (l : List S137) (T : List S135) (D P : ByteArray) (n : Int) (hl : l.length ≤ 1048576) (hT : T.length ≤ 1048576) : L (fun k => laws_markConsole.f k a b c l T D P n 1) = some (1 + 4 * (l.length : Int) + 3 * (T.length : Int), countJ 1 l, countT (1 + 4 * (l.length : Int)) T) := by
  simp only [laws_markConsole.f, L_bind, markDispatcher_L a b c l T hl hT, bindS, L_const]
theorem heldConsole_L (a b c : Int) (l : List S137) (T : List S135) (D P : ByteArray) (n : Int) (hl : l.length ≤ 1048576) (hT : T.length ≤ 1048576) : L (fun k => laws_heldConsole.f k a b c (countJ 1 l) (countT (1 + 4 * (l.length : Int)) T) D P n 1) = some (1 + 4 * (l.length : Int) + 3 * (T.length : Int)) := by
  simp only [laws_heldConsole.f, L_bind, heldDispatcher_L a b c l T hl hT, bindS, L_const, if_neg (show ¬ (1 + 4 * (l.length : Int) + 3 * (T.length : Int)) < 0 by omega)]

theorem NewCons_both (m pk now : Int) (l : List S137) (T : List S135) (hl : l.length ≤ 1048576) (hT : T.length ≤ 1048576) : ∃ (a b c : Int) (l2 : List S137) (T2 : List S135) (D P : ByteArray) (n : Int) (ok : Bool), L (fun k => spec_NewConsole.f k m pk now l T) = some (a, b, c, l2, T2, D, P, n, ok) ∧ L (fun k => impl_NewConsole.f k m pk now l T) = some (a, b, c, l2, T2, D, P, n, ok) ∧ l2.length ≤ 1048576 ∧ T2.length ≤ 1048576 := by
  have h1 := l12Good_L m pk now l T hl hT
  have h2 := IsDispatcher_L m pk now l T hl hT
  have o1 : spec_l12Own.f m pk now l T = some (m, pk, now, l, T) := by
    simp only [spec_l12Own.f, bindS, List.length_nil, List.nil_append, if_pos (show 0 + l.length < 4398046511104 by omega), if_pos (show 0 + T.length < 5864062014805 by omega)]
  have o2 : impl_Dispatcher_own.f m pk now l T = some (m, pk, now, l, T) := by
    simp only [impl_Dispatcher_own.f, bindS, List.length_nil, List.nil_append, if_pos (show 0 + l.length < 4398046511104 by omega), if_pos (show 0 + T.length < 5864062014805 by omega)]
  cases hb : dispB m pk now l T with
  | false =>
    rw [hb] at h1 h2
    refine ⟨0, 0, 0, [], [], ⟨#[]⟩, ⟨#[]⟩, 0, false, ?_, ?_, by simp, by simp⟩
    · simp only [spec_NewConsole.f, L_bind, h1, bindS, Bool.false_eq_true, if_false, L_const]
    · simp only [impl_NewConsole.f, L_bind, h2, bindS, Bool.false_eq_true, if_false, L_const]
  | true =>
    rw [hb] at h1 h2
    refine ⟨m, pk, now, l, T, ⟨#[]⟩, ⟨#[]⟩, 0, true, ?_, ?_, hl, hT⟩
    · simp only [spec_NewConsole.f, L_bind, h1, bindS, if_true, o1, L_const]
    · simp only [impl_NewConsole.f, L_bind, h2, bindS, if_true, o2, L_const]
theorem FnExactNewConsole : laws_FnExactNewConsole.Pure := by
  intro a b c l T _ _ _ h1 h2
  replace h1 := h1.1
  replace h2 := h2.1
  have e1 : maxLen = 9223372036854775807 := rfl
  refine rounds_of_L ?_
  simp only [laws_FnExactNewConsole.f, szDispatcher_e a b c l T (by omega) (by omega)]
  by_cases hs : l.length + T.length ≤ 1048576
  · have q9 : ¬ (1048576 - (l.length : Int) - (T.length : Int)) < 0 := by omega
    have ht := toDispatcher_L a b c l T (by omega) (by omega)
    have hl2 : (l.map toJobP).length ≤ 1048576 := by rw [List.length_map]; omega
    have hT2 : (T.map toTaskP).length ≤ 1048576 := by rw [List.length_map]; omega
    obtain ⟨x, y, z, l3, T3, D, P, n, ok, hsp, him, hl3, hT3⟩ := NewCons_both a b c (l.map toJobP) (T.map toTaskP) hl2 hT2
    have he := eqDispatcher_L a b c (l.map toJobP) (T.map toTaskP) hl2 hT2
    have hm := markDispatcher_L a b c (l.map toJobP) (T.map toTaskP) hl2 hT2
    have hq := eqConsole_L x y z l3 T3 D P n hl3 hT3
    have hmc := markConsole_L x y z l3 T3 D P n hl3 hT3
    have hhc := heldConsole_L x y z l3 T3 D P n hl3 hT3
    simp only [if_pos hs, bindS, if_neg q9, L_bind, ht, hsp, him, hq, if_true, bne_self_eq_false]
    rw [L_shift]
    simp only [laws_FnExactNewConsole.j0, Bool.false_eq_true, if_false, L_bind, ht, bindS, he, if_true, hm, L_ite, if_neg (show ¬ (1 + 4 * ((l.map toJobP).length : Int) + 3 * ((T.map toTaskP).length : Int)) < 0 by omega), hq, bne_self_eq_false]
    rw [L_shift]
    simp only [laws_FnExactNewConsole.j1, Bool.false_eq_true, if_false, L_bind, hmc, bindS, hhc, ht, him, hq, if_true, bne_self_eq_false, if_neg (show ¬ (1 + 4 * (l3.length : Int) + 3 * (T3.length : Int)) < 0 by omega)]
    rw [L_shift]
    simp only [laws_FnExactNewConsole.j2, Bool.false_eq_true, if_false, L_bind, hhc, bindS, if_true, L_const, if_neg (show ¬ (1 + 4 * (l3.length : Int) + 3 * (T3.length : Int)) < 0 by omega)]
  · simp only [if_neg hs, bindS, if_pos (show (-1 : Int) < 0 by decide), L_const]

end Go.Proofs.Ytafdeppeacmpdaa.Pure
