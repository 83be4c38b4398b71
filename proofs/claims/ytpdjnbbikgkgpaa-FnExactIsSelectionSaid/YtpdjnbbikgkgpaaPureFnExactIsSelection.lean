/- The program's IsSelection answers what the reference's answers, for all job shops and orders of the machines. -/
import Derived.Test.YtpdjnbbikgkgpaaXSFnExactIsSelection
import Derived.Test.YtpdjnbbikgkgpaaXLim
namespace Go.Proofs.Ytpdjnbbikgkgpaa.Pure
open Go.RowKit Go.Proofs.YtpdjnbbikgkgpaaW.PrintWords Go.Proofs.YtpdjnbbikgkgpaaW.PrintLast Go.Proofs.YtpdjnbbikgkgpaaW.PrintMore Go.Proofs.Ytpdjnbbikgkgpaa.X Go.Proofs.Ytpdjnbbikgkgpaa.XRow Go.Proofs.Ytpdjnbbikgkgpaa.XLim
set_option linter.unusedVariables false
set_option linter.unusedSimpArgs false
instance : ∀ a0 a1, Mono (fun k => impl_IsJobShop.f k a0 a1) := fun a0 a1 => ⟨⟨impl_IsJobShop.mono a0 a1⟩⟩
instance : ∀ a0 a1 a2, Mono (fun k => impl_IsSelection.f k a0 a1 a2) := fun a0 a1 a2 => ⟨⟨impl_IsSelection.mono a0 a1 a2⟩⟩
instance : ∀ a0 a1, Mono (fun k => impl_areDifferent.f k a0 a1) := fun a0 a1 => ⟨⟨impl_areDifferent.mono a0 a1⟩⟩
instance : ∀ a0 a1, Mono (fun k => impl_compareLists.f k a0 a1) := fun a0 a1 => ⟨⟨impl_compareLists.mono a0 a1⟩⟩
instance : ∀ a0 a1, Mono (fun k => impl_flatOf.f k a0 a1) := fun a0 a1 => ⟨⟨impl_flatOf.mono a0 a1⟩⟩
instance : ∀ a0 a1 a2 a3, Mono (fun k => impl_flat_on.f k a0 a1 a2 a3) := fun a0 a1 a2 a3 => ⟨⟨impl_flat_on.mono a0 a1 a2 a3⟩⟩
instance : ∀ a0 a1, Mono (fun k => impl_has.f k a0 a1) := fun a0 a1 => ⟨⟨impl_has.mono a0 a1⟩⟩
instance : ∀ a0 a1 a2, Mono (fun k => impl_isSelection.f k a0 a1 a2) := fun a0 a1 a2 => ⟨⟨impl_isSelection.mono a0 a1 a2⟩⟩
instance : ∀ a0 a1 a2, Mono (fun k => laws_FnExactIsSelection.f k a0 a1 a2) := fun a0 a1 a2 => ⟨⟨laws_FnExactIsSelection.mono a0 a1 a2⟩⟩
instance : ∀ a0 a1, Mono (fun k => laws_eqIntS.f k a0 a1) := fun a0 a1 => ⟨⟨laws_eqIntS.mono a0 a1⟩⟩
instance : ∀ a0 a1, Mono (fun k => laws_eqIntSS.f k a0 a1) := fun a0 a1 => ⟨⟨laws_eqIntSS.mono a0 a1⟩⟩
instance : ∀ a0 a1 a2 a3, Mono (fun k => laws_eqJobShop.f k a0 a1 a2 a3) := fun a0 a1 a2 a3 => ⟨⟨laws_eqJobShop.mono a0 a1 a2 a3⟩⟩
instance : ∀ a0 a1, Mono (fun k => laws_eqOpS.f k a0 a1) := fun a0 a1 => ⟨⟨laws_eqOpS.mono a0 a1⟩⟩
instance : ∀ a0 a1, Mono (fun k => laws_eqOpSS.f k a0 a1) := fun a0 a1 => ⟨⟨laws_eqOpSS.mono a0 a1⟩⟩
instance : ∀ a0 a1, Mono (fun k => laws_szIntSS.f k a0 a1) := fun a0 a1 => ⟨⟨laws_szIntSS.mono a0 a1⟩⟩
instance : ∀ a0 a1 a2, Mono (fun k => laws_szJobShop.f k a0 a1 a2) := fun a0 a1 a2 => ⟨⟨laws_szJobShop.mono a0 a1 a2⟩⟩
instance : ∀ a0 a1, Mono (fun k => laws_szOpSS.f k a0 a1) := fun a0 a1 => ⟨⟨laws_szOpSS.mono a0 a1⟩⟩
instance : ∀ a0, Mono (fun k => laws_toIntS.f k a0) := fun a0 => ⟨⟨laws_toIntS.mono a0⟩⟩
instance : ∀ a0, Mono (fun k => laws_toIntSS.f k a0) := fun a0 => ⟨⟨laws_toIntSS.mono a0⟩⟩
instance : ∀ a0 a1, Mono (fun k => laws_toJobShop.f k a0 a1) := fun a0 a1 => ⟨⟨laws_toJobShop.mono a0 a1⟩⟩
instance : ∀ a0, Mono (fun k => laws_toOpS.f k a0) := fun a0 => ⟨⟨laws_toOpS.mono a0⟩⟩
instance : ∀ a0, Mono (fun k => laws_toOpSS.f k a0) := fun a0 => ⟨⟨laws_toOpSS.mono a0⟩⟩
instance : ∀ a0 a1 a2, Mono (fun k => spec_IsSelection.f k a0 a1 a2) := fun a0 a1 a2 => ⟨⟨spec_IsSelection.mono a0 a1 a2⟩⟩
instance : ∀ a0 a1, Mono (fun k => spec_l1Has.f k a0 a1) := fun a0 a1 => ⟨⟨spec_l1Has.mono a0 a1⟩⟩
instance : ∀ a0 a1, Mono (fun k => spec_l9All.f k a0 a1) := fun a0 a1 => ⟨⟨spec_l9All.mono a0 a1⟩⟩
instance : ∀ a0 a1, Mono (fun k => spec_l9Count.f k a0 a1) := fun a0 a1 => ⟨⟨spec_l9Count.mono a0 a1⟩⟩
instance : ∀ a0 a1, Mono (fun k => spec_l9Good.f k a0 a1) := fun a0 a1 => ⟨⟨spec_l9Good.mono a0 a1⟩⟩
instance : ∀ a0 a1 a2, Mono (fun k => spec_l9On.f k a0 a1 a2) := fun a0 a1 a2 => ⟨⟨spec_l9On.mono a0 a1 a2⟩⟩
instance : ∀ a0 a1, Mono (fun k => spec_l9Route.f k a0 a1) := fun a0 a1 => ⟨⟨spec_l9Route.mono a0 a1⟩⟩
instance : ∀ a0 a1 a2, Mono (fun k => spec_l9Selects.f k a0 a1 a2) := fun a0 a1 a2 => ⟨⟨spec_l9Selects.mono a0 a1 a2⟩⟩
theorem lt_mid {α : Type} (pre : List α) (x : α) (r : List α) : ((pre.length : Int) < ((pre ++ x :: r).length : Int)) = True := by
  simp only [List.length_append, List.length_cons]
  exact eq_true (by omega)
theorem not_lt_end {α : Type} (pre : List α) : ((pre.length : Int) < ((pre ++ []).length : Int)) = False := by
  simp
theorem le_nat (n : Nat) : (0 ≤ (n : Int)) = True := eq_true (by omega)
theorem getD_mid {α : Type} (pre : List α) (x : α) (r : List α) (d : α) : (pre ++ x :: r).getD (pre.length : Int).toNat d = x := by
  simp [List.getD_eq_getElem?_getD]
theorem rd_mid (pre : List Int) (x : Int) (r : List Int) : rd (pre ++ x :: r) (pre.length : Int) = x := getD_mid pre x r 0
theorem wrap_mid {α : Type} (pre : List α) (x : α) (h : pre.length < 4611686018427387904) : wrap64 ((pre.length : Int) + 1) = ((pre ++ [x]).length : Int) := by
  rw [wrap_id (by omega) (by omega)]
  simp
theorem set_mid {α β : Type} (a : List α) (y v : α) (b : List α) (pre : List β) (h : pre.length = a.length) : (a ++ y :: b).set (pre.length : Int).toNat v = a ++ v :: b := by
  rw [Int.toNat_natCast, h, List.set_append_right _ _ (Nat.le_refl _)]
  simp
theorem rep_succ {α : Type} (x : α) (r : List α) {β : Type} (z : β) : List.replicate (x :: r).length z = z :: List.replicate r.length z := rfl
theorem app_cons {α : Type} (pre : List α) (x : α) (r : List α) : pre ++ x :: r = (pre ++ [x]) ++ r := by simp
theorem toIntS_l (r : List Int) : ∀ pre : List Int, (pre ++ r).length < 4611686018427387904 → L (fun k => laws_toIntS.l0 k (pre ++ r) (pre ++ List.replicate r.length 0) (pre.length : Int)) = some (pre ++ r) := by
  induction r with
  | nil =>
    intro pre hb
    rw [L_shift]
    simp only [laws_toIntS.l0, not_lt_end, if_false, L_const, List.length_nil, List.replicate_zero]
  | cons x r ih =>
    intro pre hb
    rw [L_shift]
    have hl : pre.length < 4611686018427387904 := by simp at hb; omega
    simp only [laws_toIntS.l0, lt_mid, le_nat, if_true, rep_succ, rd_mid, wrap_mid pre x hl, set_mid pre _ x _ pre rfl]
    rw [app_cons pre x r, app_cons pre x (List.replicate _ _)]
    exact ih (pre ++ [x]) (by simpa using hb)
theorem toIntS_L (l : List Int) (h : l.length ≤ 1048576) : L (fun k => laws_toIntS.f k l) = some l := by
  simp only [laws_toIntS.f, le_nat, if_true, Int.toNat_natCast, if_pos (show l.length ≤ 35184372088832 by omega)]
  exact toIntS_l l [] (by simp; omega)
theorem eqIntS_l (r : List Int) : ∀ pre : List Int, (pre ++ r).length < 4611686018427387904 → L (fun k => laws_eqIntS.l0 k (pre ++ r) (pre ++ r) (pre.length : Int)) = some true := by
  induction r with
  | nil =>
    intro pre hb
    rw [L_shift]
    simp only [laws_eqIntS.l0, not_lt_end, if_false, L_const]
  | cons x r ih =>
    intro pre hb
    rw [L_shift]
    have hl : pre.length < 4611686018427387904 := by simp at hb; omega
    simp only [laws_eqIntS.l0, lt_mid, le_nat, if_true, rd_mid, wrap_mid pre x hl]
    rw [app_cons pre x r]
    exact ih (pre ++ [x]) (by simpa using hb)
theorem eqIntS_L (l : List Int) (h : l.length ≤ 1048576) : L (fun k => laws_eqIntS.f k l l) = some true := by
  simp only [laws_eqIntS.f, if_true]
  exact eqIntS_l l [] (by simp; omega)
theorem ite_and (b c : Bool) : (if b = true then some c else some false) = some (b && c) := by cases b <;> rfl
theorem ite_not_and (b c : Bool) : (if b = true then some false else some c) = some (!b && c) := by cases b <;> rfl
def inB (a lo hi : Int) : Bool := decide (lo ≤ a) && decide (a ≤ hi)
theorem inB_iff {a lo hi : Int} : inB a lo hi = true ↔ lo ≤ a ∧ a ≤ hi := by simp [inB]
theorem within_e (a lo hi : Int) : impl_within.f a lo hi = some (inB a lo hi) := by
  unfold impl_within.f inB
  by_cases h : lo ≤ a <;> simp [h]
theorem l1In_e (a lo hi : Int) : spec_l1In.f a lo hi = some (inB a lo hi) := by
  unfold spec_l1In.f inB
  by_cases h : lo ≤ a <;> simp [h]
theorem l1Has_l (x : Int) (r : List Int) : ∀ pre : List Int, (pre ++ r).length < 4611686018427387904 → L (fun k => spec_l1Has.l0 k (pre ++ r) x (pre.length : Int)) = some (decide (x ∈ r)) := by
  induction r with
  | nil =>
    intro pre hb
    rw [L_shift]
    simp only [spec_l1Has.l0, not_lt_end, if_false, L_const]
    simp
  | cons y r ih =>
    intro pre hb
    rw [L_shift]
    have hl : pre.length < 4611686018427387904 := by simp at hb; omega
    simp only [spec_l1Has.l0, lt_mid, le_nat, if_true, rd_mid, wrap_mid pre y hl, L_ite, L_const]
    rw [app_cons pre y r, ih (pre ++ [y]) (by simpa using hb)]
    by_cases h : y = x
    · subst h
      simp
    · rw [if_neg h]
      have : ¬ x = y := fun e => h e.symm
      simp [this]
theorem l1Has_L (l : List Int) (x : Int) (h : l.length < 4611686018427387904) : L (fun k => spec_l1Has.f k l x) = some (decide (x ∈ l)) := l1Has_l x l [] (by simpa using h)
theorem has_l (x : Int) (r : List Int) : ∀ pre : List Int, (pre ++ r).length < 4611686018427387904 → L (fun k => impl_has.l0 k x (pre ++ r) ((pre ++ r).length : Int) (pre.length : Int)) = some (decide (x ∈ r)) := by
  induction r with
  | nil =>
    intro pre hb
    rw [L_shift]
    simp only [impl_has.l0, not_lt_end, if_false, L_const]
    simp
  | cons y r ih =>
    intro pre hb
    rw [L_shift]
    have hl : pre.length < 4611686018427387904 := by simp at hb; omega
    simp only [impl_has.l0, lt_mid, le_nat, if_true, rd_mid, wrap_mid pre y hl, L_ite, L_const]
    rw [app_cons pre y r, ih (pre ++ [y]) (by simpa using hb)]
    by_cases h : y = x
    · subst h
      simp
    · rw [if_neg h]
      have : ¬ x = y := fun e => h e.symm
      simp [this]
theorem has_L (l : List Int) (x : Int) (h : l.length < 4611686018427387904) : L (fun k => impl_has.f k l x) = some (decide (x ∈ l)) := has_l x l [] (by simpa using h)
def numsTo (n : Nat) : List Int := (List.range n).map (fun i : Nat => (i : Int))
/-- Different numbers of n things, none of them in pre. -/
def diffB (n : Int) : List Int → List Int → Bool
  | _, [] => true
  | pre, x :: r => inB x 0 (n - 1) && (!decide (x ∈ pre) && diffB n (pre ++ [x]) r)
theorem diffB_iff (n : Int) : ∀ (r pre : List Int), diffB n pre r = true ↔ (∀ x ∈ r, 0 ≤ x ∧ x < n) ∧ r.Nodup ∧ ∀ x ∈ r, x ∉ pre
  | [], pre => by simp [diffB]
  | x :: r, pre => by
    rw [diffB, Bool.and_eq_true, Bool.and_eq_true, inB_iff, diffB_iff n r (pre ++ [x])]
    simp only [Bool.not_eq_true', decide_eq_false_iff_not, List.mem_cons, List.nodup_cons, List.mem_append, List.not_mem_nil, or_false, not_or]
    constructor
    · rintro ⟨h1, h2, h3, h4, h5⟩
      refine ⟨?_, ⟨fun hx => (h5 x hx).2 rfl, h4⟩, ?_⟩
      · rintro y (rfl | hy)
        · omega
        · exact h3 y hy
      · rintro y (rfl | hy)
        · exact h2
        · exact (h5 y hy).1
    · rintro ⟨h1, ⟨h2, h3⟩, h4⟩
      exact ⟨⟨(h1 x (.inl rfl)).1, by have := (h1 x (.inl rfl)).2; omega⟩, h4 x (.inl rfl), fun y hy => h1 y (.inr hy), h3, fun y hy => ⟨h4 y (.inr hy), fun e => h2 (e ▸ hy)⟩⟩
/-- An order of n jobs. -/
def orderB (n : Nat) (l : List Int) : Bool := decide ((l.length : Int) = n) && diffB n [] l
def IsOrd (n : Nat) (l : List Int) : Prop := l.length = n ∧ (∀ x ∈ l, 0 ≤ x ∧ x < n) ∧ l.Nodup
theorem isNumber_e (a n : Int) (h0 : -9223372036854775807 ≤ n) (h1 : n ≤ 9223372036854775807) : impl_isNumber.f a n = some (inB a 0 (n - 1)) := by
  simp only [impl_isNumber.f, within_e, Option.bind_some]
  rw [wrap_id (by omega) (by omega)]
theorem take_mid {α : Type} (pre : List α) (r : List α) : (pre ++ r).take (pre.length : Int).toNat = pre := by simp
theorem areDifferent_l (n : Nat) (hn : n ≤ 1048576) (r : List Int) : ∀ pre : List Int, (pre ++ r).length < 4611686018427387904 → L (fun k => impl_areDifferent.l0 k (n : Int) (pre ++ r) (pre ++ r) ((pre ++ r).length : Int) (pre.length : Int)) = some (diffB n pre r) := by
  induction r with
  | nil =>
    intro pre hb
    rw [L_shift]
    simp only [impl_areDifferent.l0, not_lt_end, if_false, L_const]
    simp [diffB]
  | cons x r ih =>
    intro pre hb
    rw [L_shift]
    have hl : pre.length < 4611686018427387904 := by simp at hb; omega
    have e : ((pre.length : Int) ≤ ((pre ++ x :: r).length : Int)) = True := eq_true (by simp; omega)
    simp only [impl_areDifferent.l0, lt_mid, le_nat, if_true, rd_mid, wrap_mid pre x hl, isNumber_e x (n : Int) (by omega) (by omega), Option.bind_some, e, take_mid, L_ite, L_bind, has_L pre x hl, L_const]
    rw [app_cons pre x r, ih (pre ++ [x]) (by simpa using hb), ite_not_and, ite_and]
    rfl
theorem areDifferent_L (n : Nat) (l : List Int) (hn : n ≤ 1048576) (hl : l.length < 4611686018427387904) : L (fun k => impl_areDifferent.f k (n : Int) l) = some (diffB n [] l) := areDifferent_l n hn l [] (by simpa using hl)
theorem szIntS_e (l : List Int) (v : Int) (h : l.length ≤ 9223372036854775807) (h0 : 0 ≤ v) (h1 : v ≤ 1048576) : laws_szIntS.f l v = some (if (l.length : Int) ≤ v then v - (l.length : Int) else -1) := by
  unfold laws_szIntS.f
  rw [wrap_id (show -9223372036854775808 ≤ v - (l.length : Int) by omega) (by omega)]
  by_cases h2 : (l.length : Int) ≤ v
  · rw [if_neg (by omega), if_pos h2]
  · rw [if_pos (by omega), if_neg h2]
def lessF : List Int → List Int → Bool
  | x :: a, y :: b => if x = y then lessF a b else decide (x < y)
  | _, _ => false
/-- Shorter ones first; those of one length by their first different number. -/
def lessB (a b : List Int) : Bool := if a.length = b.length then lessF a b else decide (a.length < b.length)
theorem rd_at {p q : List Int} (hp : p.length = q.length) (y : Int) (b : List Int) : rd (q ++ y :: b) (p.length : Int) = y := by
  rw [hp]
  exact rd_mid q y b
theorem lt_at {p q : List Int} (hp : p.length = q.length) (y : Int) (b : List Int) : ((p.length : Int) < ((q ++ y :: b).length : Int)) = True := by
  rw [hp]
  exact lt_mid q y b
theorem szIntSS_l (r : List (List Int)) : ∀ (pre : List (List Int)) (v : Int), (pre ++ r).length < 4611686018427387904 → 0 ≤ v → v ≤ 1048576 → (∀ x ∈ r, x.length ≤ 9223372036854775807) →
    ∃ t, L (fun k => laws_szIntSS.l0 k (pre ++ r) v (pre.length : Int)) = some t ∧ (t < 0 ∨ 0 ≤ t ∧ ∀ x ∈ r, x.length ≤ 1048576) := by
  induction r with
  | nil =>
    intro pre v hb h0 h1 hr
    rw [L_shift]
    simp only [laws_szIntSS.l0, not_lt_end, if_false, L_const]
    exact ⟨v, rfl, .inr ⟨h0, by simp⟩⟩
  | cons x r ih =>
    intro pre v hb h0 h1 hr
    rw [L_shift]
    have hl : pre.length < 4611686018427387904 := by simp at hb; omega
    have e : rd_L6 (pre ++ x :: r) (pre.length : Int) = x := getD_mid pre x r _
    simp only [laws_szIntSS.l0, lt_mid, le_nat, if_true, e, wrap_mid pre x hl, szIntS_e x v (hr x List.mem_cons_self) h0 h1, Option.bind_some, L_ite, L_const]
    by_cases h2 : (x.length : Int) ≤ v
    · rw [if_pos h2, if_neg (by omega), app_cons pre x r]
      obtain ⟨t, ht, hd⟩ := ih (pre ++ [x]) (v - (x.length : Int)) (by simpa using hb) (by omega) (by omega) (fun y hy => hr y (List.mem_cons_of_mem _ hy))
      refine ⟨t, ht, hd.imp id (fun hd => ⟨hd.1, ?_⟩)⟩
      intro y hy
      rcases List.mem_cons.1 hy with rfl | hy
      · omega
      · exact hd.2 y hy
    · rw [if_neg h2, if_pos (by omega)]
      exact ⟨-1, rfl, .inl (by omega)⟩
theorem szIntSS_L (l : List (List Int)) (v : Int) (h0 : 0 ≤ v) (h1 : v ≤ 1048576) (hl : l.length ≤ 9223372036854775807) (hr : ∀ x ∈ l, x.length ≤ 9223372036854775807) :
    ∃ t, L (fun k => laws_szIntSS.f k l v) = some t ∧ (t < 0 ∨ 0 ≤ t ∧ l.length ≤ 1048576 ∧ ∀ x ∈ l, x.length ≤ 1048576) := by
  simp only [laws_szIntSS.f]
  rw [wrap_id (show -9223372036854775808 ≤ v - (l.length : Int) by omega) (by omega)]
  by_cases h : v - (l.length : Int) < 0
  · simp only [if_pos h, L_const]
    exact ⟨-1, rfl, .inl (by omega)⟩
  · simp only [if_neg h]
    obtain ⟨t, ht, hd⟩ := szIntSS_l l [] (v - (l.length : Int)) (by simp; omega) (by omega) (by omega) hr
    exact ⟨t, ht, hd.imp id (fun hd => ⟨hd.1, by omega, hd.2⟩)⟩
theorem toIntSS_l (r : List (List Int)) : ∀ pre : List (List Int), (pre ++ r).length < 4611686018427387904 → (∀ x ∈ r, x.length ≤ 1048576) → L (fun k => laws_toIntSS.l0 k (pre ++ r) (pre ++ List.replicate r.length []) (pre.length : Int)) = some (pre ++ r) := by
  induction r with
  | nil =>
    intro pre hb hr
    rw [L_shift]
    simp only [laws_toIntSS.l0, not_lt_end, if_false, L_const, List.length_nil, List.replicate_zero]
  | cons x r ih =>
    intro pre hb hr
    rw [L_shift]
    have hl : pre.length < 4611686018427387904 := by simp at hb; omega
    have e : rd_L6 (pre ++ x :: r) (pre.length : Int) = x := getD_mid pre x r _
    simp only [laws_toIntSS.l0, lt_mid, le_nat, if_true, rep_succ, e, wrap_mid pre x hl, L_bind, L_const, toIntS_L x (hr x List.mem_cons_self), Option.bind_some, set_mid pre _ _ _ pre rfl]
    rw [app_cons pre x r, app_cons pre x (List.replicate _ _)]
    exact ih (pre ++ [x]) (by simpa using hb) (fun y hy => hr y (List.mem_cons_of_mem _ hy))
theorem toIntSS_L (l : List (List Int)) (h : l.length ≤ 1048576) (hr : ∀ x ∈ l, x.length ≤ 1048576) : L (fun k => laws_toIntSS.f k l) = some l := by
  simp only [laws_toIntSS.f, le_nat, if_true, Int.toNat_natCast, if_pos (show l.length ≤ 11728124029610 by omega)]
  exact toIntSS_l l [] (by simp; omega) hr
theorem eqIntSS_l (r : List (List Int)) : ∀ pre : List (List Int), (pre ++ r).length < 4611686018427387904 → (∀ x ∈ r, x.length ≤ 1048576) → L (fun k => laws_eqIntSS.l0 k (pre ++ r) (pre ++ r) (pre.length : Int)) = some true := by
  induction r with
  | nil =>
    intro pre hb hr
    rw [L_shift]
    simp only [laws_eqIntSS.l0, not_lt_end, if_false, L_const]
  | cons x r ih =>
    intro pre hb hr
    rw [L_shift]
    have hl : pre.length < 4611686018427387904 := by simp at hb; omega
    have e : rd_L6 (pre ++ x :: r) (pre.length : Int) = x := getD_mid pre x r _
    simp only [laws_eqIntSS.l0, lt_mid, le_nat, if_true, e, wrap_mid pre x hl, L_bind, L_const, eqIntS_L x (hr x List.mem_cons_self), Option.bind_some]
    rw [app_cons pre x r]
    exact ih (pre ++ [x]) (by simpa using hb) (fun y hy => hr y (List.mem_cons_of_mem _ hy))
theorem eqIntSS_L (l : List (List Int)) (h : l.length ≤ 1048576) (hr : ∀ x ∈ l, x.length ≤ 1048576) : L (fun k => laws_eqIntSS.f k l l) = some true := by
  simp only [laws_eqIntSS.f, if_true]
  exact eqIntSS_l l [] (by simp; omega) hr
def lexB : List Int → List Int → Bool
  | [], [] => false
  | [], _ :: _ => true
  | _ :: _, [] => false
  | x :: a, y :: b => if x = y then lexB a b else decide (x < y)
theorem impl_compareLists_j1 (x0 : List Int) (x1 : List Int) (x5 : Int) (x15 : Bool) : L (fun k => impl_compareLists.j1 k x0 x1 x5 x15) = L (fun k => if x15 = true then (if 0 ≤ x5 then (if x5 < (x0.length : Int) then (if x5 < (x1.length : Int) then (if (rd x0 x5) = (rd x1 x5) then (impl_compareLists.l0 k x0 x1 (wrap64 (x5 + 1))) else (some (wrap64 ((rd x0 x5) - (rd x1 x5))))) else (none)) else (none)) else (none)) else (some (wrap64 ((x0.length : Int) - (x1.length : Int))))) := by
  rw [L_shift]
  simp only [impl_compareLists.j1]
theorem compareLists_g : ∀ (a b p q : List Int), p.length = q.length → (p ++ a).length < 1000000 → (q ++ b).length < 1000000 → (∀ x ∈ a, 0 ≤ x ∧ x < 1048576) → (∀ x ∈ b, 0 ≤ x ∧ x < 1048576) → ∃ c, L (fun k => impl_compareLists.l0 k (p ++ a) (q ++ b) (p.length : Int)) = some c ∧ (c < 0 ↔ lexB a b = true) ∧ (c = 0 ↔ a = b)
  | [], [], p, q, hp, ha, hb, _, _ => by
    rw [L_shift]
    simp only [impl_compareLists.l0, not_lt_end, if_false, impl_compareLists_j1, Bool.false_eq_true, L_const]
    refine ⟨_, rfl, ?_⟩
    simp only [List.append_nil, hp, Int.sub_self, lexB]
    rw [wrap_id (by omega) (by omega)]
    simp
  | [], y :: b, p, q, hp, ha, hb, _, _ => by
    rw [L_shift]
    simp only [impl_compareLists.l0, not_lt_end, if_false, impl_compareLists_j1, Bool.false_eq_true, L_const]
    refine ⟨_, rfl, ?_⟩
    simp only [List.length_append, List.length_cons, List.length_nil] at ha hb ⊢
    rw [wrap_id (by omega) (by omega)]
    simp only [lexB]
    constructor
    · constructor
      · intro _; trivial
      · intro _; omega
    · constructor
      · intro h; omega
      · intro h; cases h
  | x :: a, [], p, q, hp, ha, hb, _, _ => by
    rw [L_shift]
    have e : ((p.length : Int) < ((q ++ []).length : Int)) = False := by
      rw [hp]
      exact not_lt_end q
    simp only [impl_compareLists.l0, lt_mid, if_true, e, decide_false, impl_compareLists_j1, Bool.false_eq_true, if_false, L_const]
    refine ⟨_, rfl, ?_⟩
    simp only [List.length_append, List.length_cons, List.length_nil] at ha hb ⊢
    rw [wrap_id (by omega) (by omega)]
    simp only [lexB]
    constructor
    · constructor
      · intro h; omega
      · intro h; cases h
    · constructor
      · intro h; omega
      · intro h; cases h
  | x :: a, y :: b, p, q, hp, ha, hb, hxa, hyb => by
    rw [L_shift]
    have h1 : p.length < 4611686018427387904 := by simp at ha; omega
    have hx := hxa x List.mem_cons_self
    have hy := hyb y List.mem_cons_self
    simp only [impl_compareLists.l0, lt_mid, le_nat, if_true, rd_mid, rd_at hp, lt_at hp, decide_true, impl_compareLists_j1, wrap_mid p x h1, L_ite, L_const, wrap_id (show -9223372036854775808 ≤ x - y by omega) (show x - y ≤ 9223372036854775807 by omega)]
    obtain ⟨c, hc, hi, hj⟩ := compareLists_g a b (p ++ [x]) (q ++ [y]) (by simp [hp]) (by simpa using ha) (by simpa using hb) (fun z hz => hxa z (List.mem_cons_of_mem _ hz)) (fun z hz => hyb z (List.mem_cons_of_mem _ hz))
    rw [app_cons p x a, app_cons q y b, hc]
    by_cases h : x = y
    · rw [if_pos h, lexB, if_pos h]
      exact ⟨c, rfl, hi, by rw [hj, h]; simp⟩
    · rw [if_neg h, lexB, if_neg h]
      refine ⟨_, rfl, by rw [decide_eq_true_eq]; omega, ?_⟩
      constructor
      · intro h2; omega
      · intro h2; exact absurd (List.cons.inj h2).1 h
theorem compareG_L (a b : List Int) (ha : a.length < 1000000) (hb : b.length < 1000000) (hxa : ∀ x ∈ a, 0 ≤ x ∧ x < 1048576) (hxb : ∀ x ∈ b, 0 ≤ x ∧ x < 1048576) : ∃ c, L (fun k => impl_compareLists.f k a b) = some c ∧ (c < 0 ↔ lexB a b = true) ∧ (c = 0 ↔ a = b) := by
  simp only [impl_compareLists.f]
  exact compareLists_g a b [] [] rfl (by simpa using ha) (by simpa using hb) hxa hxb
def Pre (b c : List Int) : Prop := ∃ t, c = b ++ t
def begB (c b : List Int) : Bool := decide (c.take b.length = b)
/-- The numbers v, v + 1, .., d of them. -/
def upI : Nat → Int → List Int
  | 0, _ => []
  | d + 1, v => v :: upI d (v + 1)
def fct : Nat → Int
  | 0 => 1
  | m + 1 => ((m : Int) + 1) * fct m
/-- A beginning: different numbers below n. -/
def IsPreN (n : Nat) (b : List Int) : Prop := (∀ x ∈ b, 0 ≤ x ∧ x < (n : Int)) ∧ b.Nodup
def headB (b : List Int) : List (List Int) → Bool
  | [] => false
  | c :: _ => begB c b
def candF (g : List Int → List (List Int) → Option (List (List Int))) (b : List Int) : List Int → List (List Int) → Option (List (List Int))
  | [], cs => some cs
  | i :: is, cs => if i ∈ b then candF g b is cs else if headB b cs = true then (g (b ++ [i]) cs).bind (fun r' => candF g b is r') else none
def covF (n : Nat) : Nat → List Int → List (List Int) → Option (List (List Int))
  | 0, b, cs => if cs.head? = some b then some cs.tail else none
  | m + 1, b, cs => if cs.head? = some b then some cs.tail else candF (covF n m) b (upI n 0) cs
def wOf (n : Nat) (c : List Int) : Int := fct (n - c.length)
def sumW (n : Nat) (cs : List (List Int)) : Int := (cs.map (wOf n)).sum
def cnt (b is : List Int) : Nat := (is.filter (fun i => !decide (i ∈ b))).length
def toOpP (x : S130) : S109 := ⟨x.f0, x.f1⟩
theorem toOpS_l (r : List S130) : ∀ pre : List S130, (pre ++ r).length < 4611686018427387904 → L (fun k => laws_toOpS.l0 k (pre ++ r) (pre.map toOpP ++ List.replicate r.length z109) (pre.length : Int)) = some ((pre ++ r).map toOpP) := by
  induction r with
  | nil =>
    intro pre hb
    rw [L_shift]
    simp only [laws_toOpS.l0, not_lt_end, if_false, L_const, List.length_nil, List.replicate_zero]
    simp
  | cons x r ih =>
    intro pre hb
    rw [L_shift]
    have hl : pre.length < 4611686018427387904 := by simp at hb; omega
    have e : rd_T130 (pre ++ x :: r) (pre.length : Int) = x := getD_mid pre x r _
    have e2 : ((pre.length : Int) < ((pre.map toOpP ++ z109 :: List.replicate r.length z109).length : Int)) = True := by
      simp only [List.length_append, List.length_cons, List.length_map]
      exact eq_true (by omega)
    simp only [laws_toOpS.l0, laws_toOp.f, lt_mid, le_nat, if_true, rep_succ, e, e2, wrap_mid pre x hl, Option.bind_some, set_mid (pre.map toOpP) _ _ _ pre (by simp)]
    have := ih (pre ++ [x]) (by simpa using hb)
    simpa [toOpP] using this
theorem toOpS_L (l : List S130) (h : l.length ≤ 1048576) : L (fun k => laws_toOpS.f k l) = some (l.map toOpP) := by
  simp only [laws_toOpS.f, le_nat, if_true, Int.toNat_natCast, if_pos (show l.length ≤ 17592186044416 by omega)]
  exact toOpS_l l [] (by simp; omega)
theorem toOpSS_l (r : List (List S130)) : ∀ pre : List (List S130), (pre ++ r).length < 4611686018427387904 → (∀ x ∈ r, x.length ≤ 1048576) → L (fun k => laws_toOpSS.l0 k (pre ++ r) (pre.map (List.map toOpP) ++ List.replicate r.length []) (pre.length : Int)) = some ((pre ++ r).map (List.map toOpP)) := by
  induction r with
  | nil =>
    intro pre hb hr
    rw [L_shift]
    simp only [laws_toOpSS.l0, not_lt_end, if_false, L_const, List.length_nil, List.replicate_zero]
    simp
  | cons x r ih =>
    intro pre hb hr
    rw [L_shift]
    have hl : pre.length < 4611686018427387904 := by simp at hb; omega
    have e : rd_L9 (pre ++ x :: r) (pre.length : Int) = x := getD_mid pre x r _
    have e2 : ((pre.length : Int) < ((pre.map (List.map toOpP) ++ ([] : List S109) :: List.replicate r.length []).length : Int)) = True := by
      simp only [List.length_append, List.length_cons, List.length_map]
      exact eq_true (by omega)
    simp only [laws_toOpSS.l0, lt_mid, le_nat, if_true, rep_succ, e, e2, wrap_mid pre x hl, L_bind, L_const, toOpS_L x (hr x List.mem_cons_self), Option.bind_some, set_mid (pre.map (List.map toOpP)) _ _ _ pre (by simp)]
    have := ih (pre ++ [x]) (by simpa using hb) (fun y hy => hr y (List.mem_cons_of_mem _ hy))
    simpa using this
theorem toOpSS_L (l : List (List S130)) (h : l.length ≤ 1048576) (hr : ∀ x ∈ l, x.length ≤ 1048576) : L (fun k => laws_toOpSS.f k l) = some (l.map (List.map toOpP)) := by
  simp only [laws_toOpSS.f, le_nat, if_true, Int.toNat_natCast, if_pos (show l.length ≤ 11728124029610 by omega)]
  exact toOpSS_l l [] (by simp; omega) hr
theorem toJobShop_L (m : Int) (l : List (List S130)) (h : l.length ≤ 1048576) (hr : ∀ x ∈ l, x.length ≤ 1048576) : L (fun k => laws_toJobShop.f k m l) = some (m, l.map (List.map toOpP)) := by
  simp only [laws_toJobShop.f, L_bind, toOpSS_L l h hr, Option.bind_some, L_const]
theorem szOpS_e (l : List S130) (v : Int) (h : l.length ≤ 9223372036854775807) (h0 : 0 ≤ v) (h1 : v ≤ 1048576) : laws_szOpS.f l v = some (if (l.length : Int) ≤ v then v - (l.length : Int) else -1) := by
  unfold laws_szOpS.f
  rw [wrap_id (show -9223372036854775808 ≤ v - (l.length : Int) by omega) (by omega)]
  by_cases h2 : (l.length : Int) ≤ v
  · rw [if_neg (by omega), if_pos h2]
  · rw [if_pos (by omega), if_neg h2]
theorem szOpSS_l (r : List (List S130)) : ∀ (pre : List (List S130)) (v : Int), (pre ++ r).length < 4611686018427387904 → 0 ≤ v → v ≤ 1048576 → (∀ x ∈ r, x.length ≤ 9223372036854775807) →
    ∃ t, L (fun k => laws_szOpSS.l0 k (pre ++ r) v (pre.length : Int)) = some t ∧ (t < 0 ∨ (0 ≤ t ∧ t ≤ v ∧ ∀ x ∈ r, x.length ≤ 1048576)) := by
  induction r with
  | nil =>
    intro pre v hb h0 h1 hr
    rw [L_shift]
    simp only [laws_szOpSS.l0, not_lt_end, if_false, L_const]
    exact ⟨v, rfl, .inr ⟨h0, Int.le_refl _, by simp⟩⟩
  | cons x r ih =>
    intro pre v hb h0 h1 hr
    rw [L_shift]
    have hl : pre.length < 4611686018427387904 := by simp at hb; omega
    have e : rd_L9 (pre ++ x :: r) (pre.length : Int) = x := getD_mid pre x r _
    simp only [laws_szOpSS.l0, lt_mid, le_nat, if_true, e, wrap_mid pre x hl, szOpS_e x v (hr x List.mem_cons_self) h0 h1, Option.bind_some, L_ite, L_const]
    by_cases h2 : (x.length : Int) ≤ v
    · rw [if_pos h2, if_neg (by omega), app_cons pre x r]
      obtain ⟨t, ht, hd⟩ := ih (pre ++ [x]) (v - (x.length : Int)) (by simpa using hb) (by omega) (by omega) (fun y hy => hr y (List.mem_cons_of_mem _ hy))
      refine ⟨t, ht, hd.imp id (fun hd => ⟨hd.1, by omega, ?_⟩)⟩
      intro y hy
      rcases List.mem_cons.1 hy with rfl | hy
      · omega
      · exact hd.2.2 y hy
    · rw [if_neg h2, if_pos (by omega)]
      exact ⟨-1, rfl, .inl (by omega)⟩
theorem szJobShop_L (m : Int) (l : List (List S130)) (v : Int) (h0 : 0 ≤ v) (h1 : v ≤ 1048576) (hl : l.length ≤ 9223372036854775807) (hr : ∀ x ∈ l, x.length ≤ 9223372036854775807) :
    ∃ t, L (fun k => laws_szJobShop.f k m l v) = some t ∧ (t < 0 ∨ (0 ≤ t ∧ t ≤ v ∧ l.length ≤ 1048576 ∧ ∀ x ∈ l, x.length ≤ 1048576)) := by
  have hs : ∃ t, L (fun k => laws_szOpSS.f k l v) = some t ∧ (t < 0 ∨ (0 ≤ t ∧ t ≤ v ∧ l.length ≤ 1048576 ∧ ∀ x ∈ l, x.length ≤ 1048576)) := by
    simp only [laws_szOpSS.f]
    rw [wrap_id (show -9223372036854775808 ≤ v - (l.length : Int) by omega) (by omega)]
    by_cases h : v - (l.length : Int) < 0
    · simp only [if_pos h, L_const]
      exact ⟨-1, rfl, .inl (by omega)⟩
    · simp only [if_neg h]
      obtain ⟨t, ht, hd⟩ := szOpSS_l l [] (v - (l.length : Int)) (by simp; omega) (by omega) (by omega) hr
      exact ⟨t, ht, hd.imp id (fun hd => ⟨hd.1, by omega, by omega, hd.2.2⟩)⟩
  obtain ⟨t, ht, hd⟩ := hs
  simp only [laws_szJobShop.f, L_bind, ht, Option.bind_some, L_ite, L_const]
  rcases hd with hd | hd
  · rw [if_pos hd]
    exact ⟨-1, rfl, .inl (by omega)⟩
  · rw [if_neg (by omega)]
    exact ⟨t, rfl, .inr hd⟩
theorem eqOpS_l (r : List S109) : ∀ pre : List S109, (pre ++ r).length < 4611686018427387904 → L (fun k => laws_eqOpS.l0 k (pre ++ r) (pre ++ r) (pre.length : Int)) = some true := by
  induction r with
  | nil =>
    intro pre hb
    rw [L_shift]
    simp only [laws_eqOpS.l0, not_lt_end, if_false, L_const]
  | cons x r ih =>
    intro pre hb
    rw [L_shift]
    have hl : pre.length < 4611686018427387904 := by simp at hb; omega
    simp only [laws_eqOpS.l0, laws_eqOp.f, lt_mid, le_nat, if_true, wrap_mid pre x hl, Option.bind_some]
    rw [app_cons pre x r]
    exact ih (pre ++ [x]) (by simpa using hb)
theorem eqOpS_L (l : List S109) (h : l.length ≤ 1048576) : L (fun k => laws_eqOpS.f k l l) = some true := by
  simp only [laws_eqOpS.f, if_true]
  exact eqOpS_l l [] (by simp; omega)
theorem eqOpSS_l (r : List (List S109)) : ∀ pre : List (List S109), (pre ++ r).length < 4611686018427387904 → (∀ x ∈ r, x.length ≤ 1048576) → L (fun k => laws_eqOpSS.l0 k (pre ++ r) (pre ++ r) (pre.length : Int)) = some true := by
  induction r with
  | nil =>
    intro pre hb hr
    rw [L_shift]
    simp only [laws_eqOpSS.l0, not_lt_end, if_false, L_const]
  | cons x r ih =>
    intro pre hb hr
    rw [L_shift]
    have hl : pre.length < 4611686018427387904 := by simp at hb; omega
    have e : rd_L11 (pre ++ x :: r) (pre.length : Int) = x := getD_mid pre x r _
    simp only [laws_eqOpSS.l0, lt_mid, le_nat, if_true, e, wrap_mid pre x hl, L_bind, L_const, eqOpS_L x (hr x List.mem_cons_self), Option.bind_some]
    rw [app_cons pre x r]
    exact ih (pre ++ [x]) (by simpa using hb) (fun y hy => hr y (List.mem_cons_of_mem _ hy))
theorem eqJobShop_L (m : Int) (l : List (List S109)) (h : l.length ≤ 1048576) (hr : ∀ x ∈ l, x.length ≤ 1048576) : L (fun k => laws_eqJobShop.f k m l m l) = some true := by
  have hs : L (fun k => laws_eqOpSS.f k l l) = some true := by
    simp only [laws_eqOpSS.f, if_true]
    exact eqOpSS_l l [] (by simp; omega) hr
  simp only [laws_eqJobShop.f, if_true, L_bind, hs, Option.bind_some, L_const]
def routeB (m : Int) : List Int → List S109 → Bool
  | _, [] => true
  | used, x :: r => inB x.f0 0 (m - 1) && (inB x.f1 1 20 && (!decide (x.f0 ∈ used) && routeB m (used ++ [x.f0]) r))
def cntN : List (List S109) → Nat
  | [] => 0
  | r :: R => r.length + cntN R
/-- A job shop. -/
def shop9B (m : Int) (R : List (List S109)) : Bool := inB m 1 4 && (decide (R.length ≤ 4) && (R.all (routeB m []) && decide (cntN R ≤ 12)))
structure OpOk (m : Int) (x : S109) : Prop where
  m0 : 0 ≤ x.f0
  m1 : x.f0 < m
  t0 : 1 ≤ x.f1
  t1 : x.f1 ≤ 20
structure Shop9 (m : Int) (R : List (List S109)) : Prop where
  m0 : 1 ≤ m
  m1 : m ≤ 4
  len : R.length ≤ 4
  cnt : cntN R ≤ 12
  op : ∀ r ∈ R, ∀ x ∈ r, OpOk m x
  nodup : ∀ r ∈ R, (r.map (·.f0)).Nodup
theorem routeB_iff (m : Int) : ∀ (r : List S109) (used : List Int), routeB m used r = true → (∀ x ∈ r, OpOk m x) ∧ (r.map (·.f0)).Nodup ∧ ∀ x ∈ r, x.f0 ∉ used
  | [], used, _ => ⟨by simp, by simp, by simp⟩
  | x :: r, used, h => by
    rw [routeB, Bool.and_eq_true, Bool.and_eq_true, Bool.and_eq_true, inB_iff, inB_iff] at h
    obtain ⟨h1, h2, h3, h4⟩ := h
    obtain ⟨g1, g2, g3⟩ := routeB_iff m r _ h4
    simp only [Bool.not_eq_true', decide_eq_false_iff_not] at h3
    refine ⟨fun y hy => ?_, ?_, fun y hy => ?_⟩
    · rcases List.mem_cons.1 hy with rfl | hy
      · exact ⟨h1.1, by omega, h2.1, h2.2⟩
      · exact g1 y hy
    · rw [List.map_cons, List.nodup_cons]
      refine ⟨fun hx => ?_, g2⟩
      obtain ⟨y, hy, he⟩ := List.mem_map.1 hx
      exact g3 y hy (by rw [he]; simp)
    · rcases List.mem_cons.1 hy with rfl | hy
      · exact h3
      · exact fun hc => g3 y hy (by simp [hc])
theorem shop9B_iff {m : Int} {R : List (List S109)} (h : shop9B m R = true) : Shop9 m R := by
  simp only [shop9B, Bool.and_eq_true, inB_iff, decide_eq_true_eq, List.all_eq_true] at h
  obtain ⟨h1, h2, h3, h4⟩ := h
  exact ⟨h1.1, h1.2, h2, h4, fun r hr => (routeB_iff m r [] (h3 r hr)).1, fun r hr => (routeB_iff m r [] (h3 r hr)).2.1⟩
theorem l9Route_l (m : Int) (hm : -1000 ≤ m ∧ m ≤ 1000) (r : List S109) : ∀ (pre : List S109) (used : List Int), (pre ++ r).length < 2000000 → used.length + r.length < 4000000 → L (fun k => spec_l9Route.l0 k m (pre ++ r) used (pre.length : Int)) = some (routeB m used r) := by
  induction r with
  | nil =>
    intro pre used hb hu
    rw [L_shift]
    simp only [spec_l9Route.l0, not_lt_end, if_false, L_const]
    rfl
  | cons x r ih =>
    intro pre used hb hu
    rw [L_shift]
    have hl : pre.length < 4611686018427387904 := by simp at hb; omega
    have e : rd_T109 (pre ++ x :: r) (pre.length : Int) = x := getD_mid pre x r _
    simp only [List.length_cons] at hu
    simp only [spec_l9Route.l0, lt_mid, le_nat, if_true, e, wrap_mid pre x hl, wrap_id (show -9223372036854775808 ≤ m - 1 by omega) (show m - 1 ≤ 9223372036854775807 by omega), l1In_e, Option.bind_some, L_ite, L_const, L_bind, l1Has_L used x.f0 (by omega), if_pos (show used.length < 17592186044416 by omega)]
    rw [app_cons pre x r, ih (pre ++ [x]) (used ++ [x.f0]) (by simpa using hb) (by simp; omega), routeB, ite_not_and, ite_and, ite_and]
theorem l9Count_l (m : Int) (R : List (List S109)) (hR : R.length ≤ 4) : ∀ (r pre : List (List S109)) (v : Int), pre ++ r = R → (∀ x ∈ r, x.length ≤ 1048576) → 0 ≤ v → v ≤ 2000000 * (pre.length : Int) →
    L (fun k => spec_l9Count.l0 k v (pre.length : Int) m R) = some (v + (cntN r : Int))
  | [], pre, v, hp, hr, h0, h1 => by
    rw [L_shift]
    simp only [List.append_nil] at hp
    subst hp
    simp only [spec_l9Count.l0, if_neg (show ¬ ((pre.length : Int) < (pre.length : Int)) by omega), L_const, cntN]
    simp
  | x :: r, pre, v, hp, hr, h0, h1 => by
    rw [L_shift]
    have hl : R.length = pre.length + (r.length + 1) := by rw [← hp]; simp
    have e : rd_L11 R (pre.length : Int) = x := by rw [← hp]; exact getD_mid pre x r _
    have hx := hr x List.mem_cons_self
    simp only [spec_l9Count.l0, if_pos (show (pre.length : Int) < (R.length : Int) by omega), le_nat, if_true, e, wrap_mid pre x (by omega), wrap_id (show -9223372036854775808 ≤ v + (x.length : Int) by omega) (by omega)]
    rw [l9Count_l m R hR r (pre ++ [x]) (v + (x.length : Int)) (by rw [← hp]; simp) (fun y hy => hr y (List.mem_cons_of_mem _ hy)) (by omega) (by simp; omega), cntN]
    congr 1
    omega
theorem l9Good_l (m : Int) (hm : -1000 ≤ m ∧ m ≤ 1000) (R : List (List S109)) (hR : R.length ≤ 4) (hRr : ∀ x ∈ R, x.length ≤ 1048576) : ∀ (r pre : List (List S109)), pre ++ r = R →
    L (fun k => spec_l9Good.l0 k (pre.length : Int) m R) = some (r.all (routeB m []) && decide (cntN R ≤ 12))
  | [], pre, hp => by
    rw [L_shift]
    simp only [List.append_nil] at hp
    subst hp
    have hc := l9Count_l m pre hR pre [] 0 rfl hRr (by omega) (by simp)
    have hc2 : L (fun k => spec_l9Count.f k m pre) = some ((cntN pre : Nat) : Int) := by
      have : (0 : Int) + ((cntN pre : Nat) : Int) = ((cntN pre : Nat) : Int) := by omega
      rw [this] at hc
      exact hc
    simp only [spec_l9Good.l0, if_neg (show ¬ ((pre.length : Int) < (pre.length : Int)) by omega), L_bind, hc2, Option.bind_some, L_const, List.all_nil, Bool.true_and]
    congr 1
    exact decide_eq_decide.2 (by omega)
  | x :: r, pre, hp => by
    rw [L_shift]
    have hl : R.length = pre.length + (r.length + 1) := by rw [← hp]; simp
    have e : rd_L11 R (pre.length : Int) = x := by rw [← hp]; exact getD_mid pre x r _
    have hx := hRr x (by rw [← hp]; simp)
    have hro : L (fun k => spec_l9Route.f k m x) = some (routeB m [] x) := l9Route_l m hm x [] [] (by simp; omega) (by simp; omega)
    simp only [spec_l9Good.l0, if_pos (show (pre.length : Int) < (R.length : Int) by omega), le_nat, if_true, e, wrap_mid pre x (by omega), L_bind, hro, Option.bind_some, L_ite, L_const]
    rw [l9Good_l m hm R hR hRr r (pre ++ [x]) (by rw [← hp]; simp), ite_and, List.all_cons, Bool.and_assoc]
theorem l9Good_L (m : Int) (R : List (List S109)) (hR : R.length ≤ 1048576) (hRr : ∀ x ∈ R, x.length ≤ 1048576) : L (fun k => spec_l9Good.f k m R) = some (shop9B m R) := by
  have hj : ∀ b, L (fun k => spec_l9Good.j0 k b m R) = if b = true then some false else L (fun k => spec_l9Good.l0 k 0 m R) := fun b => by
    rw [L_shift]
    simp only [spec_l9Good.j0, L_ite, L_const]
  simp only [spec_l9Good.f, l1In_e, Option.bind_some, L_ite, hj, shop9B]
  by_cases hm : inB m 1 4 = true
  · rw [if_pos hm, hm, Bool.true_and]
    have hm2 := inB_iff.1 hm
    by_cases h4 : R.length ≤ 4
    · rw [decide_eq_false (show ¬ (R.length : Int) > 4 by omega), if_neg (by decide), decide_eq_true h4, Bool.true_and]
      exact l9Good_l m (by omega) R h4 hRr R [] rfl
    · rw [decide_eq_true (show (R.length : Int) > 4 by omega), if_pos rfl, decide_eq_false h4, Bool.false_and]
  · rw [if_neg hm]
    simp only [Bool.not_eq_true] at hm
    rw [hm, Bool.false_and]
    simp
theorem shop9_in (m : Int) (hm : -1000 ≤ m ∧ m ≤ 1000) (R : List (List S109)) (c n i : Int) (x : List S109) (hx : x.length ≤ 1048576) (Ms : List (List S109)) : ∀ (r pre : List S109) (used : List Int), pre ++ r = x → used.length + r.length < 4000000 →
    L (fun k => impl_IsJobShop.l1 k c x used R n i x (x.length : Int) (pre.length : Int) m Ms) = if routeB m used r = true then L (fun k => impl_IsJobShop.l0 k (wrap64 (c + (x.length : Int))) R n (wrap64 (i + 1)) m Ms) else some false
  | [], pre, used, hp, hu => by
    rw [L_shift]
    simp only [List.append_nil] at hp
    subst hp
    simp only [impl_IsJobShop.l1, if_neg (show ¬ ((pre.length : Int) < (pre.length : Int)) by omega), routeB, if_true]
  | y :: r, pre, used, hp, hu => by
    rw [L_shift]
    have hl : x.length = pre.length + (r.length + 1) := by rw [← hp]; simp
    have e : rd_T109 x (pre.length : Int) = y := by rw [← hp]; exact getD_mid pre y r _
    simp only [List.length_cons] at hu
    have ih := shop9_in m hm R c n i x hx Ms r (pre ++ [y]) (used ++ [y.f0]) (by rw [← hp]; simp) (by simp; omega)
    simp only [impl_IsJobShop.l1, if_pos (show (pre.length : Int) < (x.length : Int) by omega), le_nat, if_true, e, isNumber_e y.f0 m (by omega) (by omega), within_e, Option.bind_some, L_ite, L_const, L_bind, has_L used y.f0 (by omega), if_pos (show used.length < 17592186044416 by omega), wrap_mid pre y (show pre.length < 4611686018427387904 by omega), ih, routeB]
    by_cases h1 : inB y.f0 0 (m - 1) = true
    · by_cases h2 : inB y.f1 1 20 = true
      · by_cases h3 : y.f0 ∈ used <;> simp [h1, h2, h3]
      · simp [h1, h2]
    · simp [h1]
theorem IsJobShop_l (m : Int) (hm : -1000 ≤ m ∧ m ≤ 1000) (R : List (List S109)) (hR : R.length ≤ 4) (hRr : ∀ x ∈ R, x.length ≤ 1048576) (Ms : List (List S109)) : ∀ (r pre : List (List S109)) (c : Int), pre ++ r = R → 0 ≤ c → c ≤ 2000000 * (pre.length : Int) →
    L (fun k => impl_IsJobShop.l0 k c R (R.length : Int) (pre.length : Int) m Ms) = some (r.all (routeB m []) && decide (c + (cntN r : Int) ≤ 12))
  | [], pre, c, hp, h0, h1 => by
    rw [L_shift]
    simp only [List.append_nil] at hp
    subst hp
    simp only [impl_IsJobShop.l0, if_neg (show ¬ ((pre.length : Int) < (pre.length : Int)) by omega), L_const, List.all_nil, Bool.true_and, cntN]
    congr 1
    exact decide_eq_decide.2 (by omega)
  | x :: r, pre, c, hp, h0, h1 => by
    rw [L_shift]
    have hl : R.length = pre.length + (r.length + 1) := by rw [← hp]; simp
    have e : rd_L11 R (pre.length : Int) = x := by rw [← hp]; exact getD_mid pre x r _
    have hx := hRr x (by rw [← hp]; simp)
    have hin := shop9_in m hm R c (R.length : Int) (pre.length : Int) x hx Ms x [] [] rfl (by simp; omega)
    simp only [List.length_nil, Int.natCast_zero] at hin
    simp only [impl_IsJobShop.l0, if_pos (show (pre.length : Int) < (R.length : Int) by omega), le_nat, if_true, e, hin, wrap_mid pre x (show pre.length < 4611686018427387904 by omega), wrap_id (show -9223372036854775808 ≤ c + (x.length : Int) by omega) (show c + (x.length : Int) ≤ 9223372036854775807 by omega)]
    rw [IsJobShop_l m hm R hR hRr Ms r (pre ++ [x]) (c + (x.length : Int)) (by rw [← hp]; simp) (by omega) (by simp; omega), ite_and, List.all_cons, Bool.and_assoc]
    congr 3
    exact decide_eq_decide.2 (by rw [cntN]; omega)
theorem IsJobShop_L (m : Int) (R : List (List S109)) (hR : R.length ≤ 1048576) (hRr : ∀ x ∈ R, x.length ≤ 1048576) : L (fun k => impl_IsJobShop.f k m R) = some (shop9B m R) := by
  have hj : ∀ b, L (fun k => impl_IsJobShop.j0 k b m R) = if b = true then some false else L (fun k => impl_IsJobShop.l0 k 0 R (R.length : Int) 0 m R) := fun b => by
    rw [L_shift]
    simp only [impl_IsJobShop.j0, L_ite, L_const]
  simp only [impl_IsJobShop.f, within_e, Option.bind_some, L_ite, hj, shop9B]
  by_cases hm : inB m 1 4 = true
  · rw [if_pos hm, hm, Bool.true_and]
    have hm2 := inB_iff.1 hm
    by_cases h4 : R.length ≤ 4
    · rw [decide_eq_false (show ¬ (R.length : Int) > 4 by omega), if_neg (by decide), decide_eq_true h4, Bool.true_and]
      have := IsJobShop_l m (by omega) R h4 hRr R R [] 0 rfl (by omega) (by simp)
      simp only [List.length_nil, Int.natCast_zero] at this
      rw [this]
      congr 2
      exact decide_eq_decide.2 (by omega)
    · rw [decide_eq_true (show (R.length : Int) > 4 by omega), if_pos rfl, decide_eq_false h4, Bool.false_and]
  · rw [if_neg hm]
    simp only [Bool.not_eq_true] at hm
    rw [hm, Bool.false_and]
    simp
/-- The operations of a route with the route's number and their places. -/
def flatI (i : Nat) : Nat → List S109 → List (S109 × Nat × Nat)
  | _, [] => []
  | k, x :: r => (x, i, k) :: flatI i (k + 1) r
def flatR : Nat → List (List S109) → List (S109 × Nat × Nat)
  | _, [] => []
  | i, r :: R => flatI i 0 r ++ flatR (i + 1) R
def fOps (F : List (S109 × Nat × Nat)) : List S109 := F.map (·.1)
def fRoute (F : List (S109 × Nat × Nat)) : List Int := F.map (fun x => (x.2.1 : Int))
def fIdx (F : List (S109 × Nat × Nat)) : List Int := F.map (fun x => (x.2.2 : Int))
theorem flatI_len (i : Nat) : ∀ (r : List S109) (k : Nat), (flatI i k r).length = r.length
  | [], k => rfl
  | x :: r, k => by rw [flatI, List.length_cons, flatI_len i r, List.length_cons]
theorem flatI_ops (i : Nat) : ∀ (r : List S109) (k : Nat), fOps (flatI i k r) = r
  | [], k => rfl
  | x :: r, k => by
    have := flatI_ops i r (k + 1)
    simp only [fOps] at this
    simp only [flatI, fOps, List.map_cons, this]
theorem flatR_len : ∀ (R : List (List S109)) (i : Nat), (flatR i R).length = cntN R
  | [], i => rfl
  | r :: R, i => by rw [flatR, List.length_append, flatI_len, flatR_len R, cntN]
theorem flatOf_in (i : Nat) (R : List (List S109)) (n : Int) (x : List S109) (hx : x.length ≤ 1048576) : ∀ (r pre : List S109) (F : List (S109 × Nat × Nat)), pre ++ r = x → F.length + r.length < 4000000 →
    L (fun k => impl_flatOf.l1 k (i : Int) R n (i : Int) x (x.length : Int) (pre.length : Int) (fOps F) (fRoute F) (fIdx F)) = L (fun k => impl_flatOf.l0 k R n (wrap64 ((i : Int) + 1)) (fOps (F ++ flatI i pre.length r)) (fRoute (F ++ flatI i pre.length r)) (fIdx (F ++ flatI i pre.length r)))
  | [], pre, F, hp, hF => by
    rw [L_shift]
    simp only [List.append_nil] at hp
    subst hp
    simp only [impl_flatOf.l1, if_neg (show ¬ ((pre.length : Int) < (pre.length : Int)) by omega), flatI, List.append_nil]
  | y :: r, pre, F, hp, hF => by
    rw [L_shift]
    have hl : x.length = pre.length + (r.length + 1) := by rw [← hp]; simp
    have e : rd_T109 x (pre.length : Int) = y := by rw [← hp]; exact getD_mid pre y r _
    simp only [List.length_cons] at hF
    have ih := flatOf_in i R n x hx r (pre ++ [y]) (F ++ [(y, i, pre.length)]) (by rw [← hp]; simp) (by simp; omega)
    have e1 : fOps (F ++ [(y, i, pre.length)]) = fOps F ++ [y] := by simp [fOps]
    have e2 : fRoute (F ++ [(y, i, pre.length)]) = fRoute F ++ [(i : Int)] := by simp [fRoute]
    have e3 : fIdx (F ++ [(y, i, pre.length)]) = fIdx F ++ [(pre.length : Int)] := by simp [fIdx]
    have l1 : (fOps F).length = F.length := by simp [fOps]
    have l2 : (fRoute F).length = F.length := by simp [fRoute]
    have l3 : (fIdx F).length = F.length := by simp [fIdx]
    rw [e1, e2, e3] at ih
    simp only [impl_flatOf.l1, if_pos (show (pre.length : Int) < (x.length : Int) by omega), le_nat, if_true, e, l1, l2, l3, if_pos (show F.length < 8796093022208 by omega), if_pos (show F.length < 17592186044416 by omega), wrap_mid pre y (show pre.length < 4611686018427387904 by omega)]
    refine ih.trans ?_
    simp only [flatI, List.length_append, List.length_singleton, List.append_assoc, List.singleton_append]
theorem flatOf_l (R : List (List S109)) (hR : R.length ≤ 4) (hRr : ∀ x ∈ R, x.length ≤ 1048576) : ∀ (r pre : List (List S109)) (F : List (S109 × Nat × Nat)), pre ++ r = R → F.length + cntN r ≤ 1000 →
    L (fun k => impl_flatOf.l0 k R (R.length : Int) (pre.length : Int) (fOps F) (fRoute F) (fIdx F)) = some (fOps (F ++ flatR pre.length r), fRoute (F ++ flatR pre.length r), fIdx (F ++ flatR pre.length r))
  | [], pre, F, hp, hF => by
    rw [L_shift]
    simp only [List.append_nil] at hp
    subst hp
    simp only [impl_flatOf.l0, if_neg (show ¬ ((pre.length : Int) < (pre.length : Int)) by omega), L_const, flatR, List.append_nil]
  | x :: r, pre, F, hp, hF => by
    rw [L_shift]
    have hl : R.length = pre.length + (r.length + 1) := by rw [← hp]; simp
    have e : rd_L11 R (pre.length : Int) = x := by rw [← hp]; exact getD_mid pre x r _
    have hx := hRr x (by rw [← hp]; simp)
    rw [cntN] at hF
    have hin := flatOf_in pre.length R (R.length : Int) x hx x [] F rfl (by omega)
    simp only [List.length_nil, Int.natCast_zero] at hin
    have ih := flatOf_l R hR hRr r (pre ++ [x]) (F ++ flatI pre.length 0 x) (by rw [← hp]; simp) (by rw [List.length_append, flatI_len]; omega)
    simp only [impl_flatOf.l0, if_pos (show (pre.length : Int) < (R.length : Int) by omega), le_nat, if_true, e, hin, wrap_mid pre x (show pre.length < 4611686018427387904 by omega), ih]
    simp only [flatR, List.length_append, List.length_singleton, List.append_assoc]
theorem flatOf_L (m : Int) (R : List (List S109)) (h : Shop9 m R) : L (fun k => impl_flatOf.f k m R) = some (fOps (flatR 0 R), fRoute (flatR 0 R), fIdx (flatR 0 R)) := by
  have hc := h.cnt
  have hrl : ∀ (R : List (List S109)) (x : List S109), x ∈ R → x.length ≤ cntN R := by
    intro R
    induction R with
    | nil => intro x hx; cases hx
    | cons y R ih =>
      intro x hx
      rw [cntN]
      rcases List.mem_cons.1 hx with rfl | hx
      · omega
      · have := ih x hx
        omega
  have := flatOf_l R h.len (fun x hx => by have := hrl R x hx; omega) R [] [] rfl (by simp; omega)
  simpa [impl_flatOf.f, fOps, fRoute, fIdx] using this
/-- The places of the operations of a machine. -/
def onF (m : Int) : Nat → List S109 → List Int
  | _, [] => []
  | i, x :: r => if x.f0 = m then (i : Int) :: onF m (i + 1) r else onF m (i + 1) r
theorem onF_len (m : Int) : ∀ (r : List S109) (i : Nat), (onF m i r).length ≤ r.length
  | [], i => Nat.le_refl _
  | x :: r, i => by
    have := onF_len m r (i + 1)
    rw [onF]
    split
    · simp; omega
    · simp; omega
theorem flatOn_l (m : Int) (O : List S109) (hO : O.length ≤ 1000) : ∀ (r pre : List S109) (acc : List Int), pre ++ r = O → acc.length + r.length ≤ 2000 →
    L (fun k => impl_flat_on.l0 k m acc O (O.length : Int) (pre.length : Int)) = some (acc ++ onF m pre.length r)
  | [], pre, acc, hp, ha => by
    rw [L_shift]
    simp only [List.append_nil] at hp
    subst hp
    simp only [impl_flat_on.l0, if_neg (show ¬ ((pre.length : Int) < (pre.length : Int)) by omega), L_const, onF, List.append_nil]
  | x :: r, pre, acc, hp, ha => by
    rw [L_shift]
    have hl : O.length = pre.length + (r.length + 1) := by rw [← hp]; simp
    have e : rd_T109 O (pre.length : Int) = x := by rw [← hp]; exact getD_mid pre x r _
    simp only [List.length_cons] at ha
    have e7 : (pre ++ [x]).length = pre.length + 1 := by simp
    have i1 := flatOn_l m O hO r (pre ++ [x]) (acc ++ [(pre.length : Int)]) (by rw [← hp]; simp) (by simp; omega)
    have i2 := flatOn_l m O hO r (pre ++ [x]) acc (by rw [← hp]; simp) (by omega)
    rw [e7] at i1 i2
    simp only [impl_flat_on.l0, if_pos (show (pre.length : Int) < (O.length : Int) by omega), le_nat, if_true, e, if_pos (show acc.length < 17592186044416 by omega), wrap_mid pre x (show pre.length < 4611686018427387904 by omega), L_ite, i1, i2, onF, e7]
    split
    · simp
    · rfl
theorem flatOn_L (O : List S109) (a b : List Int) (m : Int) (hO : O.length ≤ 1000) : L (fun k => impl_flat_on.f k O a b m) = some (onF m 0 O) := by
  have := flatOn_l m O hO O [] [] rfl (by simp; omega)
  simpa [impl_flat_on.f] using this
theorem fOps_app (a b : List (S109 × Nat × Nat)) : fOps (a ++ b) = fOps a ++ fOps b := by simp [fOps]
theorem l9All_l (m : Int) (R : List (List S109)) (hR : R.length ≤ 4) : ∀ (r pre : List (List S109)) (acc : List S109), pre ++ r = R → acc.length + cntN r ≤ 1000 →
    L (fun k => spec_l9All.l0 k acc (pre.length : Int) m R) = some (acc ++ fOps (flatR pre.length r))
  | [], pre, acc, hp, ha => by
    rw [L_shift]
    simp only [List.append_nil] at hp
    subst hp
    simp only [spec_l9All.l0, if_neg (show ¬ ((pre.length : Int) < (pre.length : Int)) by omega), L_const, flatR]
    simp [fOps]
  | x :: r, pre, acc, hp, ha => by
    rw [L_shift]
    have hl : R.length = pre.length + (r.length + 1) := by rw [← hp]; simp
    have e : rd_L11 R (pre.length : Int) = x := by rw [← hp]; exact getD_mid pre x r _
    rw [cntN] at ha
    have ih := l9All_l m R hR r (pre ++ [x]) (acc ++ x) (by rw [← hp]; simp) (by rw [List.length_append]; omega)
    simp only [spec_l9All.l0, if_pos (show (pre.length : Int) < (R.length : Int) by omega), le_nat, if_true, e, if_pos (show acc.length + x.length < 8796093022208 by omega), wrap_mid pre x (show pre.length < 4611686018427387904 by omega), ih]
    rw [flatR, fOps_app, flatI_ops, List.append_assoc]
    simp
theorem l9All_L (m : Int) (R : List (List S109)) (h : Shop9 m R) : L (fun k => spec_l9All.f k m R) = some (fOps (flatR 0 R)) := by
  have := l9All_l m R h.len R [] [] rfl (by have := h.cnt; simp; omega)
  simpa [spec_l9All.f] using this
theorem l9On_l (m : Int) (O : List S109) (hO : O.length ≤ 1000) : ∀ (r pre : List S109) (acc : List Int), pre ++ r = O → acc.length + r.length ≤ 2000 →
    L (fun k => spec_l9On.l0 k m acc O (pre.length : Int)) = some (acc ++ onF m pre.length r)
  | [], pre, acc, hp, ha => by
    rw [L_shift]
    simp only [List.append_nil] at hp
    subst hp
    simp only [spec_l9On.l0, if_neg (show ¬ ((pre.length : Int) < (pre.length : Int)) by omega), L_const, onF, List.append_nil]
  | x :: r, pre, acc, hp, ha => by
    rw [L_shift]
    have hl : O.length = pre.length + (r.length + 1) := by rw [← hp]; simp
    have e : rd_T109 O (pre.length : Int) = x := by rw [← hp]; exact getD_mid pre x r _
    simp only [List.length_cons] at ha
    have e7 : (pre ++ [x]).length = pre.length + 1 := by simp
    have i1 := l9On_l m O hO r (pre ++ [x]) (acc ++ [(pre.length : Int)]) (by rw [← hp]; simp) (by simp; omega)
    have i2 := l9On_l m O hO r (pre ++ [x]) acc (by rw [← hp]; simp) (by omega)
    rw [e7] at i1 i2
    simp only [spec_l9On.l0, if_pos (show (pre.length : Int) < (O.length : Int) by omega), le_nat, if_true, e, if_pos (show acc.length < 17592186044416 by omega), wrap_mid pre x (show pre.length < 4611686018427387904 by omega), L_ite, i1, i2, onF, e7]
    split
    · simp
    · rfl
theorem l9On_L (m : Int) (R : List (List S109)) (h : Shop9 m R) (a : Int) : L (fun k => spec_l9On.f k m R a) = some (onF a 0 (fOps (flatR 0 R))) := by
  have hl : (fOps (flatR 0 R)).length = cntN R := by rw [fOps, List.length_map, flatR_len]
  have := l9On_l a (fOps (flatR 0 R)) (by have := h.cnt; omega) (fOps (flatR 0 R)) [] [] rfl (by have := h.cnt; simp; omega)
  simp only [spec_l9On.f, L_bind, l9All_L m R h, Option.bind_some]
  simpa using this
theorem perm_sorted_eq (R : Int → Int → Prop) (h : ∀ a b, R a b → R b a → a = b) : ∀ s t : List Int, s.Perm t → s.Pairwise R → t.Pairwise R → s = t
  | [], t, hp, _, _ => (List.Perm.nil_eq hp)
  | a :: s, t, hp, hs, ht => by
    cases t with
    | nil => exact absurd hp.length_eq (by simp)
    | cons b t =>
      have hs' := List.pairwise_cons.1 hs
      have ht' := List.pairwise_cons.1 ht
      have e : a = b := by
        have ha : a ∈ b :: t := hp.subset List.mem_cons_self
        have hb : b ∈ a :: s := hp.symm.subset List.mem_cons_self
        rcases List.mem_cons.1 ha with e | ha
        · exact e
        · rcases List.mem_cons.1 hb with e | hb
          · exact e.symm
          · exact h a b (hs'.1 b hb) (ht'.1 a ha)
      subst e
      rw [perm_sorted_eq R h s t (List.Perm.cons_inv hp) hs'.2 ht'.2]
theorem insK_spec (p : Int → Int → Option Bool) (q : Int → Int → Bool) (x : Int) (out : List Int) (hp : ∀ y ∈ out, p x y = some (q x y)) : ∀ n, n ≤ out.length → ∃ k, k ≤ n ∧ impl_sortedBy.insK p x out n = some k ∧ (∀ j, k ≤ j → j < n → q x (out.getD j 0) = true) ∧ (0 < k → q x (out.getD (k - 1) 0) = false)
  | 0, _ => ⟨0, Nat.le_refl _, rfl, fun j h1 h2 => absurd h2 (by omega), fun h => absurd h (by omega)⟩
  | n + 1, hn => by
    have e : rd out (n : Int) = out.getD n 0 := by simp [rd]
    have hm : out.getD n 0 ∈ out := by
      rw [List.getD_eq_getElem?_getD, List.getElem?_eq_getElem (by omega)]
      exact List.getElem_mem _
    simp only [impl_sortedBy.insK, e, hp _ hm, Option.bind_some]
    by_cases hq : q x (out.getD n 0) = true
    · rw [if_pos hq]
      obtain ⟨k, h1, h2, h3, h4⟩ := insK_spec p q x out hp n (by omega)
      refine ⟨k, by omega, h2, fun j h5 h6 => ?_, h4⟩
      by_cases hj : j = n
      · subst hj; exact hq
      · exact h3 j h5 (by omega)
    · rw [if_neg hq]
      refine ⟨n + 1, Nat.le_refl _, rfl, fun j h1 h2 => absurd h2 (by omega), fun _ => ?_⟩
      simpa using hq
theorem insL_perm (out : List Int) (k : Nat) (x : Int) : (impl_sortedBy.insL out k x).Perm (x :: out) := by
  unfold impl_sortedBy.insL
  have h : (out.take k ++ x :: out.drop k).Perm (x :: (out.take k ++ out.drop k)) := List.perm_middle
  rwa [List.take_append_drop] at h
/-- Stable insertion keeps a row in order (no later one is ahead of an earlier one). -/
theorem insL_sorted (q : Int → Int → Bool) (tr : ∀ a b c, q b a = false → q c b = false → q c a = false) (asy : ∀ a b, q a b = true → q b a = false) (x : Int) (out : List Int) (k : Nat) (hk : k ≤ out.length) (hs : out.Pairwise (fun a b => q b a = false))
    (h1 : ∀ j, k ≤ j → j < out.length → q x (out.getD j 0) = true) (h2 : 0 < k → q x (out.getD (k - 1) 0) = false) : (impl_sortedBy.insL out k x).Pairwise (fun a b => q b a = false) := by
  unfold impl_sortedBy.insL
  have hs2 := hs
  rw [← List.take_append_drop k out] at hs2
  obtain ⟨ha, hb, hab⟩ := List.pairwise_append.1 hs2
  have hL : ∀ a ∈ out.take k, q x a = false := by
    intro a hm
    obtain ⟨i, hi, rfl⟩ := List.getElem_of_mem hm
    have hi' : i < k := by rw [List.length_take] at hi; omega
    have hz := h2 (by omega)
    rw [List.getElem_take]
    by_cases he : i = k - 1
    · subst he
      rw [List.getD_eq_getElem?_getD, List.getElem?_eq_getElem (by omega)] at hz
      simpa using hz
    · have hr := (List.pairwise_iff_getElem.1 hs) i (k - 1) (by omega) (by omega) (by omega)
      rw [List.getD_eq_getElem?_getD, List.getElem?_eq_getElem (show k - 1 < out.length by omega)] at hz
      exact tr _ _ _ hr (by simpa using hz)
  have hR : ∀ b ∈ out.drop k, q b x = false := by
    intro b hm
    obtain ⟨i, hi, rfl⟩ := List.getElem_of_mem hm
    have hi' : k + i < out.length := by rw [List.length_drop] at hi; omega
    rw [List.getElem_drop]
    have hz := h1 (k + i) (by omega) hi'
    rw [List.getD_eq_getElem?_getD, List.getElem?_eq_getElem hi'] at hz
    exact asy _ _ (by simpa using hz)
  refine List.pairwise_append.2 ⟨ha, List.pairwise_cons.2 ⟨hR, hb⟩, ?_⟩
  intro a hm b hmb
  rcases List.mem_cons.1 hmb with rfl | hmb
  · exact hL a hm
  · exact hab a hm b hmb
theorem sortO_spec (p : Int → Int → Option Bool) (q : Int → Int → Bool) (P : Int → Prop) (hp : ∀ a b, P a → P b → p a b = some (q a b)) (tr : ∀ a b c, q b a = false → q c b = false → q c a = false) (asy : ∀ a b, q a b = true → q b a = false) : ∀ (l out : List Int), (∀ x ∈ l, P x) → (∀ x ∈ out, P x) → out.Pairwise (fun a b => q b a = false) →
    ∃ s, impl_sortedBy.sortO p l out = some s ∧ s.Perm (out ++ l) ∧ s.Pairwise (fun a b => q b a = false)
  | [], out, _, _, hs => ⟨out, rfl, by rw [List.append_nil], hs⟩
  | x :: l, out, hl, ho, hs => by
    obtain ⟨k, h1, h2, h3, h4⟩ := insK_spec p q x out (fun y hy => hp x y (hl x List.mem_cons_self) (ho y hy)) out.length (Nat.le_refl _)
    have hpm := insL_perm out k x
    obtain ⟨s, e1, e2, e3⟩ := sortO_spec p q P hp tr asy l (impl_sortedBy.insL out k x) (fun y hy => hl y (List.mem_cons_of_mem _ hy)) (fun y hy => by
      rcases List.mem_cons.1 (hpm.subset hy) with rfl | hy
      · exact hl _ List.mem_cons_self
      · exact ho y hy) (insL_sorted q tr asy x out k h1 hs h3 h4)
    refine ⟨s, ?_, ?_, e3⟩
    · simp only [impl_sortedBy.sortO, h2, Option.bind_some]
      exact e1
    · refine e2.trans ((hpm.append_right l).trans ?_)
      exact (List.perm_middle (l₁ := out) (a := x) (l₂ := l)).symm
theorem ascending_e (l : List Int) (h : l.length ≤ 1000000) : ∃ s, impl_ascending.f l = some s ∧ s.Perm l ∧ s.Pairwise (· ≤ ·) := by
  obtain ⟨s, h1, h2, h3⟩ := sortO_spec impl_ascending_1.f (fun a b => decide (a < b)) (fun _ => True) (fun a b _ _ => rfl) (fun a b c h1 h2 => by simp at h1 h2 ⊢; omega) (fun a b h1 => by simp at h1 ⊢; omega) l [] (fun _ _ => trivial) (by simp) List.Pairwise.nil
  refine ⟨s, ?_, by simpa using h2, h3.imp (fun h => by simpa using h)⟩
  unfold impl_ascending.f
  rw [if_pos h]
  exact h1
theorem perm_of_sub : ∀ (W x : List Int), W.Nodup → (∀ a ∈ W, a ∈ x) → x.length = W.length → x.Perm W
  | [], x, _, _, hl => by
    have : x = [] := List.eq_nil_of_length_eq_zero hl
    rw [this]
  | w :: W, x, hn, hs, hl => by
    have hn' := List.nodup_cons.1 hn
    have hw := hs w List.mem_cons_self
    have hp := List.perm_cons_erase hw
    have hle : (x.erase w).length = W.length := by
      have := hp.length_eq
      simp only [List.length_cons] at this hl
      omega
    have ih := perm_of_sub W (x.erase w) hn'.2 (fun a ha => (List.mem_erase_of_ne (fun (e : a = w) => hn'.1 (by rw [← e]; exact ha))).2 (hs a (List.mem_cons_of_mem _ ha))) hle
    exact hp.trans (ih.cons w)
theorem nodup_bd : ∀ (n : Nat) (x : List Int), x.Nodup → (∀ a ∈ x, 0 ≤ a ∧ a < (n : Int)) → x.length ≤ n
  | 0, x, _, h => by
    cases x with
    | nil => exact Nat.le_refl _
    | cons a x => have := h a List.mem_cons_self; omega
  | n + 1, x, hn, h => by
    by_cases hm : (n : Int) ∈ x
    · have hp := List.perm_cons_erase hm
      have hn2 := List.nodup_cons.1 (hp.nodup_iff.1 hn)
      have ih := nodup_bd n (x.erase (n : Int)) hn2.2 (fun a ha => by
        have h1 := h a (List.mem_of_mem_erase ha)
        have h2 : a ≠ (n : Int) := fun e => by rw [e] at ha; exact hn2.1 ha
        omega)
      have := hp.length_eq
      simp only [List.length_cons] at this
      omega
    · have ih := nodup_bd n x hn (fun a ha => by
        have h1 := h a ha
        have h2 : a ≠ (n : Int) := fun e => by rw [e] at ha; exact hm ha
        omega)
      omega
theorem onF_props (m : Int) : ∀ (r : List S109) (i : Nat), (∀ a ∈ onF m i r, (i : Int) ≤ a ∧ a < (i : Int) + (r.length : Int)) ∧ (onF m i r).Pairwise (· < ·)
  | [], i => by simp [onF]
  | x :: r, i => by
    obtain ⟨h1, h2⟩ := onF_props m r (i + 1)
    have h3 : ∀ a ∈ onF m (i + 1) r, (i : Int) < a ∧ a < (i : Int) + ((x :: r).length : Int) := fun a ha => by
      have := h1 a ha
      simp only [List.length_cons]
      omega
    rw [onF]
    split
    · refine ⟨fun a ha => ?_, List.pairwise_cons.2 ⟨fun a ha => (h3 a ha).1, h2⟩⟩
      rcases List.mem_cons.1 ha with rfl | ha
      · simp only [List.length_cons]; omega
      · have := h3 a ha; omega
    · exact ⟨fun a ha => by have := h3 a ha; omega, h2⟩
def selRow (W x : List Int) : Bool := W.all (fun a => decide (a ∈ x)) && decide ((x.length : Int) = (W.length : Int))
def selF (O : List S109) : Nat → List (List Int) → Bool
  | _, [] => true
  | k, x :: r => selRow (onF (k : Int) 0 O) x && selF O (k + 1) r
theorem selRow_iff {W x s : List Int} {N : Nat} (hW : W.Pairwise (· < ·)) (hr : ∀ a ∈ W, 0 ≤ a ∧ a < (N : Int)) (hs : s.Perm x) (ho : s.Pairwise (· ≤ ·)) : selRow W x = (diffB (N : Int) [] x && decide (s = W)) := by
  have hWn : W.Nodup := hW.imp (fun h => by omega)
  have hWl : W.Pairwise (· ≤ ·) := hW.imp (fun h => by omega)
  rw [Bool.eq_iff_iff]
  simp only [selRow, Bool.and_eq_true, List.all_eq_true, decide_eq_true_eq]
  constructor
  · rintro ⟨h1, h2⟩
    have hp := perm_of_sub W x hWn h1 (by omega)
    refine ⟨(diffB_iff (N : Int) x []).2 ⟨fun a ha => hr a (hp.subset ha), hp.nodup_iff.2 hWn, by simp⟩, ?_⟩
    exact perm_sorted_eq (· ≤ ·) (fun a b h1 h2 => by omega) s W (hs.trans hp) ho hWl
  · rintro ⟨_, rfl⟩
    exact ⟨fun a ha => hs.subset ha, by rw [hs.length_eq]⟩
theorem selects_in (m : Int) (R : List (List S109)) (O : List (List Int)) (x W : List Int) (hx : x.length ≤ 1048576) (pre r : List (List Int)) (hp : pre ++ x :: r = O) (hO : O.length ≤ 1048576) (hW : W.length ≤ 1048576) : ∀ (s q : List Int), q ++ s = W →
    L (fun k => spec_l9Selects.l1 k O (pre.length : Int) W (q.length : Int) m R) = if (s.all (fun a => decide (a ∈ x)) && decide ((x.length : Int) = (W.length : Int))) = true then L (fun k => spec_l9Selects.l0 k O ((pre ++ [x]).length : Int) m R) else some false
  | [], q, hq => by
    rw [L_shift]
    simp only [List.append_nil] at hq
    subst hq
    have hl : O.length = pre.length + (r.length + 1) := by rw [← hp]; simp
    have e : rd_L6 O (pre.length : Int) = x := by rw [← hp]; exact getD_mid pre x r _
    simp only [spec_l9Selects.l1, Int.lt_irrefl, if_false, le_nat, if_true, if_pos (show (pre.length : Int) < (O.length : Int) by omega), e, L_ite, L_const, wrap_mid pre x (show pre.length < 4611686018427387904 by omega), List.all_nil, Bool.true_and, decide_eq_true_eq]
  | a :: s, q, hq => by
    rw [L_shift]
    have hl : O.length = pre.length + (r.length + 1) := by rw [← hp]; simp
    have hWl : W.length = q.length + (s.length + 1) := by rw [← hq]; simp
    have e : rd_L6 O (pre.length : Int) = x := by rw [← hp]; exact getD_mid pre x r _
    have ea : rd W (q.length : Int) = a := by rw [← hq]; exact getD_mid q a s _
    have ih := selects_in m R O x W hx pre r hp hO hW s (q ++ [a]) (by rw [← hq]; simp)
    simp only [spec_l9Selects.l1, if_pos (show (q.length : Int) < (W.length : Int) by omega), le_nat, if_true, if_pos (show (pre.length : Int) < (O.length : Int) by omega), e, ea, L_bind, L_ite, L_const, l1Has_L x a (by omega), Option.bind_some, wrap_mid q a (show q.length < 4611686018427387904 by omega), ih, List.all_cons]
    by_cases ha : a ∈ x
    · simp only [ha, decide_true, if_true, Bool.true_and]
    · simp only [ha, decide_false, Bool.false_eq_true, if_false, Bool.false_and]
theorem selects_l (m : Int) (R : List (List S109)) (h : Shop9 m R) (O : List (List Int)) (hO : O.length ≤ 1048576) (hOr : ∀ x ∈ O, x.length ≤ 1048576) : ∀ (r pre : List (List Int)), pre ++ r = O →
    L (fun k => spec_l9Selects.l0 k O (pre.length : Int) m R) = some (selF (fOps (flatR 0 R)) pre.length r)
  | [], pre, hp => by
    rw [L_shift]
    simp only [List.append_nil] at hp
    subst hp
    simp only [spec_l9Selects.l0, Int.lt_irrefl, if_false, L_const, selF]
  | x :: r, pre, hp => by
    rw [L_shift]
    have hl : O.length = pre.length + (r.length + 1) := by rw [← hp]; simp
    have hn : (fOps (flatR 0 R)).length = cntN R := by rw [fOps, List.length_map, flatR_len]
    have hc := h.cnt
    have hw := onF_len (pre.length : Int) (fOps (flatR 0 R)) 0
    have hx := hOr x (by rw [← hp]; simp)
    have ih := selects_l m R h O hO hOr r (pre ++ [x]) (by rw [← hp]; simp)
    have h1 := selects_in m R O x (onF (pre.length : Int) 0 (fOps (flatR 0 R))) hx pre r hp hO (by omega) (onF (pre.length : Int) 0 (fOps (flatR 0 R))) [] rfl
    simp only [List.length_nil, Int.natCast_zero] at h1
    simp only [spec_l9Selects.l0, if_pos (show (pre.length : Int) < (O.length : Int) by omega), L_bind, l9On_L m R h, Option.bind_some, h1, ih]
    rw [selF, show (pre ++ [x]).length = pre.length + 1 by simp]
    have e : ((onF (pre.length : Int) 0 (fOps (flatR 0 R))).all (fun a => decide (a ∈ x)) && decide ((x.length : Int) = ((onF (pre.length : Int) 0 (fOps (flatR 0 R))).length : Int))) = selRow (onF (pre.length : Int) 0 (fOps (flatR 0 R))) x := rfl
    rw [e]
    cases selRow (onF (pre.length : Int) 0 (fOps (flatR 0 R))) x <;> simp
theorem isSelection_l (Op : List S109) (a b : List Int) (hOp : Op.length ≤ 12) (O : List (List Int)) (hO : O.length ≤ 1048576) (hOr : ∀ x ∈ O, x.length ≤ 1048576) : ∀ (r pre : List (List Int)), pre ++ r = O →
    L (fun k => impl_isSelection.l0 k O (O.length : Int) (pre.length : Int) Op a b) = some (selF Op pre.length r)
  | [], pre, hp => by
    rw [L_shift]
    simp only [List.append_nil] at hp
    subst hp
    simp only [impl_isSelection.l0, Int.lt_irrefl, if_false, L_const, selF]
  | x :: r, pre, hp => by
    rw [L_shift]
    have hl : O.length = pre.length + (r.length + 1) := by rw [← hp]; simp
    have e : rd_L6 O (pre.length : Int) = x := by rw [← hp]; exact getD_mid pre x r _
    have hx := hOr x (by rw [← hp]; simp)
    have ih := isSelection_l Op a b hOp O hO hOr r (pre ++ [x]) (by rw [← hp]; simp)
    obtain ⟨hw1, hw2⟩ := onF_props (pre.length : Int) Op 0
    have hw := onF_len (pre.length : Int) Op 0
    simp only [impl_isSelection.l0, if_pos (show (pre.length : Int) < (O.length : Int) by omega), le_nat, if_true, e, L_bind, L_ite, L_const, areDifferent_L Op.length x (by omega) (by omega), Option.bind_some, wrap_mid pre x (show pre.length < 4611686018427387904 by omega), ih]
    rw [selF, show (pre ++ [x]).length = pre.length + 1 by simp]
    by_cases hd : diffB (Op.length : Int) [] x = true
    · obtain ⟨d1, d2, _⟩ := (diffB_iff (Op.length : Int) x []).1 hd
      have d3 := nodup_bd Op.length x d2 d1
      obtain ⟨s, hs, hs1, hs2⟩ := ascending_e x (by omega)
      have hsl := hs1.length_eq
      obtain ⟨c, hc, _, hc0⟩ := compareG_L s (onF (pre.length : Int) 0 Op) (by omega) (by omega) (fun y hy => by have := d1 y (hs1.subset hy); omega) (fun y hy => by have := hw1 y hy; omega)
      rw [selRow_iff (N := Op.length) hw2 (fun y hy => by have := hw1 y hy; omega) hs1 hs2]
      simp only [hd, if_true, hs, Option.bind_some, flatOn_L Op a b (pre.length : Int) (by omega), hc, Bool.true_and]
      by_cases hz : c = 0
      · simp only [hz, if_true, hc0.1 hz, decide_true, Bool.true_and]
      · have : ¬ s = onF (pre.length : Int) 0 Op := fun e => hz (hc0.2 e)
        simp only [hz, if_false, this, decide_false, Bool.false_and]
    · have hd' : diffB (Op.length : Int) [] x = false := by simpa using hd
      have hsel : selRow (onF (pre.length : Int) 0 Op) x = false := by
        cases hq : selRow (onF (pre.length : Int) 0 Op) x with
        | false => rfl
        | true =>
          simp only [selRow, Bool.and_eq_true, List.all_eq_true, decide_eq_true_eq] at hq
          have hp' := perm_of_sub _ x (hw2.imp (fun h => by omega)) hq.1 (by omega)
          have := (diffB_iff (Op.length : Int) x []).2 ⟨fun y hy => by have := hw1 y (hp'.subset hy); omega, hp'.nodup_iff.2 (hw2.imp (fun h => by omega)), by simp⟩
          rw [hd'] at this
          cases this
      simp only [hd', Bool.false_eq_true, if_false, hsel, Bool.false_and]

theorem IsSelection_both (m : Int) (R : List (List S109)) (O : List (List Int)) (hR : R.length ≤ 1048576) (hRr : ∀ x ∈ R, x.length ≤ 1048576) (hO : O.length ≤ 1048576) (hOr : ∀ x ∈ O, x.length ≤ 1048576) :
    ∃ (b ok : Bool), L (fun k => spec_IsSelection.f k m R O) = some (b, ok) ∧ L (fun k => impl_IsSelection.f k m R O) = some (b, ok) := by
  simp only [spec_IsSelection.f, impl_IsSelection.f, L_bind, L_ite, L_const, l9Good_L m R hR hRr, IsJobShop_L m R hR hRr, Option.bind_some]
  cases hs : shop9B m R with
  | false => exact ⟨false, false, by simp, by simp⟩
  | true =>
    have h := shop9B_iff hs
    have hn : (fOps (flatR 0 R)).length = cntN R := by rw [fOps, List.length_map, flatR_len]
    have hc := h.cnt
    simp only [if_true, spec_l9Selects.f, impl_isSelection.f, L_ite, L_const, L_bind, flatOf_L m R h, Option.bind_some]
    by_cases hm : (O.length : Int) = m
    · have h1 := selects_l m R h O hO hOr O [] rfl
      have h2 := isSelection_l (fOps (flatR 0 R)) (fRoute (flatR 0 R)) (fIdx (flatR 0 R)) (by omega) O hO hOr O [] rfl
      simp only [List.length_nil, Int.natCast_zero] at h1 h2
      exact ⟨selF (fOps (flatR 0 R)) 0 O, true, by simp only [if_pos hm, h1, Option.bind_some], by simp only [if_pos hm, h2, Option.bind_some]⟩
    · exact ⟨false, true, by simp only [if_neg hm, Option.bind_some], by simp only [if_neg hm, Option.bind_some]⟩
theorem FnExactIsSelection : laws_FnExactIsSelection.Pure := by
  intro m l O h1 ⟨h2, h3⟩ h4 h5
  have e1 : maxLen = 9223372036854775807 := rfl
  refine rounds_of_L ?_
  unfold laws_FnExactIsSelection.f
  obtain ⟨v, hv, hd⟩ := szJobShop_L m l 1048576 (by omega) (by omega) (by omega) (fun x hx => by have := (h3 x hx).1; omega)
  (rw [L_bind, hv, Option.bind_some]; try dsimp only)
  rcases hd with hd | ⟨hd0, hd1, hl, hr⟩
  · rw [L_ite, if_pos hd, L_const]
  · rw [L_ite, if_neg (by omega)]
    obtain ⟨t, ht, hdt⟩ := szIntSS_L O v hd0 hd1 (by omega) (fun x hx => by have := (h5 x hx).1; omega)
    (rw [L_bind, ht, Option.bind_some]; try dsimp only)
    rcases hdt with hdt | ⟨hdt0, hOl, hOr⟩
    · rw [L_ite, if_pos hdt, L_const]
    · rw [L_ite, if_neg (by omega)]
      have hl2 : (l.map (List.map toOpP)).length ≤ 1048576 := by simpa using hl
      have hr2 : ∀ x ∈ l.map (List.map toOpP), x.length ≤ 1048576 := by
        intro x hx
        obtain ⟨y, hy, rfl⟩ := List.mem_map.1 hx
        simpa using hr y hy
      obtain ⟨b, ok, hs, hi⟩ := IsSelection_both m (l.map (List.map toOpP)) O hl2 hr2 hOl hOr
      (rw [L_bind, (toJobShop_L m l hl hr), Option.bind_some]; try dsimp only)
      (rw [L_bind, (toIntSS_L O hOl hOr), Option.bind_some]; try dsimp only)
      (rw [L_bind, hs, Option.bind_some]; try dsimp only)
      (rw [L_bind, (toJobShop_L m l hl hr), Option.bind_some]; try dsimp only)
      (rw [L_bind, (toIntSS_L O hOl hOr), Option.bind_some]; try dsimp only)
      (rw [L_bind, hi, Option.bind_some]; try dsimp only)
      simp only [bne_self_eq_false, Bool.false_eq_true, if_false]
      rw [L_shift]
      simp only [laws_FnExactIsSelection.j0, Bool.false_eq_true, if_false]
      (rw [L_bind, (toJobShop_L m l hl hr), Option.bind_some]; try dsimp only)
      (rw [L_bind, (eqJobShop_L m _ hl2 hr2), Option.bind_some]; try dsimp only)
      rw [L_ite, if_pos rfl]
      (rw [L_bind, (toIntSS_L O hOl hOr), Option.bind_some]; try dsimp only)
      (rw [L_bind, (eqIntSS_L O hOl hOr), Option.bind_some]; try dsimp only)
      rw [L_ite, if_pos rfl]
      rw [L_const]

end Go.Proofs.Ytpdjnbbikgkgpaa.Pure
