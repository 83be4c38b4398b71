/- The program's IsPiecePlan answers what the reference's answers, for all shops and lists of pieces. -/
import Derived.Test.YtgpnophjbibhhaaXSFnExactIsPiecePlan
import Derived.Test.YtgpnophjbibhhaaXLim
namespace Go.Proofs.Ytgpnophjbibhhaa.Pure
open Go.RowKit Go.Proofs.YtgpnophjbibhhaaW.PrintWords Go.Proofs.YtgpnophjbibhhaaW.PrintLast Go.Proofs.YtgpnophjbibhhaaW.PrintMore Go.Proofs.Ytgpnophjbibhhaa.X Go.Proofs.Ytgpnophjbibhhaa.XRow Go.Proofs.Ytgpnophjbibhhaa.XLim
set_option linter.unusedVariables false
set_option linter.unusedSimpArgs false
instance : ∀ a0 a1, Mono (fun k => impl_IsPiecePlan.f k a0 a1) := fun a0 a1 => ⟨⟨impl_IsPiecePlan.mono a0 a1⟩⟩
instance : ∀ a0 a1 a2, Mono (fun k => impl_allWithin.f k a0 a1 a2) := fun a0 a1 a2 => ⟨⟨impl_allWithin.mono a0 a1 a2⟩⟩
instance : ∀ a0 a1, Mono (fun k => impl_has.f k a0 a1) := fun a0 a1 => ⟨⟨impl_has.mono a0 a1⟩⟩
instance : ∀ a0 a1, Mono (fun k => impl_isPiecePlan.f k a0 a1) := fun a0 a1 => ⟨⟨impl_isPiecePlan.mono a0 a1⟩⟩
instance : ∀ a0, Mono (fun k => impl_isShop.f k a0) := fun a0 => ⟨⟨impl_isShop.mono a0⟩⟩
instance : ∀ a0 a1, Mono (fun k => laws_FnExactIsPiecePlan.f k a0 a1) := fun a0 a1 => ⟨⟨laws_FnExactIsPiecePlan.mono a0 a1⟩⟩
instance : ∀ a0 a1, Mono (fun k => laws_eqIntS.f k a0 a1) := fun a0 a1 => ⟨⟨laws_eqIntS.mono a0 a1⟩⟩
instance : ∀ a0 a1, Mono (fun k => laws_eqIntSS.f k a0 a1) := fun a0 a1 => ⟨⟨laws_eqIntSS.mono a0 a1⟩⟩
instance : ∀ a0 a1 a2 a3, Mono (fun k => laws_eqShopPiece.f k a0 a1 a2 a3) := fun a0 a1 a2 a3 => ⟨⟨laws_eqShopPiece.mono a0 a1 a2 a3⟩⟩
instance : ∀ a0 a1, Mono (fun k => laws_eqShopPieceS.f k a0 a1) := fun a0 a1 => ⟨⟨laws_eqShopPieceS.mono a0 a1⟩⟩
instance : ∀ a0 a1, Mono (fun k => laws_szIntSS.f k a0 a1) := fun a0 a1 => ⟨⟨laws_szIntSS.mono a0 a1⟩⟩
instance : ∀ a0 a1, Mono (fun k => laws_szShopPieceS.f k a0 a1) := fun a0 a1 => ⟨⟨laws_szShopPieceS.mono a0 a1⟩⟩
instance : ∀ a0, Mono (fun k => laws_toIntS.f k a0) := fun a0 => ⟨⟨laws_toIntS.mono a0⟩⟩
instance : ∀ a0, Mono (fun k => laws_toIntSS.f k a0) := fun a0 => ⟨⟨laws_toIntSS.mono a0⟩⟩
instance : ∀ a0 a1, Mono (fun k => laws_toShopPiece.f k a0 a1) := fun a0 a1 => ⟨⟨laws_toShopPiece.mono a0 a1⟩⟩
instance : ∀ a0, Mono (fun k => laws_toShopPieceS.f k a0) := fun a0 => ⟨⟨laws_toShopPieceS.mono a0⟩⟩
instance : ∀ a0 a1, Mono (fun k => spec_IsPiecePlan.f k a0 a1) := fun a0 a1 => ⟨⟨spec_IsPiecePlan.mono a0 a1⟩⟩
instance : ∀ a0 a1, Mono (fun k => spec_l1Has.f k a0 a1) := fun a0 a1 => ⟨⟨spec_l1Has.mono a0 a1⟩⟩
instance : ∀ a0 a1, Mono (fun k => spec_l1Same.f k a0 a1) := fun a0 a1 => ⟨⟨spec_l1Same.mono a0 a1⟩⟩
instance : ∀ a0, Mono (fun k => spec_l8Good.f k a0) := fun a0 => ⟨⟨spec_l8Good.mono a0⟩⟩
instance : ∀ a0 a1 a2, Mono (fun k => spec_l8Piece.f k a0 a1 a2) := fun a0 a1 a2 => ⟨⟨spec_l8Piece.mono a0 a1 a2⟩⟩
theorem lt_mid {α : Type} (pre : List α) (x : α) (r : List α) : ((pre.length : Int) < ((pre ++ x :: r).length : Int)) = True := by
  simp only [List.length_append, List.length_cons]
  exact eq_true (by omega)
theorem not_lt_end {α : Type} (pre : List α) : ((pre.length : Int) < ((pre ++ []).length : Int)) = False := by
  simp
theorem le_nat (n : Nat) : (0 ≤ (n : Int)) = True := eq_true (by omega)
theorem getD_mid {α : Type} (pre : List α) (x : α) (r : List α) (d : α) : (pre ++ x :: r).getD (pre.length : Int).toNat d = x := by
  simp [List.getD_eq_getElem?_getD]
theorem rd_mid (pre : List Int) (x : Int) (r : List Int) : rd (pre ++ x :: r) (pre.length : Int) = x := getD_mid pre x r 0
theorem wrap_mid {α : Type} (pre : List α) (x : α) (h : pre.length < 4611686018427387904) : wrap64 ((pre.length : Int) + 1) = ((pre ++ [x]).length : Int) := by
  rw [wrap_id (by omega) (by omega)]
  simp
theorem set_mid {α β : Type} (a : List α) (y v : α) (b : List α) (pre : List β) (h : pre.length = a.length) : (a ++ y :: b).set (pre.length : Int).toNat v = a ++ v :: b := by
  rw [Int.toNat_natCast, h, List.set_append_right _ _ (Nat.le_refl _)]
  simp
theorem rep_succ {α : Type} (x : α) (r : List α) {β : Type} (z : β) : List.replicate (x :: r).length z = z :: List.replicate r.length z := rfl
theorem app_cons {α : Type} (pre : List α) (x : α) (r : List α) : pre ++ x :: r = (pre ++ [x]) ++ r := by simp
theorem getD_set (out : List Int) (i j : Nat) (v : Int) : (out.set i v).getD j 0 = if i = j ∧ j < out.length then v else out.getD j 0 := by
  simp only [List.getD_eq_getElem?_getD, List.getElem?_set]
  by_cases h : i = j
  · subst h
    by_cases h2 : i < out.length
    · simp [h2]
    · simp [h2]
  · simp [h]
theorem ext_getD {a b : List Int} (hl : a.length = b.length) (h : ∀ j : Nat, j < a.length → a.getD j 0 = b.getD j 0) : a = b := by
  apply List.ext_getElem hl
  intro j h1 h2
  have := h j h1
  rwa [List.getD_eq_getElem?_getD, List.getD_eq_getElem?_getD, List.getElem?_eq_getElem h1, List.getElem?_eq_getElem h2] at this
theorem getD_mem {l : List Int} {j : Nat} (hj : j < l.length) : l.getD j 0 ∈ l := by
  rw [List.getD_eq_getElem?_getD, List.getElem?_eq_getElem hj]
  exact List.getElem_mem _
theorem toIntS_l (r : List Int) : ∀ pre : List Int, (pre ++ r).length < 4611686018427387904 → L (fun k => laws_toIntS.l0 k (pre ++ r) (pre ++ List.replicate r.length 0) (pre.length : Int)) = some (pre ++ r) := by
  induction r with
  | nil =>
    intro pre hb
    rw [L_shift]
    simp only [laws_toIntS.l0, not_lt_end, if_false, L_const, List.length_nil, List.replicate_zero]
  | cons x r ih =>
    intro pre hb
    rw [L_shift]
    have hl : pre.length < 4611686018427387904 := by simp at hb; omega
    simp only [laws_toIntS.l0, lt_mid, le_nat, if_true, rep_succ, rd_mid, wrap_mid pre x hl, set_mid pre _ x _ pre rfl]
    rw [app_cons pre x r, app_cons pre x (List.replicate _ _)]
    exact ih (pre ++ [x]) (by simpa using hb)
theorem toIntS_L (l : List Int) (h : l.length ≤ 1048576) : L (fun k => laws_toIntS.f k l) = some l := by
  simp only [laws_toIntS.f, le_nat, if_true, Int.toNat_natCast, if_pos (show l.length ≤ 35184372088832 by omega)]
  exact toIntS_l l [] (by simp; omega)
theorem eqIntS_l (r : List Int) : ∀ pre : List Int, (pre ++ r).length < 4611686018427387904 → L (fun k => laws_eqIntS.l0 k (pre ++ r) (pre ++ r) (pre.length : Int)) = some true := by
  induction r with
  | nil =>
    intro pre hb
    rw [L_shift]
    simp only [laws_eqIntS.l0, not_lt_end, if_false, L_const]
  | cons x r ih =>
    intro pre hb
    rw [L_shift]
    have hl : pre.length < 4611686018427387904 := by simp at hb; omega
    simp only [laws_eqIntS.l0, lt_mid, le_nat, if_true, rd_mid, wrap_mid pre x hl]
    rw [app_cons pre x r]
    exact ih (pre ++ [x]) (by simpa using hb)
theorem eqIntS_L (l : List Int) (h : l.length ≤ 1048576) : L (fun k => laws_eqIntS.f k l l) = some true := by
  simp only [laws_eqIntS.f, if_true]
  exact eqIntS_l l [] (by simp; omega)
theorem ite_and (b c : Bool) : (if b = true then some c else some false) = some (b && c) := by cases b <;> rfl
def inB (a lo hi : Int) : Bool := decide (lo ≤ a) && decide (a ≤ hi)
theorem inB_iff {a lo hi : Int} : inB a lo hi = true ↔ lo ≤ a ∧ a ≤ hi := by simp [inB]
theorem within_e (a lo hi : Int) : impl_within.f a lo hi = some (inB a lo hi) := by
  unfold impl_within.f inB
  by_cases h : lo ≤ a <;> simp [h]
theorem l1In_e (a lo hi : Int) : spec_l1In.f a lo hi = some (inB a lo hi) := by
  unfold spec_l1In.f inB
  by_cases h : lo ≤ a <;> simp [h]
theorem l1Has_l (x : Int) (r : List Int) : ∀ pre : List Int, (pre ++ r).length < 4611686018427387904 → L (fun k => spec_l1Has.l0 k (pre ++ r) x (pre.length : Int)) = some (decide (x ∈ r)) := by
  induction r with
  | nil =>
    intro pre hb
    rw [L_shift]
    simp only [spec_l1Has.l0, not_lt_end, if_false, L_const]
    simp
  | cons y r ih =>
    intro pre hb
    rw [L_shift]
    have hl : pre.length < 4611686018427387904 := by simp at hb; omega
    simp only [spec_l1Has.l0, lt_mid, le_nat, if_true, rd_mid, wrap_mid pre y hl, L_ite, L_const]
    rw [app_cons pre y r, ih (pre ++ [y]) (by simpa using hb)]
    by_cases h : y = x
    · subst h
      simp
    · rw [if_neg h]
      have : ¬ x = y := fun e => h e.symm
      simp [this]
theorem l1Has_L (l : List Int) (x : Int) (h : l.length < 4611686018427387904) : L (fun k => spec_l1Has.f k l x) = some (decide (x ∈ l)) := l1Has_l x l [] (by simpa using h)
theorem has_l (x : Int) (r : List Int) : ∀ pre : List Int, (pre ++ r).length < 4611686018427387904 → L (fun k => impl_has.l0 k x (pre ++ r) ((pre ++ r).length : Int) (pre.length : Int)) = some (decide (x ∈ r)) := by
  induction r with
  | nil =>
    intro pre hb
    rw [L_shift]
    simp only [impl_has.l0, not_lt_end, if_false, L_const]
    simp
  | cons y r ih =>
    intro pre hb
    rw [L_shift]
    have hl : pre.length < 4611686018427387904 := by simp at hb; omega
    simp only [impl_has.l0, lt_mid, le_nat, if_true, rd_mid, wrap_mid pre y hl, L_ite, L_const]
    rw [app_cons pre y r, ih (pre ++ [y]) (by simpa using hb)]
    by_cases h : y = x
    · subst h
      simp
    · rw [if_neg h]
      have : ¬ x = y := fun e => h e.symm
      simp [this]
theorem has_L (l : List Int) (x : Int) (h : l.length < 4611686018427387904) : L (fun k => impl_has.f k l x) = some (decide (x ∈ l)) := has_l x l [] (by simpa using h)
theorem copyInts_e (l : List Int) (h : l.length ≤ 1048576) : impl_copyInts.f l = some l := by
  simp only [impl_copyInts.f, Option.bind_some, List.length_nil, List.nil_append]
  rw [if_pos (by omega)]
theorem szIntS_e (l : List Int) (v : Int) (h : l.length ≤ 9223372036854775807) (h0 : 0 ≤ v) (h1 : v ≤ 1048576) : laws_szIntS.f l v = some (if (l.length : Int) ≤ v then v - (l.length : Int) else -1) := by
  unfold laws_szIntS.f
  rw [wrap_id (show -9223372036854775808 ≤ v - (l.length : Int) by omega) (by omega)]
  by_cases h2 : (l.length : Int) ≤ v
  · rw [if_neg (by omega), if_pos h2]
  · rw [if_pos (by omega), if_neg h2]
def lessF : List Int → List Int → Bool
  | x :: a, y :: b => if x = y then lessF a b else decide (x < y)
  | _, _ => false
/-- Shorter ones first; those of one length by their first different number. -/
def lessB (a b : List Int) : Bool := if a.length = b.length then lessF a b else decide (a.length < b.length)
theorem rd_at {p q : List Int} (hp : p.length = q.length) (y : Int) (b : List Int) : rd (q ++ y :: b) (p.length : Int) = y := by
  rw [hp]
  exact rd_mid q y b
theorem lt_at {p q : List Int} (hp : p.length = q.length) (y : Int) (b : List Int) : ((p.length : Int) < ((q ++ y :: b).length : Int)) = True := by
  rw [hp]
  exact lt_mid q y b
theorem szIntSS_l (r : List (List Int)) : ∀ (pre : List (List Int)) (v : Int), (pre ++ r).length < 4611686018427387904 → 0 ≤ v → v ≤ 1048576 → (∀ x ∈ r, x.length ≤ 9223372036854775807) →
    ∃ t, L (fun k => laws_szIntSS.l0 k (pre ++ r) v (pre.length : Int)) = some t ∧ (t < 0 ∨ 0 ≤ t ∧ ∀ x ∈ r, x.length ≤ 1048576) := by
  induction r with
  | nil =>
    intro pre v hb h0 h1 hr
    rw [L_shift]
    simp only [laws_szIntSS.l0, not_lt_end, if_false, L_const]
    exact ⟨v, rfl, .inr ⟨h0, by simp⟩⟩
  | cons x r ih =>
    intro pre v hb h0 h1 hr
    rw [L_shift]
    have hl : pre.length < 4611686018427387904 := by simp at hb; omega
    have e : rd_L4 (pre ++ x :: r) (pre.length : Int) = x := getD_mid pre x r _
    simp only [laws_szIntSS.l0, lt_mid, le_nat, if_true, e, wrap_mid pre x hl, szIntS_e x v (hr x List.mem_cons_self) h0 h1, Option.bind_some, L_ite, L_const]
    by_cases h2 : (x.length : Int) ≤ v
    · rw [if_pos h2, if_neg (by omega), app_cons pre x r]
      obtain ⟨t, ht, hd⟩ := ih (pre ++ [x]) (v - (x.length : Int)) (by simpa using hb) (by omega) (by omega) (fun y hy => hr y (List.mem_cons_of_mem _ hy))
      refine ⟨t, ht, hd.imp id (fun hd => ⟨hd.1, ?_⟩)⟩
      intro y hy
      rcases List.mem_cons.1 hy with rfl | hy
      · omega
      · exact hd.2 y hy
    · rw [if_neg h2, if_pos (by omega)]
      exact ⟨-1, rfl, .inl (by omega)⟩
theorem szIntSS_L (l : List (List Int)) (v : Int) (h0 : 0 ≤ v) (h1 : v ≤ 1048576) (hl : l.length ≤ 9223372036854775807) (hr : ∀ x ∈ l, x.length ≤ 9223372036854775807) :
    ∃ t, L (fun k => laws_szIntSS.f k l v) = some t ∧ (t < 0 ∨ 0 ≤ t ∧ l.length ≤ 1048576 ∧ ∀ x ∈ l, x.length ≤ 1048576) := by
  simp only [laws_szIntSS.f]
  rw [wrap_id (show -9223372036854775808 ≤ v - (l.length : Int) by omega) (by omega)]
  by_cases h : v - (l.length : Int) < 0
  · simp only [if_pos h, L_const]
    exact ⟨-1, rfl, .inl (by omega)⟩
  · simp only [if_neg h]
    obtain ⟨t, ht, hd⟩ := szIntSS_l l [] (v - (l.length : Int)) (by simp; omega) (by omega) (by omega) hr
    exact ⟨t, ht, hd.imp id (fun hd => ⟨hd.1, by omega, hd.2⟩)⟩
theorem toIntSS_l (r : List (List Int)) : ∀ pre : List (List Int), (pre ++ r).length < 4611686018427387904 → (∀ x ∈ r, x.length ≤ 1048576) → L (fun k => laws_toIntSS.l0 k (pre ++ r) (pre ++ List.replicate r.length []) (pre.length : Int)) = some (pre ++ r) := by
  induction r with
  | nil =>
    intro pre hb hr
    rw [L_shift]
    simp only [laws_toIntSS.l0, not_lt_end, if_false, L_const, List.length_nil, List.replicate_zero]
  | cons x r ih =>
    intro pre hb hr
    rw [L_shift]
    have hl : pre.length < 4611686018427387904 := by simp at hb; omega
    have e : rd_L4 (pre ++ x :: r) (pre.length : Int) = x := getD_mid pre x r _
    simp only [laws_toIntSS.l0, lt_mid, le_nat, if_true, rep_succ, e, wrap_mid pre x hl, L_bind, L_const, toIntS_L x (hr x List.mem_cons_self), Option.bind_some, set_mid pre _ _ _ pre rfl]
    rw [app_cons pre x r, app_cons pre x (List.replicate _ _)]
    exact ih (pre ++ [x]) (by simpa using hb) (fun y hy => hr y (List.mem_cons_of_mem _ hy))
theorem toIntSS_L (l : List (List Int)) (h : l.length ≤ 1048576) (hr : ∀ x ∈ l, x.length ≤ 1048576) : L (fun k => laws_toIntSS.f k l) = some l := by
  simp only [laws_toIntSS.f, le_nat, if_true, Int.toNat_natCast, if_pos (show l.length ≤ 11728124029610 by omega)]
  exact toIntSS_l l [] (by simp; omega) hr
theorem eqIntSS_l (r : List (List Int)) : ∀ pre : List (List Int), (pre ++ r).length < 4611686018427387904 → (∀ x ∈ r, x.length ≤ 1048576) → L (fun k => laws_eqIntSS.l0 k (pre ++ r) (pre ++ r) (pre.length : Int)) = some true := by
  induction r with
  | nil =>
    intro pre hb hr
    rw [L_shift]
    simp only [laws_eqIntSS.l0, not_lt_end, if_false, L_const]
  | cons x r ih =>
    intro pre hb hr
    rw [L_shift]
    have hl : pre.length < 4611686018427387904 := by simp at hb; omega
    have e : rd_L4 (pre ++ x :: r) (pre.length : Int) = x := getD_mid pre x r _
    simp only [laws_eqIntSS.l0, lt_mid, le_nat, if_true, e, wrap_mid pre x hl, L_bind, L_const, eqIntS_L x (hr x List.mem_cons_self), Option.bind_some]
    rw [app_cons pre x r]
    exact ih (pre ++ [x]) (by simpa using hb) (fun y hy => hr y (List.mem_cons_of_mem _ hy))
theorem eqIntSS_L (l : List (List Int)) (h : l.length ≤ 1048576) (hr : ∀ x ∈ l, x.length ≤ 1048576) : L (fun k => laws_eqIntSS.f k l l) = some true := by
  simp only [laws_eqIntSS.f, if_true]
  exact eqIntSS_l l [] (by simp; omega) hr
theorem l1Same_l : ∀ (a b p q : List Int), p.length = q.length → a.length = b.length → (p ++ a).length < 4611686018427387904 → L (fun k => spec_l1Same.l0 k (p ++ a) (q ++ b) (p.length : Int)) = some (decide (a = b))
  | [], [], p, q, hp, hl, hb => by
    rw [L_shift]
    simp only [spec_l1Same.l0, not_lt_end, if_false, L_const]
    simp
  | x :: a, y :: b, p, q, hp, hl, hb => by
    rw [L_shift]
    have h1 : p.length < 4611686018427387904 := by simp at hb; omega
    simp only [spec_l1Same.l0, lt_mid, le_nat, if_true, rd_mid, rd_at hp, lt_at hp, wrap_mid p x h1, L_ite, L_const]
    rw [app_cons p x a, app_cons q y b, l1Same_l a b (p ++ [x]) (q ++ [y]) (by simp [hp]) (by simpa using hl) (by simpa using hb)]
    by_cases h : x = y
    · rw [if_pos h, h]
      simp
    · rw [if_neg h]
      simp [h]
  | [], y :: b, p, q, hp, hl, hb => by simp at hl
  | x :: a, [], p, q, hp, hl, hb => by simp at hl
theorem l1Same_L (a b : List Int) (h : a.length < 4611686018427387904) : L (fun k => spec_l1Same.f k a b) = some (decide (a = b)) := by
  simp only [spec_l1Same.f, L_ite, L_const]
  by_cases hl : a.length = b.length
  · rw [if_pos (by omega)]
    exact l1Same_l a b [] [] rfl hl (by simpa using h)
  · rw [if_neg (by omega), decide_eq_false]
    intro e
    exact hl (by rw [e])
def shopM (S : List (List Int)) : Int := if (S.length : Int) = 0 then 1 else ((S.getD 0 []).length : Int)
def shopRow (m : Int) (row : List Int) : Bool := decide ((row.length : Int) = m) && row.all (fun x => inB x 0 30)
/-- A shop. -/
def shopB (S : List (List Int)) : Bool := S.all (shopRow (shopM S)) && (decide ((S.length : Int) ≤ 8) && inB (shopM S) 1 3)
structure Shop (S : List (List Int)) (m : Nat) : Prop where
  len : S.length ≤ 8
  m1 : 1 ≤ m
  m3 : m ≤ 3
  eq : shopM S = (m : Int)
  row : ∀ r ∈ S, r.length = m
  val : ∀ r ∈ S, ∀ x ∈ r, 0 ≤ x ∧ x ≤ 30
theorem shopB_iff {S : List (List Int)} (h : shopB S = true) : ∃ m : Nat, Shop S m := by
  simp only [shopB, Bool.and_eq_true, List.all_eq_true, decide_eq_true_eq, inB_iff, shopRow] at h
  obtain ⟨h1, h2, h3⟩ := h
  refine ⟨(shopM S).toNat, by omega, by omega, by omega, by omega, fun r hr => ?_, fun r hr x hx => (h1 r hr).2 x hx⟩
  have := (h1 r hr).1
  omega
theorem l8Machines_e (S : List (List Int)) : spec_l8Machines.f S = some (shopM S) := by
  unfold spec_l8Machines.f shopM
  by_cases h : (S.length : Int) = 0
  · rw [if_pos h, if_pos h]
  · rw [if_neg h, if_neg h, if_pos (by omega)]
    rfl
theorem machinesOf_e (S : List (List Int)) : impl_machinesOf.f S = some (shopM S) := by
  unfold impl_machinesOf.f shopM
  by_cases h : (S.length : Int) = 0
  · rw [if_pos h, if_pos h]
  · rw [if_neg h, if_neg h, if_pos (by omega)]
    rfl
theorem allWithin_l (lo hi : Int) (r : List Int) : ∀ pre : List Int, (pre ++ r).length < 4611686018427387904 → L (fun k => impl_allWithin.l0 k lo hi (pre ++ r) ((pre ++ r).length : Int) (pre.length : Int)) = some (r.all (fun x => inB x lo hi)) := by
  induction r with
  | nil =>
    intro pre hb
    rw [L_shift]
    simp only [impl_allWithin.l0, not_lt_end, if_false, L_const]
    rfl
  | cons x r ih =>
    intro pre hb
    rw [L_shift]
    have hl : pre.length < 4611686018427387904 := by simp at hb; omega
    simp only [impl_allWithin.l0, lt_mid, le_nat, if_true, rd_mid, wrap_mid pre x hl, within_e, Option.bind_some, L_ite, L_const]
    rw [app_cons pre x r, ih (pre ++ [x]) (by simpa using hb), ite_and, List.all_cons]
theorem allWithin_L (l : List Int) (lo hi : Int) (h : l.length < 4611686018427387904) : L (fun k => impl_allWithin.f k l lo hi) = some (l.all (fun x => inB x lo hi)) := by
  have := allWithin_l lo hi l [] (by simpa using h)
  simpa [impl_allWithin.f] using this
theorem isShop_l (S : List (List Int)) (m : Int) (hm : m = ((S.getD 0 []).length : Int)) (hS : 0 < S.length) (r : List (List Int)) : ∀ pre : List (List Int), (pre ++ r).length < 4611686018427387904 → (∀ x ∈ r, x.length ≤ 1048576) →
    L (fun k => impl_isShop.l0 k S (pre ++ r) ((pre ++ r).length : Int) (pre.length : Int)) = some (r.all (fun row => inB (row.length : Int) 1 3 && shopRow m row)) := by
  induction r with
  | nil =>
    intro pre hb hr
    rw [L_shift]
    simp only [impl_isShop.l0, not_lt_end, if_false, L_const]
    rfl
  | cons x r ih =>
    intro pre hb hr
    rw [L_shift]
    have hl : pre.length < 4611686018427387904 := by simp at hb; omega
    have e : rd_L4 (pre ++ x :: r) (pre.length : Int) = x := getD_mid pre x r _
    have e0 : ((rd_L4 S 0).length : Int) = m := by rw [hm]; rfl
    simp only [impl_isShop.l0, lt_mid, le_nat, if_true, e, e0, wrap_mid pre x hl, within_e, Option.bind_some, L_ite, L_const, L_bind, allWithin_L x 0 30 (by have := hr x List.mem_cons_self; omega), if_pos (show 0 < (S.length : Int) by omega)]
    rw [app_cons pre x r, ih (pre ++ [x]) (by simpa using hb) (fun y hy => hr y (List.mem_cons_of_mem _ hy))]
    rw [List.all_cons, ite_and, shopRow]
    by_cases h1 : inB (x.length : Int) 1 3 = true
    · rw [if_pos h1, h1]
      by_cases h2 : (x.length : Int) = m
      · rw [if_pos h2, decide_eq_true h2]
        simp
      · rw [if_neg h2, decide_eq_false h2]
        simp
    · rw [if_neg h1]
      simp only [Bool.not_eq_true] at h1
      rw [h1]
      simp
theorem isShop_L (S : List (List Int)) (h : S.length ≤ 1048576) (hr : ∀ x ∈ S, x.length ≤ 1048576) : L (fun k => impl_isShop.f k S) = some (shopB S) := by
  simp only [impl_isShop.f, L_ite, L_const]
  by_cases h8 : (S.length : Int) ≤ 8
  · rw [if_neg (by omega)]
    cases S with
    | nil =>
      rw [L_shift]
      simp [impl_isShop.l0, L_const]
      rfl
    | cons r0 S =>
      have := isShop_l (r0 :: S) (r0.length : Int) rfl (by simp) (r0 :: S) [] (by simp at h8 ⊢; omega) hr
      simp only [List.nil_append, List.length_nil, Int.natCast_zero] at this
      rw [this]
      congr 1
      have em : shopM (r0 :: S) = (r0.length : Int) := by
        unfold shopM
        rw [if_neg (by simp; omega)]
        rfl
      rw [shopB, em, decide_eq_true h8, Bool.true_and, Bool.eq_iff_iff]
      simp only [Bool.and_eq_true, List.all_eq_true]
      constructor
      · intro hh
        exact ⟨fun x hx => (hh x hx).2, (hh r0 List.mem_cons_self).1⟩
      · rintro ⟨h1, h2⟩ x hx
        refine ⟨?_, h1 x hx⟩
        have h3 := h1 x hx
        rw [shopRow, Bool.and_eq_true, decide_eq_true_eq] at h3
        rw [h3.1]
        exact h2
  · rw [if_pos (by omega)]
    simp [shopB, h8]
theorem l8Good_in (S : List (List Int)) (m : Int) (p : List (List Int)) (x : List Int) (q : List (List Int)) (hS : S = p ++ x :: q) (hx : (x.length : Int) = m) (hx2 : x.length ≤ 1048576) (r : List Int) : ∀ pre : List Int, pre ++ r = x →
    L (fun k => spec_l8Good.l1 k S m (p.length : Int) (pre.length : Int)) = if r.all (fun y => inB y 0 30) = true then L (fun k => spec_l8Good.l0 k S m (wrap64 ((p.length : Int) + 1))) else some false := by
  induction r with
  | nil =>
    intro pre hp
    rw [L_shift]
    simp only [List.append_nil] at hp
    subst hp
    simp only [spec_l8Good.l1, if_neg (show ¬ ((pre.length : Int) < m) by omega), List.all_nil, if_true]
  | cons y r ih =>
    intro pre hp
    rw [L_shift]
    have e : rd_L4 S (p.length : Int) = x := by rw [hS]; exact getD_mid p x q _
    have e1 : rd x (pre.length : Int) = y := by rw [← hp]; exact rd_mid pre y r
    have hl : x.length = pre.length + (r.length + 1) := by rw [← hp]; simp
    have c1 : ((p.length : Int) < (S.length : Int)) = True := by rw [hS]; exact lt_mid p x q
    simp only [spec_l8Good.l1, if_pos (show (pre.length : Int) < m by omega), le_nat, c1, if_true, e, if_pos (show (pre.length : Int) < (x.length : Int) by omega), e1, l1In_e, Option.bind_some, wrap_mid pre y (by omega), L_ite, L_const, ih (pre ++ [y]) (by rw [← hp]; simp), List.all_cons]
    by_cases h1 : inB y 0 30 = true
    · simp only [h1, if_true, Bool.true_and]
    · simp only [Bool.not_eq_true] at h1
      simp only [h1, Bool.false_eq_true, if_false, Bool.false_and]
theorem l8Good_l (S : List (List Int)) (hr : ∀ x ∈ S, x.length ≤ 1048576) (m : Int) : ∀ (r pre : List (List Int)), pre ++ r = S → S.length < 4611686018427387904 →
    L (fun k => spec_l8Good.l0 k S m (pre.length : Int)) = some (r.all (shopRow m) && (decide ((S.length : Int) ≤ 8) && inB m 1 3))
  | [], pre, hp, hb => by
    rw [L_shift]
    simp only [List.append_nil] at hp
    subst hp
    simp only [spec_l8Good.l0, if_neg (show ¬ ((pre.length : Int) < (pre.length : Int)) by omega), l1In_e, Option.bind_some, L_const, List.all_nil, Bool.true_and]
    by_cases h : (pre.length : Int) ≤ 8
    · rw [if_pos h, decide_eq_true h, Bool.true_and]
    · rw [if_neg h, decide_eq_false h, Bool.false_and]
  | x :: r, pre, hp, hb => by
    rw [L_shift]
    have hl : pre.length < 4611686018427387904 := by rw [← hp] at hb; simp at hb; omega
    have e : rd_L4 S (pre.length : Int) = x := by rw [← hp]; exact getD_mid pre x r _
    have c1 : ((pre.length : Int) < (S.length : Int)) = True := by rw [← hp]; exact lt_mid pre x r
    have hx : x ∈ S := by rw [← hp]; simp
    simp only [spec_l8Good.l0, c1, le_nat, if_true, e, L_ite, L_const]
    by_cases h : (x.length : Int) = m
    · have h2 := l8Good_in S m pre x r hp.symm h (hr x hx) x [] rfl
      simp only [List.length_nil, Int.natCast_zero] at h2
      rw [if_pos h, h2, wrap_mid pre x hl, l8Good_l S hr m r (pre ++ [x]) (by rw [← hp]; simp) hb, List.all_cons, shopRow, decide_eq_true h, Bool.true_and, ite_and, Bool.and_assoc]
    · rw [if_neg h, List.all_cons, shopRow, decide_eq_false h, Bool.false_and, Bool.false_and, Bool.false_and]
theorem l8Good_L (S : List (List Int)) (h : S.length ≤ 1048576) (hr : ∀ x ∈ S, x.length ≤ 1048576) : L (fun k => spec_l8Good.f k S) = some (shopB S) := by
  simp only [spec_l8Good.f, l8Machines_e, Option.bind_some]
  exact l8Good_l S hr (shopM S) S [] rfl (by omega)
theorem szIntSS_le_l (r : List (List Int)) : ∀ (pre : List (List Int)) (v t : Int), (pre ++ r).length < 4611686018427387904 → 0 ≤ v → v ≤ 1048576 → (∀ x ∈ r, x.length ≤ 9223372036854775807) → L (fun k => laws_szIntSS.l0 k (pre ++ r) v (pre.length : Int)) = some t → t ≤ v := by
  induction r with
  | nil =>
    intro pre v t hb h0 h1 hr h
    rw [L_shift] at h
    simp only [laws_szIntSS.l0, not_lt_end, if_false, L_const, Option.some.injEq] at h
    omega
  | cons x r ih =>
    intro pre v t hb h0 h1 hr h
    rw [L_shift] at h
    have hl : pre.length < 4611686018427387904 := by simp at hb; omega
    have e : rd_L4 (pre ++ x :: r) (pre.length : Int) = x := getD_mid pre x r _
    simp only [laws_szIntSS.l0, lt_mid, le_nat, if_true, e, wrap_mid pre x hl, szIntS_e x v (hr x List.mem_cons_self) h0 h1, Option.bind_some, L_ite, L_const] at h
    by_cases h2 : (x.length : Int) ≤ v
    · rw [if_pos h2, if_neg (by omega), app_cons pre x r] at h
      have := ih (pre ++ [x]) (v - (x.length : Int)) t (by simpa using hb) (by omega) (by omega) (fun y hy => hr y (List.mem_cons_of_mem _ hy)) h
      omega
    · rw [if_neg h2, if_pos (by omega)] at h
      injection h with h
      omega
theorem szIntSS_le (l : List (List Int)) (hl : l.length ≤ 9223372036854775807) (hr : ∀ x ∈ l, x.length ≤ 9223372036854775807) (t : Int) (h : L (fun k => laws_szIntSS.f k l 1048576) = some t) : t ≤ 1048576 := by
  simp only [laws_szIntSS.f] at h
  rw [wrap_id (show -9223372036854775808 ≤ 1048576 - (l.length : Int) by omega) (by omega)] at h
  by_cases h2 : 1048576 - (l.length : Int) < 0
  · simp only [if_pos h2, L_const, Option.some.injEq] at h
    omega
  · simp only [if_neg h2] at h
    have := szIntSS_le_l l [] (1048576 - (l.length : Int)) t (by simp; omega) (by omega) (by omega) hr h
    omega
def cellM (M : List (List Int)) (i k : Nat) : Int := (M.getD i []).getD k 0
/-- Entry (x, k) grows by v. -/
def addM (M : List (List Int)) (x k : Nat) (v : Int) : List (List Int) := M.set x ((M.getD x []).set k ((M.getD x []).getD k 0 + v))
theorem addM_length (M : List (List Int)) (x k : Nat) (v : Int) : (addM M x k v).length = M.length := List.length_set
theorem getDL_set (M : List (List Int)) (x i : Nat) (r : List Int) : (M.set x r).getD i [] = if x = i ∧ i < M.length then r else M.getD i [] := by
  simp only [List.getD_eq_getElem?_getD, List.getElem?_set]
  by_cases h : x = i
  · subst h
    by_cases h2 : x < M.length
    · simp [h2]
    · simp [h2]
  · simp [h]
theorem addM_row (M : List (List Int)) (x k i : Nat) (v : Int) : ((addM M x k v).getD i []).length = (M.getD i []).length := by
  unfold addM
  rw [getDL_set]
  split
  · rename_i h
    rw [List.length_set, h.1]
  · rfl
theorem addM_cell (M : List (List Int)) (x k : Nat) (v : Int) (hx : x < M.length) (hk : k < (M.getD x []).length) (i j : Nat) : cellM (addM M x k v) i j = cellM M i j + if i = x ∧ j = k then v else 0 := by
  unfold cellM addM
  rw [getDL_set]
  by_cases h : x = i
  · subst h
    rw [if_pos ⟨rfl, hx⟩, getD_set]
    by_cases h2 : k = j
    · subst h2
      rw [if_pos ⟨rfl, hk⟩, if_pos ⟨rfl, rfl⟩]
    · rw [if_neg (fun h => h2 h.1), if_neg (fun h => h2 h.2.symm)]
      omega
  · rw [if_neg (fun h2 => h h2.1), if_neg (fun h2 => h h2.1.symm)]
    omega
/-- The size of a matrix. -/
def Dim (M : List (List Int)) (n m : Nat) : Prop := M.length = n ∧ ∀ i, i < n → (M.getD i []).length = m
theorem Dim.add {M : List (List Int)} {n m x k : Nat} {v : Int} (h : Dim M n m) : Dim (addM M x k v) n m := ⟨by rw [addM_length, h.1], fun i hi => by rw [addM_row, h.2 i hi]⟩
theorem Dim.ext {A B : List (List Int)} {n m : Nat} (hA : Dim A n m) (hB : Dim B n m) (h : ∀ i k, cellM A i k = cellM B i k) : A = B := by
  apply List.ext_getElem (by rw [hA.1, hB.1])
  intro i h1 h2
  have ea : A.getD i [] = A[i] := by rw [List.getD_eq_getElem?_getD, List.getElem?_eq_getElem h1]; rfl
  have eb : B.getD i [] = B[i] := by rw [List.getD_eq_getElem?_getD, List.getElem?_eq_getElem h2]; rfl
  rw [← ea, ← eb]
  refine ext_getD (by rw [hA.2 i (by rw [← hA.1]; exact h1), hB.2 i (by rw [← hA.1]; exact h1)]) (fun j _ => h i j)
theorem Dim.of {M : List (List Int)} {m : Nat} (h : ∀ r ∈ M, r.length = m) : Dim M M.length m := ⟨rfl, fun i hi => by
  rw [List.getD_eq_getElem?_getD, List.getElem?_eq_getElem hi]
  exact h _ (List.getElem_mem _)⟩

/-- The jobs of a piece are right behind some of them. -/
def jobsB (n : Int) : List Int → List Int → Bool
  | _, [] => true
  | pre, x :: r => inB x (-1) (n - 1) && (!(decide (0 ≤ x) && decide (x ∈ pre)) && jobsB n (pre ++ [x]) r)
def pieceB (n m : Int) (p : S123) : Bool := inB p.f0 1 1000000 && (decide ((p.f1.length : Int) = m) && jobsB n [] p.f1)
/-- The entries of a piece's jobs from a machine on grow by v. -/
def addsM (v : Int) : Nat → List Int → List (List Int) → List (List Int)
  | _, [], M => M
  | k, x :: r, M => addsM v (k + 1) r (if 0 ≤ x then addM M x.toNat k v else M)
structure Bd (M : List (List Int)) (n m : Nat) (c : Int) : Prop where
  dim : Dim M n m
  lo : ∀ i k, -c ≤ cellM M i k
  hi : ∀ i k, cellM M i k ≤ c
theorem Bd.add {M : List (List Int)} {n m x k : Nat} {c v : Int} (h : Bd M n m c) (hx : x < n) (hk : k < m) (h0 : -1000000 ≤ v) (h1 : v ≤ 1000000) : Bd (addM M x k v) n m (c + 1000000) := by
  have e := addM_cell M x k v (by rw [h.dim.1]; exact hx) (by rw [h.dim.2 x hx]; exact hk)
  refine ⟨h.dim.add, fun i j => ?_, fun i j => ?_⟩
  · have := h.lo i j
    have := h.hi i j
    rw [e]
    split <;> omega
  · have := h.lo i j
    have := h.hi i j
    rw [e]
    split <;> omega
theorem Bd.mono {M : List (List Int)} {n m : Nat} {c d : Int} (h : Bd M n m c) (hd : c ≤ d) : Bd M n m d := ⟨h.dim, fun i k => by have := h.lo i k; omega, fun i k => by have := h.hi i k; omega⟩
theorem Bd.adds {n m : Nat} {v : Int} (h0 : -1000000 ≤ v) (h1 : v ≤ 1000000) : ∀ (r : List Int) (k : Nat) (M : List (List Int)) (c : Int), Bd M n m c → k + r.length ≤ m → (∀ x ∈ r, x < n) → Bd (addsM v k r M) n m (c + 1000000 * r.length)
  | [], k, M, c, h, _, _ => by simpa [addsM] using h
  | x :: r, k, M, c, h, hk, hr => by
    rw [addsM]
    simp only [List.length_cons] at hk ⊢
    have hx := hr x List.mem_cons_self
    refine (Bd.adds h0 h1 r (k + 1) _ (c + 1000000) ?_ (by omega) (fun y hy => hr y (List.mem_cons_of_mem _ hy))).mono (by omega)
    split
    · exact h.add (by omega) (by omega) h0 h1
    · exact h.mono (by omega)
theorem impl_isPiecePlan_j2 (x0 : List (List Int)) (x5 : List (List Int)) (x29 : List (S123)) (x30 : Int) (x31 : Int) (x46 : Bool) (x810000 : Int) (x810001 : List Int) : L (fun k => impl_isPiecePlan.j2 k x0 x5 x29 x30 x31 x46 x810000 x810001) = L (fun k => if x46 = true then (some false) else (impl_isPiecePlan.l2 k x0 x5 x29 x30 x31 x810001 (x810001.length : Int) 0 x810000 x810001)) := by
  rw [L_shift]
  simp only [impl_isPiecePlan.j2]
theorem impl_isPiecePlan_j4 (x0 : List (List Int)) (x5 : List (List Int)) (x10 : Int) (x11 : Int) (x29 : List (S123)) (x30 : Int) (x31 : Int) (x48 : List Int) (x49 : Int) (x50 : Int) (x72 : Bool) (x810000 : Int) (x810001 : List Int) : L (fun k => impl_isPiecePlan.j4 k x0 x5 x10 x11 x29 x30 x31 x48 x49 x50 x72 x810000 x810001) = L (fun k => if x72 = true then (some false) else (if x11 ≥ 0 then (if 0 ≤ x11 then (if x11 < (x5.length : Int) then (if 0 ≤ x10 then (if x10 < ((rd_L4 x5 x11).length : Int) then (impl_isPiecePlan.l2 k x0 (x5.set (x11 : Int).toNat ((rd_L4 x5 x11).set (x10 : Int).toNat (wrap64 ((rd (rd_L4 x5 x11) x10) - x810000)))) x29 x30 x31 x48 x49 (wrap64 (x50 + 1)) x810000 x810001) else (none)) else (none)) else (none)) else (none)) else (impl_isPiecePlan.l2 k x0 x5 x29 x30 x31 x48 x49 (wrap64 (x50 + 1)) x810000 x810001))) := by
  rw [L_shift]
  simp only [impl_isPiecePlan.j4]
theorem take_mid2 {α : Type} (pre : List α) (r : List α) : (pre ++ r).take (pre.length : Int).toNat = pre := by simp
theorem pp_impl2 (S : List (List Int)) (n m : Nat) (hn : S.length = n) (hn8 : n ≤ 8) (hm3 : m ≤ 3) (Ps : List S123) (np i len : Int) (J : List Int) (hJ : J.length = m) (h0 : 1 ≤ len) (h1 : len ≤ 1000000) : ∀ (r pre : List Int) (R : List (List Int)) (c : Int), pre ++ r = J → Bd R n m c → c + 1000000 * r.length ≤ 1000000000 →
    L (fun k => impl_isPiecePlan.l2 k S R Ps np i J (J.length : Int) (pre.length : Int) len J) = if jobsB (n : Int) pre r = true then L (fun k => impl_isPiecePlan.l1 k S (addsM (-len) pre.length r R) Ps np (wrap64 (i + 1))) else some false
  | [], pre, R, c, hp, hR, hc => by
    rw [L_shift]
    simp only [List.append_nil] at hp
    subst hp
    simp only [impl_isPiecePlan.l2, if_neg (show ¬ ((pre.length : Int) < (pre.length : Int)) by omega), jobsB, if_true, addsM]
  | x :: r, pre, R, c, hp, hR, hc => by
    rw [L_shift]
    have hl : J.length = pre.length + (r.length + 1) := by rw [← hp]; simp
    have e1 : rd J (pre.length : Int) = x := by rw [← hp]; exact rd_mid pre x r
    have e2 : J.take (pre.length : Int).toNat = pre := by rw [← hp]; exact take_mid2 pre _
    simp only [List.length_cons] at hc
    simp only [impl_isPiecePlan.l2, if_pos (show (pre.length : Int) < (J.length : Int) by omega), if_pos (show (pre.length : Int) ≤ (J.length : Int) by omega), le_nat, if_true, e1, e2, within_e, hn, wrap_id (show -9223372036854775808 ≤ (n : Int) - 1 by omega) (show (n : Int) - 1 ≤ 9223372036854775807 by omega), Option.bind_some, L_ite, L_bind, has_L pre x (by omega), impl_isPiecePlan_j4, L_const, jobsB]
    by_cases hin : inB x (-1) ((n : Int) - 1) = true
    · obtain ⟨hlo, hhi⟩ := inB_iff.1 hin
      simp only [hin, if_true, Bool.true_and]
      have ew : wrap64 ((pre.length : Int) + 1) = ((pre ++ [x]).length : Int) := wrap_mid pre x (by omega)
      by_cases hx : 0 ≤ x
      · have hxn : x.toNat < n := by omega
        have e3 : rd_L4 R x = R.getD x.toNat [] := rfl
        have e4 : rd (R.getD x.toNat []) (pre.length : Int) = cellM R x.toNat pre.length := by
          show (R.getD x.toNat []).getD (pre.length : Int).toNat 0 = _
          rw [Int.toNat_natCast]
          rfl
        have b0 := hR.lo x.toNat pre.length
        have b1 := hR.hi x.toNat pre.length
        have e5 : wrap64 (cellM R x.toNat pre.length - len) = cellM R x.toNat pre.length + -len := by
          rw [wrap_id (by omega) (by omega)]
          omega
        have e6 : R.set x.toNat ((R.getD x.toNat []).set (pre.length : Int).toNat (cellM R x.toNat pre.length + -len)) = addM R x.toNat pre.length (-len) := by
          rw [Int.toNat_natCast]
          rfl
        have hrow := hR.dim.2 x.toNat hxn
        have hRn := hR.dim.1
        simp only [if_pos (show x ≥ 0 from hx), if_pos hx, if_pos (show x < (R.length : Int) by omega), e3, if_pos (show (pre.length : Int) < ((R.getD x.toNat []).length : Int) by omega), e4, e5, e6, ew, decide_eq_true hx, Bool.true_and, addsM, Bool.false_eq_true, if_false]
        by_cases hm : x ∈ pre
        · simp [hm]
        · have ih := pp_impl2 S n m hn hn8 hm3 Ps np i len J hJ h0 h1 r (pre ++ [x]) (addM R x.toNat pre.length (-len)) (c + 1000000) (by rw [← hp]; simp) (hR.add hxn (by omega) (by omega) (by omega)) (by omega)
          have e7 : (pre ++ [x]).length = pre.length + 1 := by simp
          rw [ih, e7]
          simp [hm]
      · have ih := pp_impl2 S n m hn hn8 hm3 Ps np i len J hJ h0 h1 r (pre ++ [x]) R c (by rw [← hp]; simp) hR (by omega)
        have e7 : (pre ++ [x]).length = pre.length + 1 := by simp
        rw [e7] at ih ew
        simp only [if_neg (show ¬ x ≥ 0 from hx), Bool.false_eq_true, if_false, ew, ih, addsM, if_neg hx, decide_eq_false hx, Bool.false_and, Bool.not_false, Bool.true_and, e7]
    · simp only [Bool.not_eq_true] at hin
      simp only [hin, Bool.false_eq_true, if_false, Bool.false_and, if_true]
theorem pp_spec2 (S : List (List Int)) (n m : Nat) (hn8 : n ≤ 8) (hm3 : m ≤ 3) (Ps : List S123) (q : List S123) (p : S123) (s : List S123) (hPs : Ps = q ++ p :: s) (hq : q.length < 1000000) (hJ : p.f1.length = m) (h0 : 1 ≤ p.f0) (h1 : p.f0 ≤ 1000000) : ∀ (r pre : List Int) (D : List (List Int)) (c : Int), pre ++ r = p.f1 → (∀ x ∈ r, x < (n : Int)) → Bd D n m c → c + 1000000 * r.length ≤ 1000000000 →
    L (fun k => spec_IsPiecePlan.l2 k S Ps D (q.length : Int) (pre.length : Int)) = L (fun k => spec_IsPiecePlan.l1 k S Ps (addsM p.f0 pre.length r D) ((q ++ [p]).length : Int))
  | [], pre, D, c, hp, hr, hD, hc => by
    rw [L_shift]
    simp only [List.append_nil] at hp
    have e : rd_T123 Ps (q.length : Int) = p := by rw [hPs]; exact getD_mid q p s _
    have c1 : ((q.length : Int) < (Ps.length : Int)) = True := by rw [hPs]; exact lt_mid q p s
    simp only [spec_IsPiecePlan.l2, le_nat, c1, if_true, e, if_neg (show ¬ ((pre.length : Int) < (p.f1.length : Int)) by rw [hp]; omega), wrap_mid q p (by omega), addsM]
  | x :: r, pre, D, c, hp, hr, hD, hc => by
    rw [L_shift]
    have e : rd_T123 Ps (q.length : Int) = p := by rw [hPs]; exact getD_mid q p s _
    have c1 : ((q.length : Int) < (Ps.length : Int)) = True := by rw [hPs]; exact lt_mid q p s
    have hl : p.f1.length = pre.length + (r.length + 1) := by rw [← hp]; simp
    have e1 : rd p.f1 (pre.length : Int) = x := by rw [← hp]; exact rd_mid pre x r
    have ew : wrap64 ((pre.length : Int) + 1) = ((pre ++ [x]).length : Int) := wrap_mid pre x (by omega)
    have e7 : (pre ++ [x]).length = pre.length + 1 := by simp
    have hxn := hr x List.mem_cons_self
    simp only [List.length_cons] at hc
    simp only [spec_IsPiecePlan.l2, le_nat, c1, if_true, e, if_pos (show (pre.length : Int) < (p.f1.length : Int) by omega), e1, ew, addsM, L_ite]
    by_cases hx : 0 ≤ x
    · have hxn2 : x.toNat < n := by omega
      have e3 : rd_L4 D x = D.getD x.toNat [] := rfl
      have e4 : rd (D.getD x.toNat []) (pre.length : Int) = cellM D x.toNat pre.length := by
        show (D.getD x.toNat []).getD (pre.length : Int).toNat 0 = _
        rw [Int.toNat_natCast]
        rfl
      have b0 := hD.lo x.toNat pre.length
      have b1 := hD.hi x.toNat pre.length
      have e5 : wrap64 (cellM D x.toNat pre.length + p.f0) = cellM D x.toNat pre.length + p.f0 := wrap_id (by omega) (by omega)
      have e6 : D.set x.toNat ((D.getD x.toNat []).set (pre.length : Int).toNat (cellM D x.toNat pre.length + p.f0)) = addM D x.toNat pre.length p.f0 := by
        rw [Int.toNat_natCast]
        rfl
      have hrow := hD.dim.2 x.toNat hxn2
      have hDn := hD.dim.1
      have ih := pp_spec2 S n m hn8 hm3 Ps q p s hPs hq hJ h0 h1 r (pre ++ [x]) (addM D x.toNat pre.length p.f0) (c + 1000000) (by rw [← hp]; simp) (fun y hy => hr y (List.mem_cons_of_mem _ hy)) (hD.add hxn2 (by omega) (by omega) (by omega)) (by omega)
      simp only [if_pos (show x ≥ 0 from hx), if_pos hx, if_pos (show x < (D.length : Int) by omega), e3, if_pos (show (pre.length : Int) < ((D.getD x.toNat []).length : Int) by omega), e4, e5, e6]
      rw [ih, e7]
    · have ih := pp_spec2 S n m hn8 hm3 Ps q p s hPs hq hJ h0 h1 r (pre ++ [x]) D c (by rw [← hp]; simp) (fun y hy => hr y (List.mem_cons_of_mem _ hy)) hD (by omega)
      simp only [if_neg (show ¬ x ≥ 0 from hx), if_neg hx]
      rw [ih, e7]
theorem l8Piece_l (S : List (List Int)) (n : Nat) (hn : S.length = n) (hn8 : n ≤ 1048576) (len : Int) (J : List Int) (hJ : J.length ≤ 1048576) : ∀ (r pre : List Int), pre ++ r = J →
    L (fun k => spec_l8Piece.l0 k S (pre.length : Int) len J) = some (jobsB (n : Int) pre r && (decide ((J.length : Int) = shopM S) && inB len 1 1000000))
  | [], pre, hp => by
    rw [L_shift]
    simp only [List.append_nil] at hp
    subst hp
    simp only [spec_l8Piece.l0, if_neg (show ¬ ((pre.length : Int) < (pre.length : Int)) by omega), l8Machines_e, Option.bind_some, l1In_e, jobsB, Bool.true_and, L_const]
    by_cases h : (pre.length : Int) = shopM S
    · rw [if_pos h, decide_eq_true h, Bool.true_and]
    · rw [if_neg h, decide_eq_false h, Bool.false_and]
  | x :: r, pre, hp => by
    rw [L_shift]
    have hl : J.length = pre.length + (r.length + 1) := by rw [← hp]; simp
    have e1 : rd J (pre.length : Int) = x := by rw [← hp]; exact rd_mid pre x r
    have e2 : J.take (pre.length : Int).toNat = pre := by rw [← hp]; exact take_mid2 pre _
    have ew : wrap64 ((pre.length : Int) + 1) = ((pre ++ [x]).length : Int) := wrap_mid pre x (by omega)
    simp only [spec_l8Piece.l0, if_pos (show (pre.length : Int) < (J.length : Int) by omega), if_pos (show (pre.length : Int) ≤ (J.length : Int) by omega), le_nat, if_true, e1, e2, l1In_e, hn, wrap_id (show -9223372036854775808 ≤ (n : Int) - 1 by omega) (show (n : Int) - 1 ≤ 9223372036854775807 by omega), Option.bind_some, L_ite, L_bind, l1Has_L pre x (by omega), ew, l8Piece_l S n hn hn8 len J hJ r (pre ++ [x]) (by rw [← hp]; simp), L_const, jobsB]
    by_cases hin : inB x (-1) ((n : Int) - 1) = true
    · rw [if_pos hin, hin, Bool.true_and]
      by_cases hx : 0 ≤ x
      · rw [if_pos (show x ≥ 0 from hx), decide_eq_true hx, Bool.true_and]
        by_cases hm : x ∈ pre <;> simp [hm]
      · rw [if_neg (show ¬ x ≥ 0 from hx), decide_eq_false hx, Bool.false_and, Bool.not_false, Bool.true_and]
    · rw [if_neg hin]
      simp only [Bool.not_eq_true] at hin
      rw [hin, Bool.false_and, Bool.false_and]
theorem adds_rel {n m : Nat} (v : Int) : ∀ (r : List Int) (k : Nat) (S D R : List (List Int)), Dim D n m → Dim R n m → k + r.length ≤ m → (∀ x ∈ r, x < (n : Int)) → (∀ i j, cellM R i j = cellM S i j - cellM D i j) →
    ∀ i j, cellM (addsM (-v) k r R) i j = cellM S i j - cellM (addsM v k r D) i j
  | [], k, S, D, R, _, _, _, _, h => h
  | x :: r, k, S, D, R, hD, hR, hk, hr, h => by
    simp only [List.length_cons] at hk
    have hx := hr x List.mem_cons_self
    rw [addsM, addsM]
    by_cases h0 : 0 ≤ x
    · rw [if_pos h0, if_pos h0]
      refine adds_rel v r (k + 1) S _ _ hD.add hR.add (by omega) (fun y hy => hr y (List.mem_cons_of_mem _ hy)) (fun i j => ?_)
      rw [addM_cell R _ _ _ (by rw [hR.1]; omega) (by rw [hR.2 _ (by omega)]; omega), addM_cell D _ _ _ (by rw [hD.1]; omega) (by rw [hD.2 _ (by omega)]; omega), h i j]
      split <;> omega
    · rw [if_neg h0, if_neg h0]
      exact adds_rel v r (k + 1) S D R hD hR (by omega) (fun y hy => hr y (List.mem_cons_of_mem _ hy)) h
theorem pp_impl3 : ∀ (r pre : List (List Int)), (pre ++ r).length < 1000000 → (∀ x ∈ r, x.length ≤ 1048576) →
    L (fun k => impl_isPiecePlan.l3 k (pre ++ r) ((pre ++ r).length : Int) (pre.length : Int)) = some (r.all (fun row => row.all (fun x => inB x 0 0)))
  | [], pre, hb, hr => by
    rw [L_shift]
    simp only [impl_isPiecePlan.l3, not_lt_end, if_false, L_const]
    rfl
  | x :: r, pre, hb, hr => by
    rw [L_shift]
    have hl : pre.length < 4611686018427387904 := by simp at hb; omega
    have e : rd_L4 (pre ++ x :: r) (pre.length : Int) = x := getD_mid pre x r _
    simp only [impl_isPiecePlan.l3, lt_mid, le_nat, if_true, e, wrap_mid pre x hl, L_bind, allWithin_L x 0 0 (by have := hr x List.mem_cons_self; omega), Option.bind_some, L_ite, L_const]
    rw [app_cons pre x r, pp_impl3 r (pre ++ [x]) (by simpa using hb) (fun y hy => hr y (List.mem_cons_of_mem _ hy)), ite_and, List.all_cons]
theorem pp_spec3 (S D : List (List Int)) (hS : S.length < 1000000) : ∀ (r s p q : List (List Int)), S = p ++ r → D = q ++ s → p.length = q.length → r.length = s.length → (∀ x ∈ s, x.length ≤ 1048576) →
    L (fun k => spec_IsPiecePlan.l3 k S D (p.length : Int)) = some (decide (s = r), true)
  | [], s, p, q, hp, hq, hl, hrs, hr => by
    rw [L_shift]
    have : s = [] := List.length_eq_zero_iff.1 (by simpa using hrs.symm)
    subst this
    simp only [List.append_nil] at hp
    subst hp
    simp only [spec_IsPiecePlan.l3, if_neg (show ¬ ((S.length : Int) < (S.length : Int)) by omega), L_const, decide_true]
  | x :: r, s, p, q, hp, hq, hl, hrs, hr => by
    match s, hrs with
    | y :: s, hrs =>
      rw [L_shift]
      have hpl : p.length < 1000000 := by rw [hp] at hS; simp at hS; omega
      have e : rd_L4 S (p.length : Int) = x := by rw [hp]; exact getD_mid p x r _
      have e2 : rd_L4 D (p.length : Int) = y := by rw [hq, hl]; exact getD_mid q y s _
      have c1 : ((p.length : Int) < (S.length : Int)) = True := by rw [hp]; exact lt_mid p x r
      have c2 : ((p.length : Int) < (D.length : Int)) = True := by rw [hq, hl]; exact lt_mid q y s
      simp only [spec_IsPiecePlan.l3, c1, c2, le_nat, if_true, e, e2, wrap_mid p x (by omega), L_bind, l1Same_L y x (by have := hr y List.mem_cons_self; omega), Option.bind_some, L_ite, L_const]
      rw [pp_spec3 S D hS r s (p ++ [x]) (q ++ [y]) (by rw [hp]; simp) (by rw [hq]; simp) (by simp [hl]) (by simpa using hrs) (fun z hz => hr z (List.mem_cons_of_mem _ hz))]
      by_cases h : y = x
      · subst h
        simp
      · simp [h]
theorem jobsB_lt {n : Int} : ∀ (r pre : List Int), jobsB n pre r = true → ∀ x ∈ r, x < n
  | [], _, _, x, hx => by cases hx
  | y :: r, pre, h, x, hx => by
    rw [jobsB, Bool.and_eq_true, Bool.and_eq_true, inB_iff] at h
    rcases List.mem_cons.1 hx with rfl | hx
    · omega
    · exact jobsB_lt r _ h.2.2 x hx
theorem pp_both (S : List (List Int)) (n m : Nat) (hS : Shop S m) (hn : S.length = n) (Ps : List S123) (hP : Ps.length ≤ 40) : ∀ (r q : List S123) (D R : List (List Int)) (c : Int), q ++ r = Ps → (∀ p ∈ r, p.f1.length ≤ 1048576) → Bd D n m c → Bd R n m c → c + 4000000 * r.length ≤ 500000000 → (∀ i j, cellM R i j = cellM S i j - cellM D i j) →
    ∃ b : Bool, L (fun k => impl_isPiecePlan.l1 k S R Ps (Ps.length : Int) (q.length : Int)) = some b ∧ L (fun k => spec_IsPiecePlan.l1 k S Ps D (q.length : Int)) = some (b, true)
  | [], q, D, R, c, hq, hr, hD, hR, hc, hrel => by
    simp only [List.append_nil] at hq
    subst hq
    have hn8 := hS.len
    have hm3 := hS.m3
    have rows : ∀ (M : List (List Int)), Dim M n m → ∀ x ∈ M, x.length = m := by
      intro M hM x hx
      obtain ⟨i, hi, rfl⟩ := List.getElem_of_mem hx
      have := hM.2 i (by rw [← hM.1]; exact hi)
      rwa [List.getD_eq_getElem?_getD, List.getElem?_eq_getElem hi] at this
    have h1 := pp_impl3 R [] (by have := hR.dim.1; simp; omega) (fun x hx => by have := rows R hR.dim x hx; omega)
    have h2 := pp_spec3 S D (by omega) S D [] [] rfl rfl rfl (by rw [hD.dim.1, hn]) (fun x hx => by have := rows D hD.dim x hx; omega)
    simp only [List.nil_append, List.length_nil, Int.natCast_zero] at h1 h2
    refine ⟨decide (D = S), ?_, ?_⟩
    · rw [L_shift]
      simp only [impl_isPiecePlan.l1, if_neg (show ¬ ((q.length : Int) < (q.length : Int)) by omega)]
      rw [h1]
      congr 1
      rw [Bool.eq_iff_iff, decide_eq_true_eq]
      simp only [List.all_eq_true, inB_iff]
      have hSd : Dim S n m := hn ▸ Dim.of hS.row
      constructor
      · intro h
        refine hD.dim.ext hSd (fun i k => ?_)
        have h3 := hrel i k
        have h4 : cellM R i k = 0 := by
          unfold cellM
          by_cases hi : i < R.length
          · rw [List.getD_eq_getElem?_getD (l := R), List.getElem?_eq_getElem hi]
            by_cases hk : k < R[i].length
            · have := h _ (List.getElem_mem hi) _ (getD_mem hk)
              simp only [Option.getD_some]
              omega
            · simp only [Option.getD_some]
              rw [List.getD_eq_getElem?_getD, List.getElem?_eq_none (by omega)]
              rfl
          · rw [List.getD_eq_getElem?_getD (l := R), List.getElem?_eq_none (by omega)]
            rfl
        omega
      · intro h x hx y hy
        obtain ⟨i, hi, rfl⟩ := List.getElem_of_mem hx
        obtain ⟨k, hk, rfl⟩ := List.getElem_of_mem hy
        have h3 := hrel i k
        rw [h] at h3
        have h4 : cellM R i k = (R[i])[k] := by
          unfold cellM
          rw [List.getD_eq_getElem?_getD (l := R), List.getElem?_eq_getElem hi, Option.getD_some, List.getD_eq_getElem?_getD, List.getElem?_eq_getElem hk]
          rfl
        omega
    · rw [L_shift]
      simp only [spec_IsPiecePlan.l1, if_neg (show ¬ ((q.length : Int) < (q.length : Int)) by omega)]
      exact h2
  | p :: r, q, D, R, c, hq, hr, hD, hR, hc, hrel => by
    have hn8 := hS.len
    have hm3 := hS.m3
    have hm := hS.eq
    have hpl : Ps.length = q.length + (r.length + 1) := by rw [← hq]; simp
    have e : rd_T123 Ps (q.length : Int) = p := by rw [← hq]; exact getD_mid q p r _
    have c1 : ((q.length : Int) < (Ps.length : Int)) = True := by rw [← hq]; exact lt_mid q p r
    have hp := hr p List.mem_cons_self
    have hpz := l8Piece_l S n hn (by omega) p.f0 p.f1 hp p.f1 [] rfl
    simp only [List.length_nil, Int.natCast_zero] at hpz
    have hpf : L (fun k => spec_l8Piece.f k S p.f0 p.f1) = some (jobsB (n : Int) [] p.f1 && (decide ((p.f1.length : Int) = shopM S) && inB p.f0 1 1000000)) := hpz
    simp only [List.length_cons] at hc
    have hI : L (fun k => impl_isPiecePlan.l1 k S R Ps (Ps.length : Int) (q.length : Int)) = if inB p.f0 1 1000000 = true then (if ((p.f1.length : Int) != shopM S) = true then some false else L (fun k => impl_isPiecePlan.l2 k S R Ps (Ps.length : Int) (q.length : Int) p.f1 (p.f1.length : Int) 0 p.f0 p.f1)) else some false := by
      rw [L_shift]
      simp only [impl_isPiecePlan.l1, c1, le_nat, if_true, e, within_e, machinesOf_e, Option.bind_some, L_ite, impl_isPiecePlan_j2, L_const]
    have hSp : L (fun k => spec_IsPiecePlan.l1 k S Ps D (q.length : Int)) = if (jobsB (n : Int) [] p.f1 && (decide ((p.f1.length : Int) = shopM S) && inB p.f0 1 1000000)) = true then L (fun k => spec_IsPiecePlan.l2 k S Ps D (q.length : Int) 0) else some (false, true) := by
      rw [L_shift]
      simp only [spec_IsPiecePlan.l1, c1, le_nat, if_true, e, L_bind, hpf, Option.bind_some, L_ite, L_const]
    rw [hI, hSp]
    by_cases h1 : inB p.f0 1 1000000 = true
    · obtain ⟨g0, g1⟩ := inB_iff.1 h1
      by_cases h2 : (p.f1.length : Int) = shopM S
      · have hJm : p.f1.length = m := by omega
        have e3 : ((p.f1.length : Int) != shopM S) = false := by rw [h2]; simp
        have hi2 := pp_impl2 S n m hn (by omega) hm3 Ps (Ps.length : Int) (q.length : Int) p.f0 p.f1 hJm g0 g1 p.f1 [] R c rfl hR (by omega)
        simp only [List.length_nil, Int.natCast_zero] at hi2
        rw [if_pos h1, e3, if_neg (by decide), hi2, h1, decide_eq_true h2, Bool.and_self, Bool.and_true]
        by_cases h3 : jobsB (n : Int) [] p.f1 = true
        · have hlt := jobsB_lt p.f1 [] h3
          have hs2 := pp_spec2 S n m (by omega) hm3 Ps q p r hq.symm (by omega) hJm g0 g1 p.f1 [] D c rfl hlt hD (by omega)
          simp only [List.length_nil, Int.natCast_zero] at hs2
          rw [if_pos h3, if_pos h3, hs2, wrap_mid q p (by omega)]
          have bD := Bd.adds (v := p.f0) (by omega) (by omega) p.f1 0 D c hD (by omega) hlt
          have bR := Bd.adds (v := -p.f0) (by omega) (by omega) p.f1 0 R c hR (by omega) hlt
          exact pp_both S n m hS hn Ps hP r (q ++ [p]) (addsM p.f0 0 p.f1 D) (addsM (-p.f0) 0 p.f1 R) (c + 4000000) (by rw [← hq]; simp) (fun x hx => hr x (List.mem_cons_of_mem _ hx)) (bD.mono (by omega)) (bR.mono (by omega)) (by omega) (adds_rel p.f0 p.f1 0 S D R hD.dim hR.dim (by omega) hlt hrel)
        · rw [if_neg h3, if_neg h3]
          exact ⟨false, rfl, rfl⟩
      · have e3 : ((p.f1.length : Int) != shopM S) = true := by simpa using h2
        rw [if_pos h1, e3, if_pos rfl, decide_eq_false h2, Bool.false_and, Bool.and_false, if_neg (by decide)]
        exact ⟨false, rfl, rfl⟩
    · rw [if_neg h1]
      simp only [Bool.not_eq_true] at h1
      rw [h1, Bool.and_false, Bool.and_false, if_neg (by decide)]
      exact ⟨false, rfl, rfl⟩
theorem pp_copy (S : List (List Int)) (Ps : List S123) : ∀ (r pre : List (List Int)), pre ++ r = S → S.length < 1000000 → (∀ x ∈ r, x.length ≤ 1048576) →
    L (fun k => impl_isPiecePlan.l0 k S Ps pre S (S.length : Int) (pre.length : Int)) = L (fun k => impl_isPiecePlan.l1 k S S Ps (Ps.length : Int) 0)
  | [], pre, hp, hb, hr => by
    rw [L_shift]
    simp only [List.append_nil] at hp
    subst hp
    simp only [impl_isPiecePlan.l0, if_neg (show ¬ ((pre.length : Int) < (pre.length : Int)) by omega)]
  | x :: r, pre, hp, hb, hr => by
    rw [L_shift]
    have hl : S.length = pre.length + (r.length + 1) := by rw [← hp]; simp
    have e : rd_L4 S (pre.length : Int) = x := by rw [← hp]; exact getD_mid pre x r _
    simp only [impl_isPiecePlan.l0, if_pos (show (pre.length : Int) < (S.length : Int) by omega), le_nat, if_true, e, copyInts_e x (hr x List.mem_cons_self), Option.bind_some, if_pos (show pre.length < 5864062014805 by omega), wrap_mid pre x (by omega)]
    exact pp_copy S Ps r (pre ++ [x]) (by rw [← hp]; simp) hb (fun y hy => hr y (List.mem_cons_of_mem _ hy))
theorem pp_zero (S : List (List Int)) (m : Nat) (hm : shopM S = (m : Int)) (hm3 : m ≤ 3) (Ps : List S123) (hS : S.length < 1000000) : ∀ (d i : Nat), i + d = S.length → 
    L (fun k => spec_IsPiecePlan.l0 k S Ps (List.replicate i (List.replicate m 0)) (i : Int)) = L (fun k => spec_IsPiecePlan.l1 k S Ps (List.replicate S.length (List.replicate m 0)) 0)
  | 0, i, hi => by
    rw [L_shift]
    simp only [spec_IsPiecePlan.l0, if_neg (show ¬ ((i : Int) < (S.length : Int)) by omega)]
    rw [show i = S.length by omega]
  | d + 1, i, hi => by
    rw [L_shift]
    have e : wrap64 ((i : Int) + 1) = ((i + 1 : Nat) : Int) := by
      rw [wrap_id (by omega) (by omega)]
      omega
    simp only [spec_IsPiecePlan.l0, if_pos (show ((i : Int) < (S.length : Int)) by omega), l8Machines_e, hm, Option.bind_some, le_nat, if_true, Int.toNat_natCast, if_pos (show m ≤ 35184372088832 by omega), List.length_replicate, if_pos (show i < 5864062014805 by omega), e]
    rw [show List.replicate i (List.replicate m (0 : Int)) ++ [List.replicate m 0] = List.replicate (i + 1) (List.replicate m 0) from (List.replicate_succ').symm]
    exact pp_zero S m hm hm3 Ps hS d (i + 1) (by omega)
theorem cell_rep (n m i k : Nat) : cellM (List.replicate n (List.replicate m 0)) i k = 0 := by
  unfold cellM
  have h1 : (List.replicate n (List.replicate m (0 : Int))).getD i [] = if i < n then List.replicate m 0 else [] := by
    simp only [List.getD_eq_getElem?_getD, List.getElem?_replicate]
    split <;> rfl
  rw [h1]
  split
  · simp only [List.getD_eq_getElem?_getD, List.getElem?_replicate]
    split <;> rfl
  · rfl
theorem IsPiecePlan_both (S : List (List Int)) (Ps : List S123) (h : S.length ≤ 1048576) (hr : ∀ x ∈ S, x.length ≤ 1048576) (hp : ∀ p ∈ Ps, p.f1.length ≤ 1048576) :
    ∃ a b : Bool, L (fun k => spec_IsPiecePlan.f k S Ps) = some (a, b) ∧ L (fun k => impl_IsPiecePlan.f k S Ps) = some (a, b) := by
  simp only [spec_IsPiecePlan.f, impl_IsPiecePlan.f, impl_isPiecePlan.f, L_bind, L_ite, L_const, l8Good_L S h hr, isShop_L S h hr, Option.bind_some]
  cases hs : shopB S with
  | false => exact ⟨false, false, by simp, by simp⟩
  | true =>
    obtain ⟨m, hS⟩ := shopB_iff hs
    have hn8 := hS.len
    have hm3 := hS.m3
    simp only [if_true]
    by_cases hP : Ps.length ≤ 40
    · have hz := pp_zero S m hS.eq hm3 Ps (by omega) S.length 0 (by omega)
      have hc := pp_copy S Ps S [] rfl (by omega) hr
      simp only [List.replicate_zero, Int.natCast_zero, List.length_nil] at hz hc
      have dimS : Dim S S.length m := Dim.of hS.row
      have bS : Bd S S.length m 1000000 := by
        have key : ∀ i k, 0 ≤ cellM S i k ∧ cellM S i k ≤ 30 := by
          intro i k
          unfold cellM
          by_cases hi : i < S.length
          · rw [List.getD_eq_getElem?_getD (l := S), List.getElem?_eq_getElem hi, Option.getD_some]
            by_cases hk : k < S[i].length
            · exact hS.val _ (List.getElem_mem hi) _ (getD_mem hk)
            · rw [List.getD_eq_getElem?_getD, List.getElem?_eq_none (by omega)]
              decide
          · rw [List.getD_eq_getElem?_getD (l := S), List.getElem?_eq_none (by omega)]
            exact ⟨Int.le_refl 0, by show (0 : Int) ≤ 30; omega⟩
        exact ⟨dimS, fun i k => by have := key i k; omega, fun i k => by have := key i k; omega⟩
      have dimZ : Dim (List.replicate S.length (List.replicate m (0 : Int))) S.length m := by
        refine ⟨List.length_replicate, fun i hi => ?_⟩
        simp only [List.getD_eq_getElem?_getD, List.getElem?_replicate, if_pos hi, Option.getD_some, List.length_replicate]
      have bZ : Bd (List.replicate S.length (List.replicate m (0 : Int))) S.length m 1000000 := ⟨dimZ, fun i k => by rw [cell_rep]; omega, fun i k => by rw [cell_rep]; omega⟩
      obtain ⟨b, g1, g2⟩ := pp_both S S.length m hS rfl Ps hP Ps [] _ S 1000000 rfl hp bZ bS (by omega) (fun i j => by rw [cell_rep]; omega)
      simp only [List.length_nil, Int.natCast_zero] at g1 g2
      refine ⟨b, true, ?_, ?_⟩
      · rw [if_neg (by omega), hz, g2]
      · have hf : L (fun k => impl_isPiecePlan.f k S Ps) = some b := by
          simp only [impl_isPiecePlan.f, if_neg (show ¬ (Ps.length : Int) > 40 by omega)]
          rw [hc, g1]
        have : L (fun k => (impl_isPiecePlan.f k S Ps).bind fun t => some (t, true)) = some (b, true) := by
          rw [L_bind, hf, Option.bind_some, L_const]
        simpa [impl_isPiecePlan.f] using this
    · refine ⟨false, true, ?_, ?_⟩
      · rw [if_pos (by omega)]
      · simp only [if_pos (show (Ps.length : Int) > 40 by omega), Option.bind_some, L_const]
def toPieceP (x : S119) : S123 := ⟨x.f0, x.f1⟩
theorem szShopPiece_e (x : S119) (v : Int) (h : x.f1.length ≤ 9223372036854775807) (h0 : 0 ≤ v) (h1 : v ≤ 1048576) : laws_szShopPiece.f x.f0 x.f1 v = some (if (x.f1.length : Int) ≤ v then v - (x.f1.length : Int) else -1) := by
  simp only [laws_szShopPiece.f, szIntS_e x.f1 v h h0 h1, Option.bind_some]
  by_cases h2 : (x.f1.length : Int) ≤ v
  · rw [if_pos h2, if_neg (by omega)]
  · rw [if_neg h2, if_pos (by omega)]
theorem szShopPieceS_l (r : List S119) : ∀ (pre : List S119) (v : Int), (pre ++ r).length < 4611686018427387904 → 0 ≤ v → v ≤ 1048576 → (∀ x ∈ r, x.f1.length ≤ 9223372036854775807) →
    ∃ t, L (fun k => laws_szShopPieceS.l0 k (pre ++ r) v (pre.length : Int)) = some t ∧ (t < 0 ∨ 0 ≤ t ∧ ∀ x ∈ r, x.f1.length ≤ 1048576) := by
  induction r with
  | nil =>
    intro pre v hb h0 h1 hr
    rw [L_shift]
    simp only [laws_szShopPieceS.l0, not_lt_end, if_false, L_const]
    exact ⟨v, rfl, .inr ⟨h0, by simp⟩⟩
  | cons x r ih =>
    intro pre v hb h0 h1 hr
    rw [L_shift]
    have hl : pre.length < 4611686018427387904 := by simp at hb; omega
    have e : rd_T119 (pre ++ x :: r) (pre.length : Int) = x := getD_mid pre x r _
    simp only [laws_szShopPieceS.l0, lt_mid, le_nat, if_true, e, wrap_mid pre x hl, szShopPiece_e x v (hr x List.mem_cons_self) h0 h1, Option.bind_some, L_ite, L_const]
    by_cases h2 : (x.f1.length : Int) ≤ v
    · rw [if_pos h2, if_neg (by omega), app_cons pre x r]
      obtain ⟨t, ht, hd⟩ := ih (pre ++ [x]) (v - (x.f1.length : Int)) (by simpa using hb) (by omega) (by omega) (fun y hy => hr y (List.mem_cons_of_mem _ hy))
      refine ⟨t, ht, hd.imp id (fun hd => ⟨hd.1, ?_⟩)⟩
      intro y hy
      rcases List.mem_cons.1 hy with rfl | hy
      · omega
      · exact hd.2 y hy
    · rw [if_neg h2, if_pos (by omega)]
      exact ⟨-1, rfl, .inl (by omega)⟩
theorem szShopPieceS_L (l : List S119) (v : Int) (h0 : 0 ≤ v) (h1 : v ≤ 1048576) (hl : l.length ≤ 9223372036854775807) (hr : ∀ x ∈ l, x.f1.length ≤ 9223372036854775807) :
    ∃ t, L (fun k => laws_szShopPieceS.f k l v) = some t ∧ (t < 0 ∨ 0 ≤ t ∧ l.length ≤ 1048576 ∧ ∀ x ∈ l, x.f1.length ≤ 1048576) := by
  simp only [laws_szShopPieceS.f]
  rw [wrap_id (show -9223372036854775808 ≤ v - (l.length : Int) by omega) (by omega)]
  by_cases h : v - (l.length : Int) < 0
  · simp only [if_pos h, L_const]
    exact ⟨-1, rfl, .inl (by omega)⟩
  · simp only [if_neg h]
    obtain ⟨t, ht, hd⟩ := szShopPieceS_l l [] (v - (l.length : Int)) (by simp; omega) (by omega) (by omega) hr
    exact ⟨t, ht, hd.imp id (fun hd => ⟨hd.1, by omega, hd.2⟩)⟩
theorem toShopPieceS_l (r : List S119) : ∀ pre : List S119, (pre ++ r).length < 4611686018427387904 → (∀ x ∈ r, x.f1.length ≤ 1048576) → L (fun k => laws_toShopPieceS.l0 k (pre ++ r) (pre.map toPieceP ++ List.replicate r.length z123) (pre.length : Int)) = some ((pre ++ r).map toPieceP) := by
  induction r with
  | nil =>
    intro pre hb hr
    rw [L_shift]
    simp only [laws_toShopPieceS.l0, not_lt_end, if_false, L_const, List.length_nil, List.replicate_zero]
    simp
  | cons x r ih =>
    intro pre hb hr
    rw [L_shift]
    have hl : pre.length < 4611686018427387904 := by simp at hb; omega
    have e : rd_T119 (pre ++ x :: r) (pre.length : Int) = x := getD_mid pre x r _
    have e2 : ((pre.length : Int) < ((pre.map toPieceP ++ z123 :: List.replicate r.length z123).length : Int)) = True := by
      simp only [List.length_append, List.length_cons, List.length_map]
      exact eq_true (by omega)
    simp only [laws_toShopPieceS.l0, laws_toShopPiece.f, lt_mid, le_nat, if_true, rep_succ, e, e2, wrap_mid pre x hl, L_bind, L_const, toIntS_L x.f1 (hr x List.mem_cons_self), Option.bind_some, set_mid (pre.map toPieceP) _ _ _ pre (by simp)]
    have := ih (pre ++ [x]) (by simpa using hb) (fun y hy => hr y (List.mem_cons_of_mem _ hy))
    simpa [toPieceP] using this
theorem toShopPieceS_L (l : List S119) (h : l.length ≤ 1048576) (hr : ∀ x ∈ l, x.f1.length ≤ 1048576) : L (fun k => laws_toShopPieceS.f k l) = some (l.map toPieceP) := by
  simp only [laws_toShopPieceS.f, le_nat, if_true, Int.toNat_natCast, if_pos (show l.length ≤ 8796093022208 by omega)]
  exact toShopPieceS_l l [] (by simp; omega) hr
theorem eqShopPieceS_l (r : List S123) : ∀ pre : List S123, (pre ++ r).length < 4611686018427387904 → (∀ x ∈ r, x.f1.length ≤ 1048576) → L (fun k => laws_eqShopPieceS.l0 k (pre ++ r) (pre ++ r) (pre.length : Int)) = some true := by
  induction r with
  | nil =>
    intro pre hb hr
    rw [L_shift]
    simp only [laws_eqShopPieceS.l0, not_lt_end, if_false, L_const]
  | cons x r ih =>
    intro pre hb hr
    rw [L_shift]
    have hl : pre.length < 4611686018427387904 := by simp at hb; omega
    have e : rd_T123 (pre ++ x :: r) (pre.length : Int) = x := getD_mid pre x r _
    simp only [laws_eqShopPieceS.l0, laws_eqShopPiece.f, lt_mid, le_nat, if_true, e, wrap_mid pre x hl, L_bind, L_const, eqIntS_L x.f1 (hr x List.mem_cons_self), Option.bind_some]
    rw [app_cons pre x r]
    exact ih (pre ++ [x]) (by simpa using hb) (fun y hy => hr y (List.mem_cons_of_mem _ hy))
theorem eqShopPieceS_L (l : List S123) (h : l.length ≤ 1048576) (hr : ∀ x ∈ l, x.f1.length ≤ 1048576) : L (fun k => laws_eqShopPieceS.f k l l) = some true := by
  simp only [laws_eqShopPieceS.f, if_true]
  exact eqShopPieceS_l l [] (by simp; omega) hr
theorem laws_FnExactIsPiecePlan_j0f (x0 : List (List Int)) (x1 : List (S119)) (x8 : List (List Int)) (x9 : List (S123)) : L (fun k => laws_FnExactIsPiecePlan.j0 k x0 x1 x8 x9 false) = L (fun k => (laws_toIntSS.f k x0).bind fun t849 => ((laws_eqIntSS.f k x8 t849).bind fun t852 => (if t852 = true then ((laws_toShopPieceS.f k x1).bind fun t853 => ((laws_eqShopPieceS.f k x9 t853).bind fun t856 => (if t856 = true then (some true) else (some false)))) else (some false)))) := by
  rw [L_shift]
  simp only [laws_FnExactIsPiecePlan.j0, Bool.false_eq_true, if_false]
theorem FnExactIsPiecePlan : laws_FnExactIsPiecePlan.Pure := by
  intro S ps h1 hok1 h2 hok
  have e1 : maxLen = 9223372036854775807 := rfl
  refine rounds_of_L ?_
  simp only [laws_FnExactIsPiecePlan.f, L_ite, L_const, L_bind]
  obtain ⟨t, ht, hd⟩ := szIntSS_L S 1048576 (by omega) (by omega) (by omega) (fun x hx => by have := (hok1 x hx).1; omega)
  rw [ht, Option.bind_some]
  rcases hd with hd | ⟨hd, hS, hSr⟩
  · rw [if_pos hd]
  · rw [if_neg (by omega)]
    by_cases ht1 : t ≤ 1048576
    · obtain ⟨u, hu, hd2⟩ := szShopPieceS_L ps t hd ht1 (by omega) (fun x hx => by have := (hok x hx).2.1; omega)
      rw [hu, Option.bind_some]
      rcases hd2 with hd2 | ⟨hd2, hp, hpr⟩
      · rw [if_pos hd2]
      · rw [if_neg (by omega)]
        have hp2 : (ps.map toPieceP).length ≤ 1048576 := by simpa using hp
        have hs2 : ∀ x ∈ ps.map toPieceP, x.f1.length ≤ 1048576 := by
          intro x hx
          obtain ⟨y, hy, rfl⟩ := List.mem_map.1 hx
          exact hpr y hy
        obtain ⟨a, b, hsp, him⟩ := IsPiecePlan_both S (ps.map toPieceP) hS hSr hs2
        simp only [Option.bind_some, L_bind, L_ite, L_const, toIntSS_L S hS hSr, toShopPieceS_L ps hp hpr, hsp, him, eqIntSS_L S hS hSr, eqShopPieceS_L _ hp2 hs2, laws_FnExactIsPiecePlan_j0f, if_true, bne_self_eq_false, Bool.false_eq_true, if_false]
    · exact absurd (szIntSS_le S (by omega) (fun x hx => by have := (hok1 x hx).1; omega) t ht) (by omega)

end Go.Proofs.Ytgpnophjbibhhaa.Pure
