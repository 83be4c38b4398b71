/- The program's OpsOn answers what the reference's answers, for all job shops and machines. -/
import Derived.Test.YtgpnophjbibhhaaXSFnExactOpsOn
import Derived.Test.YtgpnophjbibhhaaXLim
namespace Go.Proofs.Ytgpnophjbibhhaa.Pure
open Go.RowKit Go.Proofs.YtgpnophjbibhhaaW.PrintWords Go.Proofs.YtgpnophjbibhhaaW.PrintLast Go.Proofs.YtgpnophjbibhhaaW.PrintMore Go.Proofs.Ytgpnophjbibhhaa.X Go.Proofs.Ytgpnophjbibhhaa.XRow Go.Proofs.Ytgpnophjbibhhaa.XLim
set_option linter.unusedVariables false
set_option linter.unusedSimpArgs false
instance : ∀ a0 a1, Mono (fun k => impl_IsJobShop.f k a0 a1) := fun a0 a1 => ⟨⟨impl_IsJobShop.mono a0 a1⟩⟩
instance : ∀ a0 a1 a2, Mono (fun k => impl_OpsOn.f k a0 a1 a2) := fun a0 a1 a2 => ⟨⟨impl_OpsOn.mono a0 a1 a2⟩⟩
instance : ∀ a0 a1, Mono (fun k => impl_flatOf.f k a0 a1) := fun a0 a1 => ⟨⟨impl_flatOf.mono a0 a1⟩⟩
instance : ∀ a0 a1 a2 a3, Mono (fun k => impl_flat_on.f k a0 a1 a2 a3) := fun a0 a1 a2 a3 => ⟨⟨impl_flat_on.mono a0 a1 a2 a3⟩⟩
instance : ∀ a0 a1, Mono (fun k => impl_has.f k a0 a1) := fun a0 a1 => ⟨⟨impl_has.mono a0 a1⟩⟩
instance : ∀ a0_0 l0_1 a1, Mono (fun k => laws_FnExactOpsOn.f k a0_0 l0_1 a1) := fun a0_0 l0_1 a1 => ⟨⟨laws_FnExactOpsOn.mono a0_0 l0_1 a1⟩⟩
instance : ∀ a0 a1, Mono (fun k => laws_eqIntS.f k a0 a1) := fun a0 a1 => ⟨⟨laws_eqIntS.mono a0 a1⟩⟩
instance : ∀ a0 a1 a2 a3, Mono (fun k => laws_eqJobShop.f k a0 a1 a2 a3) := fun a0 a1 a2 a3 => ⟨⟨laws_eqJobShop.mono a0 a1 a2 a3⟩⟩
instance : ∀ a0 a1, Mono (fun k => laws_eqOpS.f k a0 a1) := fun a0 a1 => ⟨⟨laws_eqOpS.mono a0 a1⟩⟩
instance : ∀ a0 a1, Mono (fun k => laws_eqOpSS.f k a0 a1) := fun a0 a1 => ⟨⟨laws_eqOpSS.mono a0 a1⟩⟩
instance : ∀ a0 a1, Mono (fun k => laws_heldIntS.f k a0 a1) := fun a0 a1 => ⟨⟨laws_heldIntS.mono a0 a1⟩⟩
instance : ∀ a0 a1, Mono (fun k => laws_markIntS.f k a0 a1) := fun a0 a1 => ⟨⟨laws_markIntS.mono a0 a1⟩⟩
instance : ∀ a0 a1, Mono (fun k => laws_markJobShop.f k a0 a1) := fun a0 a1 => ⟨⟨laws_markJobShop.mono a0 a1⟩⟩
instance : ∀ a0 a1, Mono (fun k => laws_markOpS.f k a0 a1) := fun a0 a1 => ⟨⟨laws_markOpS.mono a0 a1⟩⟩
instance : ∀ a0 a1, Mono (fun k => laws_markOpSS.f k a0 a1) := fun a0 a1 => ⟨⟨laws_markOpSS.mono a0 a1⟩⟩
instance : ∀ a0 a1 a2, Mono (fun k => laws_szJobShop.f k a0 a1 a2) := fun a0 a1 a2 => ⟨⟨laws_szJobShop.mono a0 a1 a2⟩⟩
instance : ∀ a0 a1, Mono (fun k => laws_szOpSS.f k a0 a1) := fun a0 a1 => ⟨⟨laws_szOpSS.mono a0 a1⟩⟩
instance : ∀ a0 a1, Mono (fun k => laws_toJobShop.f k a0 a1) := fun a0 a1 => ⟨⟨laws_toJobShop.mono a0 a1⟩⟩
instance : ∀ a0, Mono (fun k => laws_toOpS.f k a0) := fun a0 => ⟨⟨laws_toOpS.mono a0⟩⟩
instance : ∀ a0, Mono (fun k => laws_toOpSS.f k a0) := fun a0 => ⟨⟨laws_toOpSS.mono a0⟩⟩
instance : ∀ a0 a1 a2, Mono (fun k => spec_OpsOn.f k a0 a1 a2) := fun a0 a1 a2 => ⟨⟨spec_OpsOn.mono a0 a1 a2⟩⟩
instance : ∀ a0 a1, Mono (fun k => spec_l1Has.f k a0 a1) := fun a0 a1 => ⟨⟨spec_l1Has.mono a0 a1⟩⟩
instance : ∀ a0 a1, Mono (fun k => spec_l9All.f k a0 a1) := fun a0 a1 => ⟨⟨spec_l9All.mono a0 a1⟩⟩
instance : ∀ a0 a1, Mono (fun k => spec_l9Count.f k a0 a1) := fun a0 a1 => ⟨⟨spec_l9Count.mono a0 a1⟩⟩
instance : ∀ a0 a1, Mono (fun k => spec_l9Good.f k a0 a1) := fun a0 a1 => ⟨⟨spec_l9Good.mono a0 a1⟩⟩
instance : ∀ a0 a1 a2, Mono (fun k => spec_l9On.f k a0 a1 a2) := fun a0 a1 a2 => ⟨⟨spec_l9On.mono a0 a1 a2⟩⟩
instance : ∀ a0 a1, Mono (fun k => spec_l9Route.f k a0 a1) := fun a0 a1 => ⟨⟨spec_l9Route.mono a0 a1⟩⟩
theorem lt_mid {α : Type} (pre : List α) (x : α) (r : List α) : ((pre.length : Int) < ((pre ++ x :: r).length : Int)) = True := by
  simp only [List.length_append, List.length_cons]
  exact eq_true (by omega)
theorem not_lt_end {α : Type} (pre : List α) : ((pre.length : Int) < ((pre ++ []).length : Int)) = False := by
  simp
theorem le_nat (n : Nat) : (0 ≤ (n : Int)) = True := eq_true (by omega)
theorem getD_mid {α : Type} (pre : List α) (x : α) (r : List α) (d : α) : (pre ++ x :: r).getD (pre.length : Int).toNat d = x := by
  simp [List.getD_eq_getElem?_getD]
theorem rd_mid (pre : List Int) (x : Int) (r : List Int) : rd (pre ++ x :: r) (pre.length : Int) = x := getD_mid pre x r 0
theorem wrap_mid {α : Type} (pre : List α) (x : α) (h : pre.length < 4611686018427387904) : wrap64 ((pre.length : Int) + 1) = ((pre ++ [x]).length : Int) := by
  rw [wrap_id (by omega) (by omega)]
  simp
theorem set_mid {α β : Type} (a : List α) (y v : α) (b : List α) (pre : List β) (h : pre.length = a.length) : (a ++ y :: b).set (pre.length : Int).toNat v = a ++ v :: b := by
  rw [Int.toNat_natCast, h, List.set_append_right _ _ (Nat.le_refl _)]
  simp
theorem rep_succ {α : Type} (x : α) (r : List α) {β : Type} (z : β) : List.replicate (x :: r).length z = z :: List.replicate r.length z := rfl
theorem app_cons {α : Type} (pre : List α) (x : α) (r : List α) : pre ++ x :: r = (pre ++ [x]) ++ r := by simp
theorem eqIntS_l (r : List Int) : ∀ pre : List Int, (pre ++ r).length < 4611686018427387904 → L (fun k => laws_eqIntS.l0 k (pre ++ r) (pre ++ r) (pre.length : Int)) = some true := by
  induction r with
  | nil =>
    intro pre hb
    rw [L_shift]
    simp only [laws_eqIntS.l0, not_lt_end, if_false, L_const]
  | cons x r ih =>
    intro pre hb
    rw [L_shift]
    have hl : pre.length < 4611686018427387904 := by simp at hb; omega
    simp only [laws_eqIntS.l0, lt_mid, le_nat, if_true, rd_mid, wrap_mid pre x hl]
    rw [app_cons pre x r]
    exact ih (pre ++ [x]) (by simpa using hb)
theorem eqIntS_L (l : List Int) (h : l.length ≤ 1048576) : L (fun k => laws_eqIntS.f k l l) = some true := by
  simp only [laws_eqIntS.f, if_true]
  exact eqIntS_l l [] (by simp; omega)
/-- The numbers from v on, as many as a list has. -/
def countI {α : Type} : Int → List α → List Int
  | _, [] => []
  | v, _ :: r => v :: countI (v + 1) r
theorem markIntS_l (r : List Int) : ∀ (pre : List Int) (v : Int), (pre ++ r).length < 4611686018427387904 → 0 ≤ v → v + r.length < 9223372036854775807 → L (fun k => laws_markIntS.l0 k (pre ++ r) v (pre.length : Int)) = some (v + r.length, pre ++ countI v r) := by
  induction r with
  | nil =>
    intro pre v hb h0 h1
    rw [L_shift]
    simp only [laws_markIntS.l0, not_lt_end, if_false, L_const]
    simp [countI]
  | cons x r ih =>
    intro pre v hb h0 h1
    rw [L_shift]
    have hl : pre.length < 4611686018427387904 := by simp at hb; omega
    simp only [List.length_cons] at h1
    simp only [laws_markIntS.l0, lt_mid, le_nat, if_true, wrap_mid pre v hl, set_mid pre x v r pre rfl, wrap_id (show -9223372036854775808 ≤ v + 1 by omega) (show v + 1 ≤ 9223372036854775807 by omega)]
    rw [app_cons pre v r, ih (pre ++ [v]) (v + 1) (by simpa using hb) (by omega) (by omega)]
    simp only [countI, List.length_cons, Option.some.injEq, Prod.mk.injEq]
    exact ⟨by omega, by simp⟩
theorem markIntS_L (l : List Int) (v : Int) (h : l.length ≤ 1048576) (h0 : 0 ≤ v) (h1 : v ≤ 1000000000) : L (fun k => laws_markIntS.f k l v) = some (v + l.length, countI v l) := by
  have := markIntS_l l [] v (by simp; omega) h0 (by omega)
  simpa [laws_markIntS.f] using this
theorem heldIntS_l {α : Type} (r : List α) : ∀ (pre : List Int) (v : Int), (pre.length + r.length) < 4611686018427387904 → 0 ≤ v → v + r.length < 9223372036854775807 → L (fun k => laws_heldIntS.l0 k (pre ++ countI v r) v (pre.length : Int)) = some (v + r.length) := by
  induction r with
  | nil =>
    intro pre v hb h0 h1
    rw [L_shift]
    simp only [laws_heldIntS.l0, countI, not_lt_end, if_false, L_const]
    simp
  | cons x r ih =>
    intro pre v hb h0 h1
    rw [L_shift]
    simp only [List.length_cons] at h1 hb
    have hl : pre.length < 4611686018427387904 := by omega
    simp only [laws_heldIntS.l0, countI, lt_mid, le_nat, if_true, rd_mid, wrap_mid pre v hl, wrap_id (show -9223372036854775808 ≤ v + 1 by omega) (show v + 1 ≤ 9223372036854775807 by omega)]
    rw [app_cons pre v (countI _ r), ih (pre ++ [v]) (v + 1) (by simp; omega) (by omega) (by omega)]
    simp only [List.length_cons, Option.some.injEq]
    omega
theorem heldIntS_L {α : Type} (l : List α) (v : Int) (h : l.length ≤ 1048576) (h0 : 0 ≤ v) (h1 : v ≤ 1000000000) : L (fun k => laws_heldIntS.f k (countI v l) v) = some (v + l.length) := by
  have := heldIntS_l l [] v (by simp; omega) h0 (by omega)
  simpa [laws_heldIntS.f] using this
theorem ite_and (b c : Bool) : (if b = true then some c else some false) = some (b && c) := by cases b <;> rfl
theorem ite_not_and (b c : Bool) : (if b = true then some false else some c) = some (!b && c) := by cases b <;> rfl
def inB (a lo hi : Int) : Bool := decide (lo ≤ a) && decide (a ≤ hi)
theorem inB_iff {a lo hi : Int} : inB a lo hi = true ↔ lo ≤ a ∧ a ≤ hi := by simp [inB]
theorem within_e (a lo hi : Int) : impl_within.f a lo hi = some (inB a lo hi) := by
  unfold impl_within.f inB
  by_cases h : lo ≤ a <;> simp [h]
theorem l1In_e (a lo hi : Int) : spec_l1In.f a lo hi = some (inB a lo hi) := by
  unfold spec_l1In.f inB
  by_cases h : lo ≤ a <;> simp [h]
theorem l1Has_l (x : Int) (r : List Int) : ∀ pre : List Int, (pre ++ r).length < 4611686018427387904 → L (fun k => spec_l1Has.l0 k (pre ++ r) x (pre.length : Int)) = some (decide (x ∈ r)) := by
  induction r with
  | nil =>
    intro pre hb
    rw [L_shift]
    simp only [spec_l1Has.l0, not_lt_end, if_false, L_const]
    simp
  | cons y r ih =>
    intro pre hb
    rw [L_shift]
    have hl : pre.length < 4611686018427387904 := by simp at hb; omega
    simp only [spec_l1Has.l0, lt_mid, le_nat, if_true, rd_mid, wrap_mid pre y hl, L_ite, L_const]
    rw [app_cons pre y r, ih (pre ++ [y]) (by simpa using hb)]
    by_cases h : y = x
    · subst h
      simp
    · rw [if_neg h]
      have : ¬ x = y := fun e => h e.symm
      simp [this]
theorem l1Has_L (l : List Int) (x : Int) (h : l.length < 4611686018427387904) : L (fun k => spec_l1Has.f k l x) = some (decide (x ∈ l)) := l1Has_l x l [] (by simpa using h)
theorem has_l (x : Int) (r : List Int) : ∀ pre : List Int, (pre ++ r).length < 4611686018427387904 → L (fun k => impl_has.l0 k x (pre ++ r) ((pre ++ r).length : Int) (pre.length : Int)) = some (decide (x ∈ r)) := by
  induction r with
  | nil =>
    intro pre hb
    rw [L_shift]
    simp only [impl_has.l0, not_lt_end, if_false, L_const]
    simp
  | cons y r ih =>
    intro pre hb
    rw [L_shift]
    have hl : pre.length < 4611686018427387904 := by simp at hb; omega
    simp only [impl_has.l0, lt_mid, le_nat, if_true, rd_mid, wrap_mid pre y hl, L_ite, L_const]
    rw [app_cons pre y r, ih (pre ++ [y]) (by simpa using hb)]
    by_cases h : y = x
    · subst h
      simp
    · rw [if_neg h]
      have : ¬ x = y := fun e => h e.symm
      simp [this]
theorem has_L (l : List Int) (x : Int) (h : l.length < 4611686018427387904) : L (fun k => impl_has.f k l x) = some (decide (x ∈ l)) := has_l x l [] (by simpa using h)
def numsTo (n : Nat) : List Int := (List.range n).map (fun i : Nat => (i : Int))
/-- Different numbers of n things, none of them in pre. -/
def diffB (n : Int) : List Int → List Int → Bool
  | _, [] => true
  | pre, x :: r => inB x 0 (n - 1) && (!decide (x ∈ pre) && diffB n (pre ++ [x]) r)
/-- An order of n jobs. -/
def orderB (n : Nat) (l : List Int) : Bool := decide ((l.length : Int) = n) && diffB n [] l
def IsOrd (n : Nat) (l : List Int) : Prop := l.length = n ∧ (∀ x ∈ l, 0 ≤ x ∧ x < n) ∧ l.Nodup
theorem isNumber_e (a n : Int) (h0 : -9223372036854775807 ≤ n) (h1 : n ≤ 9223372036854775807) : impl_isNumber.f a n = some (inB a 0 (n - 1)) := by
  simp only [impl_isNumber.f, within_e, Option.bind_some]
  rw [wrap_id (by omega) (by omega)]
def lessF : List Int → List Int → Bool
  | x :: a, y :: b => if x = y then lessF a b else decide (x < y)
  | _, _ => false
/-- Shorter ones first; those of one length by their first different number. -/
def lessB (a b : List Int) : Bool := if a.length = b.length then lessF a b else decide (a.length < b.length)
def lexB : List Int → List Int → Bool
  | [], [] => false
  | [], _ :: _ => true
  | _ :: _, [] => false
  | x :: a, y :: b => if x = y then lexB a b else decide (x < y)
def Pre (b c : List Int) : Prop := ∃ t, c = b ++ t
def begB (c b : List Int) : Bool := decide (c.take b.length = b)
/-- The numbers v, v + 1, .., d of them. -/
def upI : Nat → Int → List Int
  | 0, _ => []
  | d + 1, v => v :: upI d (v + 1)
def fct : Nat → Int
  | 0 => 1
  | m + 1 => ((m : Int) + 1) * fct m
/-- A beginning: different numbers below n. -/
def IsPreN (n : Nat) (b : List Int) : Prop := (∀ x ∈ b, 0 ≤ x ∧ x < (n : Int)) ∧ b.Nodup
def headB (b : List Int) : List (List Int) → Bool
  | [] => false
  | c :: _ => begB c b
def candF (g : List Int → List (List Int) → Option (List (List Int))) (b : List Int) : List Int → List (List Int) → Option (List (List Int))
  | [], cs => some cs
  | i :: is, cs => if i ∈ b then candF g b is cs else if headB b cs = true then (g (b ++ [i]) cs).bind (fun r' => candF g b is r') else none
def covF (n : Nat) : Nat → List Int → List (List Int) → Option (List (List Int))
  | 0, b, cs => if cs.head? = some b then some cs.tail else none
  | m + 1, b, cs => if cs.head? = some b then some cs.tail else candF (covF n m) b (upI n 0) cs
def wOf (n : Nat) (c : List Int) : Int := fct (n - c.length)
def sumW (n : Nat) (cs : List (List Int)) : Int := (cs.map (wOf n)).sum
def cnt (b is : List Int) : Nat := (is.filter (fun i => !decide (i ∈ b))).length
def toOpP (x : S165) : S133 := ⟨x.f0, x.f1⟩
theorem toOpS_l (r : List S165) : ∀ pre : List S165, (pre ++ r).length < 4611686018427387904 → L (fun k => laws_toOpS.l0 k (pre ++ r) (pre.map toOpP ++ List.replicate r.length z133) (pre.length : Int)) = some ((pre ++ r).map toOpP) := by
  induction r with
  | nil =>
    intro pre hb
    rw [L_shift]
    simp only [laws_toOpS.l0, not_lt_end, if_false, L_const, List.length_nil, List.replicate_zero]
    simp
  | cons x r ih =>
    intro pre hb
    rw [L_shift]
    have hl : pre.length < 4611686018427387904 := by simp at hb; omega
    have e : rd_T165 (pre ++ x :: r) (pre.length : Int) = x := getD_mid pre x r _
    have e2 : ((pre.length : Int) < ((pre.map toOpP ++ z133 :: List.replicate r.length z133).length : Int)) = True := by
      simp only [List.length_append, List.length_cons, List.length_map]
      exact eq_true (by omega)
    simp only [laws_toOpS.l0, laws_toOp.f, lt_mid, le_nat, if_true, rep_succ, e, e2, wrap_mid pre x hl, Option.bind_some, set_mid (pre.map toOpP) _ _ _ pre (by simp)]
    have := ih (pre ++ [x]) (by simpa using hb)
    simpa [toOpP] using this
theorem toOpS_L (l : List S165) (h : l.length ≤ 1048576) : L (fun k => laws_toOpS.f k l) = some (l.map toOpP) := by
  simp only [laws_toOpS.f, le_nat, if_true, Int.toNat_natCast, if_pos (show l.length ≤ 17592186044416 by omega)]
  exact toOpS_l l [] (by simp; omega)
theorem toOpSS_l (r : List (List S165)) : ∀ pre : List (List S165), (pre ++ r).length < 4611686018427387904 → (∀ x ∈ r, x.length ≤ 1048576) → L (fun k => laws_toOpSS.l0 k (pre ++ r) (pre.map (List.map toOpP) ++ List.replicate r.length []) (pre.length : Int)) = some ((pre ++ r).map (List.map toOpP)) := by
  induction r with
  | nil =>
    intro pre hb hr
    rw [L_shift]
    simp only [laws_toOpSS.l0, not_lt_end, if_false, L_const, List.length_nil, List.replicate_zero]
    simp
  | cons x r ih =>
    intro pre hb hr
    rw [L_shift]
    have hl : pre.length < 4611686018427387904 := by simp at hb; omega
    have e : rd_L9 (pre ++ x :: r) (pre.length : Int) = x := getD_mid pre x r _
    have e2 : ((pre.length : Int) < ((pre.map (List.map toOpP) ++ ([] : List S133) :: List.replicate r.length []).length : Int)) = True := by
      simp only [List.length_append, List.length_cons, List.length_map]
      exact eq_true (by omega)
    simp only [laws_toOpSS.l0, lt_mid, le_nat, if_true, rep_succ, e, e2, wrap_mid pre x hl, L_bind, L_const, toOpS_L x (hr x List.mem_cons_self), Option.bind_some, set_mid (pre.map (List.map toOpP)) _ _ _ pre (by simp)]
    have := ih (pre ++ [x]) (by simpa using hb) (fun y hy => hr y (List.mem_cons_of_mem _ hy))
    simpa using this
theorem toOpSS_L (l : List (List S165)) (h : l.length ≤ 1048576) (hr : ∀ x ∈ l, x.length ≤ 1048576) : L (fun k => laws_toOpSS.f k l) = some (l.map (List.map toOpP)) := by
  simp only [laws_toOpSS.f, le_nat, if_true, Int.toNat_natCast, if_pos (show l.length ≤ 11728124029610 by omega)]
  exact toOpSS_l l [] (by simp; omega) hr
theorem toJobShop_L (m : Int) (l : List (List S165)) (h : l.length ≤ 1048576) (hr : ∀ x ∈ l, x.length ≤ 1048576) : L (fun k => laws_toJobShop.f k m l) = some (m, l.map (List.map toOpP)) := by
  simp only [laws_toJobShop.f, L_bind, toOpSS_L l h hr, Option.bind_some, L_const]
theorem szOpS_e (l : List S165) (v : Int) (h : l.length ≤ 9223372036854775807) (h0 : 0 ≤ v) (h1 : v ≤ 1048576) : laws_szOpS.f l v = some (if (l.length : Int) ≤ v then v - (l.length : Int) else -1) := by
  unfold laws_szOpS.f
  rw [wrap_id (show -9223372036854775808 ≤ v - (l.length : Int) by omega) (by omega)]
  by_cases h2 : (l.length : Int) ≤ v
  · rw [if_neg (by omega), if_pos h2]
  · rw [if_pos (by omega), if_neg h2]
theorem szOpSS_l (r : List (List S165)) : ∀ (pre : List (List S165)) (v : Int), (pre ++ r).length < 4611686018427387904 → 0 ≤ v → v ≤ 1048576 → (∀ x ∈ r, x.length ≤ 9223372036854775807) →
    ∃ t, L (fun k => laws_szOpSS.l0 k (pre ++ r) v (pre.length : Int)) = some t ∧ (t < 0 ∨ (0 ≤ t ∧ t ≤ v ∧ ∀ x ∈ r, x.length ≤ 1048576)) := by
  induction r with
  | nil =>
    intro pre v hb h0 h1 hr
    rw [L_shift]
    simp only [laws_szOpSS.l0, not_lt_end, if_false, L_const]
    exact ⟨v, rfl, .inr ⟨h0, Int.le_refl _, by simp⟩⟩
  | cons x r ih =>
    intro pre v hb h0 h1 hr
    rw [L_shift]
    have hl : pre.length < 4611686018427387904 := by simp at hb; omega
    have e : rd_L9 (pre ++ x :: r) (pre.length : Int) = x := getD_mid pre x r _
    simp only [laws_szOpSS.l0, lt_mid, le_nat, if_true, e, wrap_mid pre x hl, szOpS_e x v (hr x List.mem_cons_self) h0 h1, Option.bind_some, L_ite, L_const]
    by_cases h2 : (x.length : Int) ≤ v
    · rw [if_pos h2, if_neg (by omega), app_cons pre x r]
      obtain ⟨t, ht, hd⟩ := ih (pre ++ [x]) (v - (x.length : Int)) (by simpa using hb) (by omega) (by omega) (fun y hy => hr y (List.mem_cons_of_mem _ hy))
      refine ⟨t, ht, hd.imp id (fun hd => ⟨hd.1, by omega, ?_⟩)⟩
      intro y hy
      rcases List.mem_cons.1 hy with rfl | hy
      · omega
      · exact hd.2.2 y hy
    · rw [if_neg h2, if_pos (by omega)]
      exact ⟨-1, rfl, .inl (by omega)⟩
theorem szJobShop_L (m : Int) (l : List (List S165)) (v : Int) (h0 : 0 ≤ v) (h1 : v ≤ 1048576) (hl : l.length ≤ 9223372036854775807) (hr : ∀ x ∈ l, x.length ≤ 9223372036854775807) :
    ∃ t, L (fun k => laws_szJobShop.f k m l v) = some t ∧ (t < 0 ∨ (0 ≤ t ∧ t ≤ v ∧ l.length ≤ 1048576 ∧ ∀ x ∈ l, x.length ≤ 1048576)) := by
  have hs : ∃ t, L (fun k => laws_szOpSS.f k l v) = some t ∧ (t < 0 ∨ (0 ≤ t ∧ t ≤ v ∧ l.length ≤ 1048576 ∧ ∀ x ∈ l, x.length ≤ 1048576)) := by
    simp only [laws_szOpSS.f]
    rw [wrap_id (show -9223372036854775808 ≤ v - (l.length : Int) by omega) (by omega)]
    by_cases h : v - (l.length : Int) < 0
    · simp only [if_pos h, L_const]
      exact ⟨-1, rfl, .inl (by omega)⟩
    · simp only [if_neg h]
      obtain ⟨t, ht, hd⟩ := szOpSS_l l [] (v - (l.length : Int)) (by simp; omega) (by omega) (by omega) hr
      exact ⟨t, ht, hd.imp id (fun hd => ⟨hd.1, by omega, by omega, hd.2.2⟩)⟩
  obtain ⟨t, ht, hd⟩ := hs
  simp only [laws_szJobShop.f, L_bind, ht, Option.bind_some, L_ite, L_const]
  rcases hd with hd | hd
  · rw [if_pos hd]
    exact ⟨-1, rfl, .inl (by omega)⟩
  · rw [if_neg (by omega)]
    exact ⟨t, rfl, .inr hd⟩
theorem eqOpS_l (r : List S133) : ∀ pre : List S133, (pre ++ r).length < 4611686018427387904 → L (fun k => laws_eqOpS.l0 k (pre ++ r) (pre ++ r) (pre.length : Int)) = some true := by
  induction r with
  | nil =>
    intro pre hb
    rw [L_shift]
    simp only [laws_eqOpS.l0, not_lt_end, if_false, L_const]
  | cons x r ih =>
    intro pre hb
    rw [L_shift]
    have hl : pre.length < 4611686018427387904 := by simp at hb; omega
    simp only [laws_eqOpS.l0, laws_eqOp.f, lt_mid, le_nat, if_true, wrap_mid pre x hl, Option.bind_some]
    rw [app_cons pre x r]
    exact ih (pre ++ [x]) (by simpa using hb)
theorem eqOpS_L (l : List S133) (h : l.length ≤ 1048576) : L (fun k => laws_eqOpS.f k l l) = some true := by
  simp only [laws_eqOpS.f, if_true]
  exact eqOpS_l l [] (by simp; omega)
theorem eqOpSS_l (r : List (List S133)) : ∀ pre : List (List S133), (pre ++ r).length < 4611686018427387904 → (∀ x ∈ r, x.length ≤ 1048576) → L (fun k => laws_eqOpSS.l0 k (pre ++ r) (pre ++ r) (pre.length : Int)) = some true := by
  induction r with
  | nil =>
    intro pre hb hr
    rw [L_shift]
    simp only [laws_eqOpSS.l0, not_lt_end, if_false, L_const]
  | cons x r ih =>
    intro pre hb hr
    rw [L_shift]
    have hl : pre.length < 4611686018427387904 := by simp at hb; omega
    have e : rd_L11 (pre ++ x :: r) (pre.length : Int) = x := getD_mid pre x r _
    simp only [laws_eqOpSS.l0, lt_mid, le_nat, if_true, e, wrap_mid pre x hl, L_bind, L_const, eqOpS_L x (hr x List.mem_cons_self), Option.bind_some]
    rw [app_cons pre x r]
    exact ih (pre ++ [x]) (by simpa using hb) (fun y hy => hr y (List.mem_cons_of_mem _ hy))
theorem eqJobShop_L (m : Int) (l : List (List S133)) (h : l.length ≤ 1048576) (hr : ∀ x ∈ l, x.length ≤ 1048576) : L (fun k => laws_eqJobShop.f k m l m l) = some true := by
  have hs : L (fun k => laws_eqOpSS.f k l l) = some true := by
    simp only [laws_eqOpSS.f, if_true]
    exact eqOpSS_l l [] (by simp; omega) hr
  simp only [laws_eqJobShop.f, if_true, L_bind, hs, Option.bind_some, L_const]
def routeB (m : Int) : List Int → List S133 → Bool
  | _, [] => true
  | used, x :: r => inB x.f0 0 (m - 1) && (inB x.f1 1 20 && (!decide (x.f0 ∈ used) && routeB m (used ++ [x.f0]) r))
def cntN : List (List S133) → Nat
  | [] => 0
  | r :: R => r.length + cntN R
/-- A job shop. -/
def shop9B (m : Int) (R : List (List S133)) : Bool := inB m 1 4 && (decide (R.length ≤ 4) && (R.all (routeB m []) && decide (cntN R ≤ 12)))
structure OpOk (m : Int) (x : S133) : Prop where
  m0 : 0 ≤ x.f0
  m1 : x.f0 < m
  t0 : 1 ≤ x.f1
  t1 : x.f1 ≤ 20
structure Shop9 (m : Int) (R : List (List S133)) : Prop where
  m0 : 1 ≤ m
  m1 : m ≤ 4
  len : R.length ≤ 4
  cnt : cntN R ≤ 12
  op : ∀ r ∈ R, ∀ x ∈ r, OpOk m x
  nodup : ∀ r ∈ R, (r.map (·.f0)).Nodup
theorem routeB_iff (m : Int) : ∀ (r : List S133) (used : List Int), routeB m used r = true → (∀ x ∈ r, OpOk m x) ∧ (r.map (·.f0)).Nodup ∧ ∀ x ∈ r, x.f0 ∉ used
  | [], used, _ => ⟨by simp, by simp, by simp⟩
  | x :: r, used, h => by
    rw [routeB, Bool.and_eq_true, Bool.and_eq_true, Bool.and_eq_true, inB_iff, inB_iff] at h
    obtain ⟨h1, h2, h3, h4⟩ := h
    obtain ⟨g1, g2, g3⟩ := routeB_iff m r _ h4
    simp only [Bool.not_eq_true', decide_eq_false_iff_not] at h3
    refine ⟨fun y hy => ?_, ?_, fun y hy => ?_⟩
    · rcases List.mem_cons.1 hy with rfl | hy
      · exact ⟨h1.1, by omega, h2.1, h2.2⟩
      · exact g1 y hy
    · rw [List.map_cons, List.nodup_cons]
      refine ⟨fun hx => ?_, g2⟩
      obtain ⟨y, hy, he⟩ := List.mem_map.1 hx
      exact g3 y hy (by rw [he]; simp)
    · rcases List.mem_cons.1 hy with rfl | hy
      · exact h3
      · exact fun hc => g3 y hy (by simp [hc])
theorem shop9B_iff {m : Int} {R : List (List S133)} (h : shop9B m R = true) : Shop9 m R := by
  simp only [shop9B, Bool.and_eq_true, inB_iff, decide_eq_true_eq, List.all_eq_true] at h
  obtain ⟨h1, h2, h3, h4⟩ := h
  exact ⟨h1.1, h1.2, h2, h4, fun r hr => (routeB_iff m r [] (h3 r hr)).1, fun r hr => (routeB_iff m r [] (h3 r hr)).2.1⟩
theorem l9Route_l (m : Int) (hm : -1000 ≤ m ∧ m ≤ 1000) (r : List S133) : ∀ (pre : List S133) (used : List Int), (pre ++ r).length < 2000000 → used.length + r.length < 4000000 → L (fun k => spec_l9Route.l0 k m (pre ++ r) used (pre.length : Int)) = some (routeB m used r) := by
  induction r with
  | nil =>
    intro pre used hb hu
    rw [L_shift]
    simp only [spec_l9Route.l0, not_lt_end, if_false, L_const]
    rfl
  | cons x r ih =>
    intro pre used hb hu
    rw [L_shift]
    have hl : pre.length < 4611686018427387904 := by simp at hb; omega
    have e : rd_T133 (pre ++ x :: r) (pre.length : Int) = x := getD_mid pre x r _
    simp only [List.length_cons] at hu
    simp only [spec_l9Route.l0, lt_mid, le_nat, if_true, e, wrap_mid pre x hl, wrap_id (show -9223372036854775808 ≤ m - 1 by omega) (show m - 1 ≤ 9223372036854775807 by omega), l1In_e, Option.bind_some, L_ite, L_const, L_bind, l1Has_L used x.f0 (by omega), if_pos (show used.length < 17592186044416 by omega)]
    rw [app_cons pre x r, ih (pre ++ [x]) (used ++ [x.f0]) (by simpa using hb) (by simp; omega), routeB, ite_not_and, ite_and, ite_and]
theorem l9Count_l (m : Int) (R : List (List S133)) (hR : R.length ≤ 4) : ∀ (r pre : List (List S133)) (v : Int), pre ++ r = R → (∀ x ∈ r, x.length ≤ 1048576) → 0 ≤ v → v ≤ 2000000 * (pre.length : Int) →
    L (fun k => spec_l9Count.l0 k v (pre.length : Int) m R) = some (v + (cntN r : Int))
  | [], pre, v, hp, hr, h0, h1 => by
    rw [L_shift]
    simp only [List.append_nil] at hp
    subst hp
    simp only [spec_l9Count.l0, if_neg (show ¬ ((pre.length : Int) < (pre.length : Int)) by omega), L_const, cntN]
    simp
  | x :: r, pre, v, hp, hr, h0, h1 => by
    rw [L_shift]
    have hl : R.length = pre.length + (r.length + 1) := by rw [← hp]; simp
    have e : rd_L11 R (pre.length : Int) = x := by rw [← hp]; exact getD_mid pre x r _
    have hx := hr x List.mem_cons_self
    simp only [spec_l9Count.l0, if_pos (show (pre.length : Int) < (R.length : Int) by omega), le_nat, if_true, e, wrap_mid pre x (by omega), wrap_id (show -9223372036854775808 ≤ v + (x.length : Int) by omega) (by omega)]
    rw [l9Count_l m R hR r (pre ++ [x]) (v + (x.length : Int)) (by rw [← hp]; simp) (fun y hy => hr y (List.mem_cons_of_mem _ hy)) (by omega) (by simp; omega), cntN]
    congr 1
    omega
theorem l9Good_l (m : Int) (hm : -1000 ≤ m ∧ m ≤ 1000) (R : List (List S133)) (hR : R.length ≤ 4) (hRr : ∀ x ∈ R, x.length ≤ 1048576) : ∀ (r pre : List (List S133)), pre ++ r = R →
    L (fun k => spec_l9Good.l0 k (pre.length : Int) m R) = some (r.all (routeB m []) && decide (cntN R ≤ 12))
  | [], pre, hp => by
    rw [L_shift]
    simp only [List.append_nil] at hp
    subst hp
    have hc := l9Count_l m pre hR pre [] 0 rfl hRr (by omega) (by simp)
    have hc2 : L (fun k => spec_l9Count.f k m pre) = some ((cntN pre : Nat) : Int) := by
      have : (0 : Int) + ((cntN pre : Nat) : Int) = ((cntN pre : Nat) : Int) := by omega
      rw [this] at hc
      exact hc
    simp only [spec_l9Good.l0, if_neg (show ¬ ((pre.length : Int) < (pre.length : Int)) by omega), L_bind, hc2, Option.bind_some, L_const, List.all_nil, Bool.true_and]
    congr 1
    exact decide_eq_decide.2 (by omega)
  | x :: r, pre, hp => by
    rw [L_shift]
    have hl : R.length = pre.length + (r.length + 1) := by rw [← hp]; simp
    have e : rd_L11 R (pre.length : Int) = x := by rw [← hp]; exact getD_mid pre x r _
    have hx := hRr x (by rw [← hp]; simp)
    have hro : L (fun k => spec_l9Route.f k m x) = some (routeB m [] x) := l9Route_l m hm x [] [] (by simp; omega) (by simp; omega)
    simp only [spec_l9Good.l0, if_pos (show (pre.length : Int) < (R.length : Int) by omega), le_nat, if_true, e, wrap_mid pre x (by omega), L_bind, hro, Option.bind_some, L_ite, L_const]
    rw [l9Good_l m hm R hR hRr r (pre ++ [x]) (by rw [← hp]; simp), ite_and, List.all_cons, Bool.and_assoc]
theorem l9Good_L (m : Int) (R : List (List S133)) (hR : R.length ≤ 1048576) (hRr : ∀ x ∈ R, x.length ≤ 1048576) : L (fun k => spec_l9Good.f k m R) = some (shop9B m R) := by
  have hj : ∀ b, L (fun k => spec_l9Good.j0 k b m R) = if b = true then some false else L (fun k => spec_l9Good.l0 k 0 m R) := fun b => by
    rw [L_shift]
    simp only [spec_l9Good.j0, L_ite, L_const]
  simp only [spec_l9Good.f, l1In_e, Option.bind_some, L_ite, hj, shop9B]
  by_cases hm : inB m 1 4 = true
  · rw [if_pos hm, hm, Bool.true_and]
    have hm2 := inB_iff.1 hm
    by_cases h4 : R.length ≤ 4
    · rw [decide_eq_false (show ¬ (R.length : Int) > 4 by omega), if_neg (by decide), decide_eq_true h4, Bool.true_and]
      exact l9Good_l m (by omega) R h4 hRr R [] rfl
    · rw [decide_eq_true (show (R.length : Int) > 4 by omega), if_pos rfl, decide_eq_false h4, Bool.false_and]
  · rw [if_neg hm]
    simp only [Bool.not_eq_true] at hm
    rw [hm, Bool.false_and]
    simp
theorem shop9_in (m : Int) (hm : -1000 ≤ m ∧ m ≤ 1000) (R : List (List S133)) (c n i : Int) (x : List S133) (hx : x.length ≤ 1048576) (Ms : List (List S133)) : ∀ (r pre : List S133) (used : List Int), pre ++ r = x → used.length + r.length < 4000000 →
    L (fun k => impl_IsJobShop.l1 k c x used R n i x (x.length : Int) (pre.length : Int) m Ms) = if routeB m used r = true then L (fun k => impl_IsJobShop.l0 k (wrap64 (c + (x.length : Int))) R n (wrap64 (i + 1)) m Ms) else some false
  | [], pre, used, hp, hu => by
    rw [L_shift]
    simp only [List.append_nil] at hp
    subst hp
    simp only [impl_IsJobShop.l1, if_neg (show ¬ ((pre.length : Int) < (pre.length : Int)) by omega), routeB, if_true]
  | y :: r, pre, used, hp, hu => by
    rw [L_shift]
    have hl : x.length = pre.length + (r.length + 1) := by rw [← hp]; simp
    have e : rd_T133 x (pre.length : Int) = y := by rw [← hp]; exact getD_mid pre y r _
    simp only [List.length_cons] at hu
    have ih := shop9_in m hm R c n i x hx Ms r (pre ++ [y]) (used ++ [y.f0]) (by rw [← hp]; simp) (by simp; omega)
    simp only [impl_IsJobShop.l1, if_pos (show (pre.length : Int) < (x.length : Int) by omega), le_nat, if_true, e, isNumber_e y.f0 m (by omega) (by omega), within_e, Option.bind_some, L_ite, L_const, L_bind, has_L used y.f0 (by omega), if_pos (show used.length < 17592186044416 by omega), wrap_mid pre y (show pre.length < 4611686018427387904 by omega), ih, routeB]
    by_cases h1 : inB y.f0 0 (m - 1) = true
    · by_cases h2 : inB y.f1 1 20 = true
      · by_cases h3 : y.f0 ∈ used <;> simp [h1, h2, h3]
      · simp [h1, h2]
    · simp [h1]
theorem IsJobShop_l (m : Int) (hm : -1000 ≤ m ∧ m ≤ 1000) (R : List (List S133)) (hR : R.length ≤ 4) (hRr : ∀ x ∈ R, x.length ≤ 1048576) (Ms : List (List S133)) : ∀ (r pre : List (List S133)) (c : Int), pre ++ r = R → 0 ≤ c → c ≤ 2000000 * (pre.length : Int) →
    L (fun k => impl_IsJobShop.l0 k c R (R.length : Int) (pre.length : Int) m Ms) = some (r.all (routeB m []) && decide (c + (cntN r : Int) ≤ 12))
  | [], pre, c, hp, h0, h1 => by
    rw [L_shift]
    simp only [List.append_nil] at hp
    subst hp
    simp only [impl_IsJobShop.l0, if_neg (show ¬ ((pre.length : Int) < (pre.length : Int)) by omega), L_const, List.all_nil, Bool.true_and, cntN]
    congr 1
    exact decide_eq_decide.2 (by omega)
  | x :: r, pre, c, hp, h0, h1 => by
    rw [L_shift]
    have hl : R.length = pre.length + (r.length + 1) := by rw [← hp]; simp
    have e : rd_L11 R (pre.length : Int) = x := by rw [← hp]; exact getD_mid pre x r _
    have hx := hRr x (by rw [← hp]; simp)
    have hin := shop9_in m hm R c (R.length : Int) (pre.length : Int) x hx Ms x [] [] rfl (by simp; omega)
    simp only [List.length_nil, Int.natCast_zero] at hin
    simp only [impl_IsJobShop.l0, if_pos (show (pre.length : Int) < (R.length : Int) by omega), le_nat, if_true, e, hin, wrap_mid pre x (show pre.length < 4611686018427387904 by omega), wrap_id (show -9223372036854775808 ≤ c + (x.length : Int) by omega) (show c + (x.length : Int) ≤ 9223372036854775807 by omega)]
    rw [IsJobShop_l m hm R hR hRr Ms r (pre ++ [x]) (c + (x.length : Int)) (by rw [← hp]; simp) (by omega) (by simp; omega), ite_and, List.all_cons, Bool.and_assoc]
    congr 3
    exact decide_eq_decide.2 (by rw [cntN]; omega)
theorem IsJobShop_L (m : Int) (R : List (List S133)) (hR : R.length ≤ 1048576) (hRr : ∀ x ∈ R, x.length ≤ 1048576) : L (fun k => impl_IsJobShop.f k m R) = some (shop9B m R) := by
  have hj : ∀ b, L (fun k => impl_IsJobShop.j0 k b m R) = if b = true then some false else L (fun k => impl_IsJobShop.l0 k 0 R (R.length : Int) 0 m R) := fun b => by
    rw [L_shift]
    simp only [impl_IsJobShop.j0, L_ite, L_const]
  simp only [impl_IsJobShop.f, within_e, Option.bind_some, L_ite, hj, shop9B]
  by_cases hm : inB m 1 4 = true
  · rw [if_pos hm, hm, Bool.true_and]
    have hm2 := inB_iff.1 hm
    by_cases h4 : R.length ≤ 4
    · rw [decide_eq_false (show ¬ (R.length : Int) > 4 by omega), if_neg (by decide), decide_eq_true h4, Bool.true_and]
      have := IsJobShop_l m (by omega) R h4 hRr R R [] 0 rfl (by omega) (by simp)
      simp only [List.length_nil, Int.natCast_zero] at this
      rw [this]
      congr 2
      exact decide_eq_decide.2 (by omega)
    · rw [decide_eq_true (show (R.length : Int) > 4 by omega), if_pos rfl, decide_eq_false h4, Bool.false_and]
  · rw [if_neg hm]
    simp only [Bool.not_eq_true] at hm
    rw [hm, Bool.false_and]
    simp
/-- The operations of a route with the route's number and their places. -/
def flatI (i : Nat) : Nat → List S133 → List (S133 × Nat × Nat)
  | _, [] => []
  | k, x :: r => (x, i, k) :: flatI i (k + 1) r
def flatR : Nat → List (List S133) → List (S133 × Nat × Nat)
  | _, [] => []
  | i, r :: R => flatI i 0 r ++ flatR (i + 1) R
def fOps (F : List (S133 × Nat × Nat)) : List S133 := F.map (·.1)
def fRoute (F : List (S133 × Nat × Nat)) : List Int := F.map (fun x => (x.2.1 : Int))
def fIdx (F : List (S133 × Nat × Nat)) : List Int := F.map (fun x => (x.2.2 : Int))
theorem flatI_len (i : Nat) : ∀ (r : List S133) (k : Nat), (flatI i k r).length = r.length
  | [], k => rfl
  | x :: r, k => by rw [flatI, List.length_cons, flatI_len i r, List.length_cons]
theorem flatI_ops (i : Nat) : ∀ (r : List S133) (k : Nat), fOps (flatI i k r) = r
  | [], k => rfl
  | x :: r, k => by
    have := flatI_ops i r (k + 1)
    simp only [fOps] at this
    simp only [flatI, fOps, List.map_cons, this]
theorem flatR_len : ∀ (R : List (List S133)) (i : Nat), (flatR i R).length = cntN R
  | [], i => rfl
  | r :: R, i => by rw [flatR, List.length_append, flatI_len, flatR_len R, cntN]
theorem flatOf_in (i : Nat) (R : List (List S133)) (n : Int) (x : List S133) (hx : x.length ≤ 1048576) : ∀ (r pre : List S133) (F : List (S133 × Nat × Nat)), pre ++ r = x → F.length + r.length < 4000000 →
    L (fun k => impl_flatOf.l1 k (i : Int) R n (i : Int) x (x.length : Int) (pre.length : Int) (fOps F) (fRoute F) (fIdx F)) = L (fun k => impl_flatOf.l0 k R n (wrap64 ((i : Int) + 1)) (fOps (F ++ flatI i pre.length r)) (fRoute (F ++ flatI i pre.length r)) (fIdx (F ++ flatI i pre.length r)))
  | [], pre, F, hp, hF => by
    rw [L_shift]
    simp only [List.append_nil] at hp
    subst hp
    simp only [impl_flatOf.l1, if_neg (show ¬ ((pre.length : Int) < (pre.length : Int)) by omega), flatI, List.append_nil]
  | y :: r, pre, F, hp, hF => by
    rw [L_shift]
    have hl : x.length = pre.length + (r.length + 1) := by rw [← hp]; simp
    have e : rd_T133 x (pre.length : Int) = y := by rw [← hp]; exact getD_mid pre y r _
    simp only [List.length_cons] at hF
    have ih := flatOf_in i R n x hx r (pre ++ [y]) (F ++ [(y, i, pre.length)]) (by rw [← hp]; simp) (by simp; omega)
    have e1 : fOps (F ++ [(y, i, pre.length)]) = fOps F ++ [y] := by simp [fOps]
    have e2 : fRoute (F ++ [(y, i, pre.length)]) = fRoute F ++ [(i : Int)] := by simp [fRoute]
    have e3 : fIdx (F ++ [(y, i, pre.length)]) = fIdx F ++ [(pre.length : Int)] := by simp [fIdx]
    have l1 : (fOps F).length = F.length := by simp [fOps]
    have l2 : (fRoute F).length = F.length := by simp [fRoute]
    have l3 : (fIdx F).length = F.length := by simp [fIdx]
    rw [e1, e2, e3] at ih
    simp only [impl_flatOf.l1, if_pos (show (pre.length : Int) < (x.length : Int) by omega), le_nat, if_true, e, l1, l2, l3, if_pos (show F.length < 8796093022208 by omega), if_pos (show F.length < 17592186044416 by omega), wrap_mid pre y (show pre.length < 4611686018427387904 by omega)]
    refine ih.trans ?_
    simp only [flatI, List.length_append, List.length_singleton, List.append_assoc, List.singleton_append]
theorem flatOf_l (R : List (List S133)) (hR : R.length ≤ 4) (hRr : ∀ x ∈ R, x.length ≤ 1048576) : ∀ (r pre : List (List S133)) (F : List (S133 × Nat × Nat)), pre ++ r = R → F.length + cntN r ≤ 1000 →
    L (fun k => impl_flatOf.l0 k R (R.length : Int) (pre.length : Int) (fOps F) (fRoute F) (fIdx F)) = some (fOps (F ++ flatR pre.length r), fRoute (F ++ flatR pre.length r), fIdx (F ++ flatR pre.length r))
  | [], pre, F, hp, hF => by
    rw [L_shift]
    simp only [List.append_nil] at hp
    subst hp
    simp only [impl_flatOf.l0, if_neg (show ¬ ((pre.length : Int) < (pre.length : Int)) by omega), L_const, flatR, List.append_nil]
  | x :: r, pre, F, hp, hF => by
    rw [L_shift]
    have hl : R.length = pre.length + (r.length + 1) := by rw [← hp]; simp
    have e : rd_L11 R (pre.length : Int) = x := by rw [← hp]; exact getD_mid pre x r _
    have hx := hRr x (by rw [← hp]; simp)
    rw [cntN] at hF
    have hin := flatOf_in pre.length R (R.length : Int) x hx x [] F rfl (by omega)
    simp only [List.length_nil, Int.natCast_zero] at hin
    have ih := flatOf_l R hR hRr r (pre ++ [x]) (F ++ flatI pre.length 0 x) (by rw [← hp]; simp) (by rw [List.length_append, flatI_len]; omega)
    simp only [impl_flatOf.l0, if_pos (show (pre.length : Int) < (R.length : Int) by omega), le_nat, if_true, e, hin, wrap_mid pre x (show pre.length < 4611686018427387904 by omega), ih]
    simp only [flatR, List.length_append, List.length_singleton, List.append_assoc]
theorem flatOf_L (m : Int) (R : List (List S133)) (h : Shop9 m R) : L (fun k => impl_flatOf.f k m R) = some (fOps (flatR 0 R), fRoute (flatR 0 R), fIdx (flatR 0 R)) := by
  have hc := h.cnt
  have hrl : ∀ (R : List (List S133)) (x : List S133), x ∈ R → x.length ≤ cntN R := by
    intro R
    induction R with
    | nil => intro x hx; cases hx
    | cons y R ih =>
      intro x hx
      rw [cntN]
      rcases List.mem_cons.1 hx with rfl | hx
      · omega
      · have := ih x hx
        omega
  have := flatOf_l R h.len (fun x hx => by have := hrl R x hx; omega) R [] [] rfl (by simp; omega)
  simpa [impl_flatOf.f, fOps, fRoute, fIdx] using this
/-- The places of the operations of a machine. -/
def onF (m : Int) : Nat → List S133 → List Int
  | _, [] => []
  | i, x :: r => if x.f0 = m then (i : Int) :: onF m (i + 1) r else onF m (i + 1) r
theorem onF_len (m : Int) : ∀ (r : List S133) (i : Nat), (onF m i r).length ≤ r.length
  | [], i => Nat.le_refl _
  | x :: r, i => by
    have := onF_len m r (i + 1)
    rw [onF]
    split
    · simp; omega
    · simp; omega
theorem flatOn_l (m : Int) (O : List S133) (hO : O.length ≤ 1000) : ∀ (r pre : List S133) (acc : List Int), pre ++ r = O → acc.length + r.length ≤ 2000 →
    L (fun k => impl_flat_on.l0 k m acc O (O.length : Int) (pre.length : Int)) = some (acc ++ onF m pre.length r)
  | [], pre, acc, hp, ha => by
    rw [L_shift]
    simp only [List.append_nil] at hp
    subst hp
    simp only [impl_flat_on.l0, if_neg (show ¬ ((pre.length : Int) < (pre.length : Int)) by omega), L_const, onF, List.append_nil]
  | x :: r, pre, acc, hp, ha => by
    rw [L_shift]
    have hl : O.length = pre.length + (r.length + 1) := by rw [← hp]; simp
    have e : rd_T133 O (pre.length : Int) = x := by rw [← hp]; exact getD_mid pre x r _
    simp only [List.length_cons] at ha
    have e7 : (pre ++ [x]).length = pre.length + 1 := by simp
    have i1 := flatOn_l m O hO r (pre ++ [x]) (acc ++ [(pre.length : Int)]) (by rw [← hp]; simp) (by simp; omega)
    have i2 := flatOn_l m O hO r (pre ++ [x]) acc (by rw [← hp]; simp) (by omega)
    rw [e7] at i1 i2
    simp only [impl_flat_on.l0, if_pos (show (pre.length : Int) < (O.length : Int) by omega), le_nat, if_true, e, if_pos (show acc.length < 17592186044416 by omega), wrap_mid pre x (show pre.length < 4611686018427387904 by omega), L_ite, i1, i2, onF, e7]
    split
    · simp
    · rfl
theorem flatOn_L (O : List S133) (a b : List Int) (m : Int) (hO : O.length ≤ 1000) : L (fun k => impl_flat_on.f k O a b m) = some (onF m 0 O) := by
  have := flatOn_l m O hO O [] [] rfl (by simp; omega)
  simpa [impl_flat_on.f] using this
theorem fOps_app (a b : List (S133 × Nat × Nat)) : fOps (a ++ b) = fOps a ++ fOps b := by simp [fOps]
theorem l9All_l (m : Int) (R : List (List S133)) (hR : R.length ≤ 4) : ∀ (r pre : List (List S133)) (acc : List S133), pre ++ r = R → acc.length + cntN r ≤ 1000 →
    L (fun k => spec_l9All.l0 k acc (pre.length : Int) m R) = some (acc ++ fOps (flatR pre.length r))
  | [], pre, acc, hp, ha => by
    rw [L_shift]
    simp only [List.append_nil] at hp
    subst hp
    simp only [spec_l9All.l0, if_neg (show ¬ ((pre.length : Int) < (pre.length : Int)) by omega), L_const, flatR]
    simp [fOps]
  | x :: r, pre, acc, hp, ha => by
    rw [L_shift]
    have hl : R.length = pre.length + (r.length + 1) := by rw [← hp]; simp
    have e : rd_L11 R (pre.length : Int) = x := by rw [← hp]; exact getD_mid pre x r _
    rw [cntN] at ha
    have ih := l9All_l m R hR r (pre ++ [x]) (acc ++ x) (by rw [← hp]; simp) (by rw [List.length_append]; omega)
    simp only [spec_l9All.l0, if_pos (show (pre.length : Int) < (R.length : Int) by omega), le_nat, if_true, e, if_pos (show acc.length + x.length < 8796093022208 by omega), wrap_mid pre x (show pre.length < 4611686018427387904 by omega), ih]
    rw [flatR, fOps_app, flatI_ops, List.append_assoc]
    simp
theorem l9All_L (m : Int) (R : List (List S133)) (h : Shop9 m R) : L (fun k => spec_l9All.f k m R) = some (fOps (flatR 0 R)) := by
  have := l9All_l m R h.len R [] [] rfl (by have := h.cnt; simp; omega)
  simpa [spec_l9All.f] using this
theorem l9On_l (m : Int) (O : List S133) (hO : O.length ≤ 1000) : ∀ (r pre : List S133) (acc : List Int), pre ++ r = O → acc.length + r.length ≤ 2000 →
    L (fun k => spec_l9On.l0 k m acc O (pre.length : Int)) = some (acc ++ onF m pre.length r)
  | [], pre, acc, hp, ha => by
    rw [L_shift]
    simp only [List.append_nil] at hp
    subst hp
    simp only [spec_l9On.l0, if_neg (show ¬ ((pre.length : Int) < (pre.length : Int)) by omega), L_const, onF, List.append_nil]
  | x :: r, pre, acc, hp, ha => by
    rw [L_shift]
    have hl : O.length = pre.length + (r.length + 1) := by rw [← hp]; simp
    have e : rd_T133 O (pre.length : Int) = x := by rw [← hp]; exact getD_mid pre x r _
    simp only [List.length_cons] at ha
    have e7 : (pre ++ [x]).length = pre.length + 1 := by simp
    have i1 := l9On_l m O hO r (pre ++ [x]) (acc ++ [(pre.length : Int)]) (by rw [← hp]; simp) (by simp; omega)
    have i2 := l9On_l m O hO r (pre ++ [x]) acc (by rw [← hp]; simp) (by omega)
    rw [e7] at i1 i2
    simp only [spec_l9On.l0, if_pos (show (pre.length : Int) < (O.length : Int) by omega), le_nat, if_true, e, if_pos (show acc.length < 17592186044416 by omega), wrap_mid pre x (show pre.length < 4611686018427387904 by omega), L_ite, i1, i2, onF, e7]
    split
    · simp
    · rfl
theorem l9On_L (m : Int) (R : List (List S133)) (h : Shop9 m R) (a : Int) : L (fun k => spec_l9On.f k m R a) = some (onF a 0 (fOps (flatR 0 R))) := by
  have hl : (fOps (flatR 0 R)).length = cntN R := by rw [fOps, List.length_map, flatR_len]
  have := l9On_l a (fOps (flatR 0 R)) (by have := h.cnt; omega) (fOps (flatR 0 R)) [] [] rfl (by have := h.cnt; simp; omega)
  simp only [spec_l9On.f, L_bind, l9All_L m R h, Option.bind_some]
  simpa using this
theorem markOpS_l (r : List S133) : ∀ (pre : List S133) (v : Int), (pre ++ r).length < 4611686018427387904 → 0 ≤ v → v + 2 * r.length < 9223372036854775807 → ∃ R : List S133, L (fun k => laws_markOpS.l0 k (pre ++ r) v (pre.length : Int)) = some (v + 2 * r.length, pre ++ R) := by
  induction r with
  | nil =>
    intro pre v hb h0 h1
    refine ⟨[], ?_⟩
    rw [L_shift]
    simp only [laws_markOpS.l0, not_lt_end, if_false, L_const]
    simp
  | cons x r ih =>
    intro pre v hb h0 h1
    have hl : pre.length < 4611686018427387904 := by simp at hb; omega
    simp only [List.length_cons] at h1
    have e : ∀ y, rd_T133 (pre ++ y :: r) (pre.length : Int) = y := fun y => getD_mid pre y r _
    have es : ∀ y z, (pre ++ y :: r).set (pre.length : Int).toNat z = pre ++ z :: r := fun y z => set_mid pre y z r pre rfl
    obtain ⟨R, hR⟩ := ih (pre ++ [(⟨v, v + 1⟩ : S133)]) (v + 1 + 1) (by simpa using hb) (by omega) (by omega)
    refine ⟨(⟨v, v + 1⟩ : S133) :: R, ?_⟩
    rw [L_shift]
    simp only [laws_markOpS.l0, lt_mid, le_nat, if_true, Option.bind_some, e, es, wrap_mid pre x hl, wrap_id (show -9223372036854775808 ≤ v + 1 by omega) (show v + 1 ≤ 9223372036854775807 by omega), wrap_id (show -9223372036854775808 ≤ v + 1 + 1 by omega) (show v + 1 + 1 ≤ 9223372036854775807 by omega)]
    simp only [List.append_assoc, List.cons_append, List.nil_append, List.length_append, List.length_cons, List.length_nil] at hR ⊢
    rw [hR]
    simp only [Option.some.injEq, Prod.mk.injEq, and_true]
    omega
theorem markOpS_L (l : List S133) (v : Int) (h : l.length ≤ 1048576) (h0 : 0 ≤ v) (h1 : v ≤ 9000000000000000000) : ∃ R : List S133, L (fun k => laws_markOpS.f k l v) = some (v + 2 * l.length, R) := by
  obtain ⟨R, hR⟩ := markOpS_l l [] v (by simp; omega) h0 (by omega)
  exact ⟨R, by simpa [laws_markOpS.f] using hR⟩
theorem markOpSS_l (r : List (List S133)) : ∀ (pre : List (List S133)) (v : Int), (pre ++ r).length ≤ 1048576 → 0 ≤ v → v + 2097152 * r.length ≤ 9000000000000000000 → (∀ x ∈ r, x.length ≤ 1048576) → ∃ (t : Int) (R : List (List S133)), 0 ≤ t ∧ L (fun k => laws_markOpSS.l0 k (pre ++ r) v (pre.length : Int)) = some (t, R) := by
  induction r with
  | nil =>
    intro pre v hb h0 h1 hr
    refine ⟨v, pre, h0, ?_⟩
    rw [L_shift]
    simp only [laws_markOpSS.l0, not_lt_end, if_false, L_const]
    simp
  | cons x r ih =>
    intro pre v hb h0 h1 hr
    have hl : pre.length < 4611686018427387904 := by simp at hb; omega
    simp only [List.length_cons] at h1
    have hx := hr x List.mem_cons_self
    have e : (pre ++ x :: r).getD (pre.length : Int).toNat ([] : List S133) = x := getD_mid pre x r _
    obtain ⟨X, hX⟩ := markOpS_L x v hx h0 (by omega)
    obtain ⟨t, R, ht, hR⟩ := ih (pre ++ [X]) (v + 2 * x.length) (by simpa using hb) (by omega) (by omega) (fun y hy => hr y (List.mem_cons_of_mem _ hy))
    refine ⟨t, R, ht, ?_⟩
    rw [L_shift]
    simp only [laws_markOpSS.l0, lt_mid, le_nat, if_true, e, L_bind, L_const, hX, Option.bind_some, set_mid pre x _ r pre rfl, wrap_mid pre x hl]
    rw [app_cons pre X r, show (pre ++ [x]).length = (pre ++ [X]).length by simp]
    exact hR
theorem markJobShop_L (l : List (List S133)) (h : l.length ≤ 1048576) (hr : ∀ x ∈ l, x.length ≤ 1048576) : ∃ (t : Int) (R : List (List S133)), 0 ≤ t ∧ L (fun k => laws_markJobShop.f k l 1) = some (t, R) := by
  obtain ⟨t, R, ht, hR⟩ := markOpSS_l l [] 1 (by simpa using h) (by omega) (by omega) hr
  exact ⟨t, R, ht, by simpa [laws_markJobShop.f, laws_markOpSS.f] using hR⟩

theorem OpsOn_both (m : Int) (R : List (List S133)) (a : Int) (hR : R.length ≤ 1048576) (hRr : ∀ x ∈ R, x.length ≤ 1048576) :
    ∃ (p : List Int) (ok : Bool), L (fun k => spec_OpsOn.f k m R a) = some (p, ok) ∧ L (fun k => impl_OpsOn.f k m R a) = some (p, ok) ∧ p.length ≤ 1048576 := by
  simp only [spec_OpsOn.f, impl_OpsOn.f, L_bind, L_ite, L_const, l9Good_L m R hR hRr, IsJobShop_L m R hR hRr, Option.bind_some]
  cases hs : shop9B m R with
  | false =>
    refine ⟨[], false, by simp, ?_, by simp⟩
    simp only [Bool.false_eq_true, if_false]
    rw [L_shift]
    simp only [impl_OpsOn.j0, if_true, L_const]
  | true =>
    have h := shop9B_iff hs
    have m0 := h.m0
    have m1 := h.m1
    simp only [if_true, l1In_e, isNumber_e a m (by omega) (by omega), Option.bind_some, wrap_id (show -9223372036854775808 ≤ m - 1 by omega) (show m - 1 ≤ 9223372036854775807 by omega)]
    have hl := onF_len a (fOps (flatR 0 R)) 0
    have hn : (fOps (flatR 0 R)).length = cntN R := by rw [fOps, List.length_map, flatR_len]
    have hc := h.cnt
    cases hb : inB a 0 (m - 1) with
    | false =>
      refine ⟨[], false, by simp, ?_, by simp⟩
      rw [L_shift]
      simp only [impl_OpsOn.j0, Bool.not_false, if_true, L_const]
    | true =>
      refine ⟨onF a 0 (fOps (flatR 0 R)), true, ?_, ?_, by omega⟩
      · simp only [if_true, l9On_L m R h a, Option.bind_some]
      · rw [L_shift]
        simp only [impl_OpsOn.j0, Bool.not_true, Bool.false_eq_true, if_false, L_bind, flatOf_L m R h, Option.bind_some, flatOn_L (fOps (flatR 0 R)) _ _ a (by omega), L_const]

theorem FnExactOpsOn : laws_FnExactOpsOn.Pure := by
  intro m l a h1 ⟨h2, h3⟩ h4
  have e1 : maxLen = 9223372036854775807 := rfl
  refine rounds_of_L ?_
  unfold laws_FnExactOpsOn.f
  obtain ⟨v, hv, hd⟩ := szJobShop_L m l 1048576 (by omega) (by omega) (by omega) (fun x hx => by have := (h3 x hx).1; omega)
  (rw [L_bind, hv, Option.bind_some]; try dsimp only)
  rcases hd with hd | ⟨hd0, hd1, hl, hr⟩
  · rw [L_ite, if_pos hd, L_const]
  · rw [L_ite, if_neg (by omega)]
    have hl2 : (l.map (List.map toOpP)).length ≤ 1048576 := by simpa using hl
    have hr2 : ∀ x ∈ l.map (List.map toOpP), x.length ≤ 1048576 := by
      intro x hx
      obtain ⟨y, hy, rfl⟩ := List.mem_map.1 hx
      simpa using hr y hy
    obtain ⟨R, ok, hs, hi, hR⟩ := OpsOn_both m (l.map (List.map toOpP)) a hl2 hr2
    obtain ⟨tm, Rm, htm, hm⟩ := markJobShop_L (l.map (List.map toOpP)) hl2 hr2
    (rw [L_bind, (toJobShop_L m l hl hr), Option.bind_some]; try dsimp only)
    (rw [L_bind, hs, Option.bind_some]; try dsimp only)
    (rw [L_bind, (toJobShop_L m l hl hr), Option.bind_some]; try dsimp only)
    (rw [L_bind, hi, Option.bind_some]; try dsimp only)
    (rw [L_bind, (eqIntS_L R hR), Option.bind_some]; try dsimp only)
    rw [L_ite, if_pos rfl]
    rw [L_ite, if_pos rfl]
    (rw [L_bind, (toJobShop_L m l hl hr), Option.bind_some]; try dsimp only)
    (rw [L_bind, (eqJobShop_L m _ hl2 hr2), Option.bind_some]; try dsimp only)
    rw [L_ite, if_pos rfl]
    (rw [L_bind, hm, Option.bind_some]; try dsimp only)
    rw [L_ite, if_neg (by omega)]
    (rw [L_bind, (eqIntS_L R hR), Option.bind_some]; try dsimp only)
    rw [L_ite, if_pos rfl]
    rw [L_ite, if_pos rfl]
    (rw [L_bind, (markIntS_L R 1 hR (by omega) (by omega)), Option.bind_some]; try dsimp only)
    (rw [L_bind, (heldIntS_L R 1 hR (by omega) (by omega)), Option.bind_some]; try dsimp only)
    rw [L_ite, if_neg (by omega)]
    rw [L_ite, if_pos rfl]
    (rw [L_bind, (toJobShop_L m l hl hr), Option.bind_some]; try dsimp only)
    (rw [L_bind, hi, Option.bind_some]; try dsimp only)
    (rw [L_bind, (eqIntS_L R hR), Option.bind_some]; try dsimp only)
    rw [L_ite, if_pos rfl]
    rw [L_ite, if_pos rfl]
    (rw [L_bind, (heldIntS_L R 1 hR (by omega) (by omega)), Option.bind_some]; try dsimp only)
    rw [L_ite, if_neg (by omega)]
    rw [L_ite, if_pos rfl]
    rw [L_const]

end Go.Proofs.Ytgpnophjbibhhaa.Pure
