/- The program's IsShopProof answers what the reference's answers, for all job shops, values and lists of pairs. -/
import Derived.Test.YtdnphdbahhfcgaaXSFnExactIsShopProof
import Derived.Test.YtdnphdbahhfcgaaXLim
namespace Go.Proofs.Ytdnphdbahhfcgaa.Pure
open Go.RowKit Go.Proofs.YtdnphdbahhfcgaaW.PrintWords Go.Proofs.YtdnphdbahhfcgaaW.PrintLast Go.Proofs.YtdnphdbahhfcgaaW.PrintMore Go.Proofs.Ytdnphdbahhfcgaa.X Go.Proofs.Ytdnphdbahhfcgaa.XRow Go.Proofs.Ytdnphdbahhfcgaa.XLim
set_option linter.unusedVariables false
set_option linter.unusedSimpArgs false
instance : ∀ a0 a1, Mono (fun k => impl_IsJobShop.f k a0 a1) := fun a0 a1 => ⟨⟨impl_IsJobShop.mono a0 a1⟩⟩
instance : ∀ a0 a1 a2 a3, Mono (fun k => impl_IsShopProof.f k a0 a1 a2 a3) := fun a0 a1 a2 a3 => ⟨⟨impl_IsShopProof.mono a0 a1 a2 a3⟩⟩
instance : ∀ a0 a1, Mono (fun k => impl_flatOf.f k a0 a1) := fun a0 a1 => ⟨⟨impl_flatOf.mono a0 a1⟩⟩
instance : ∀ a0 a1 a2 a3, Mono (fun k => impl_flat_areArcs.f k a0 a1 a2 a3) := fun a0 a1 a2 a3 => ⟨⟨impl_flat_areArcs.mono a0 a1 a2 a3⟩⟩
instance : ∀ a0 a1 a2 a3, Mono (fun k => impl_flat_boundOf.f k a0 a1 a2 a3) := fun a0 a1 a2 a3 => ⟨⟨impl_flat_boundOf.mono a0 a1 a2 a3⟩⟩
instance : ∀ a0 a1 a2 a3, Mono (fun k => impl_flat_headsWith.f k a0 a1 a2 a3) := fun a0 a1 a2 a3 => ⟨⟨impl_flat_headsWith.mono a0 a1 a2 a3⟩⟩
instance : ∀ a0 a1 a2 a3 a4, Mono (fun k => impl_flat_mayEnd.f k a0 a1 a2 a3 a4) := fun a0 a1 a2 a3 a4 => ⟨⟨impl_flat_mayEnd.mono a0 a1 a2 a3 a4⟩⟩
instance : ∀ a0 a1 a2 a3 a4 a5, Mono (fun k => impl_flat_proved.f k a0 a1 a2 a3 a4 a5) := fun a0 a1 a2 a3 a4 a5 => ⟨⟨impl_flat_proved.mono a0 a1 a2 a3 a4 a5⟩⟩
instance : ∀ a0 a1, Mono (fun k => impl_has.f k a0 a1) := fun a0 a1 => ⟨⟨impl_has.mono a0 a1⟩⟩
instance : ∀ a0 a1 a2 a3, Mono (fun k => laws_FnExactIsShopProof.f k a0 a1 a2 a3) := fun a0 a1 a2 a3 => ⟨⟨laws_FnExactIsShopProof.mono a0 a1 a2 a3⟩⟩
instance : ∀ a0 a1, Mono (fun k => laws_eqIntA2S.f k a0 a1) := fun a0 a1 => ⟨⟨laws_eqIntA2S.mono a0 a1⟩⟩
instance : ∀ a0 a1 a2 a3, Mono (fun k => laws_eqJobShop.f k a0 a1 a2 a3) := fun a0 a1 a2 a3 => ⟨⟨laws_eqJobShop.mono a0 a1 a2 a3⟩⟩
instance : ∀ a0 a1, Mono (fun k => laws_eqOpS.f k a0 a1) := fun a0 a1 => ⟨⟨laws_eqOpS.mono a0 a1⟩⟩
instance : ∀ a0 a1, Mono (fun k => laws_eqOpSS.f k a0 a1) := fun a0 a1 => ⟨⟨laws_eqOpSS.mono a0 a1⟩⟩
instance : ∀ a0 a1 a2, Mono (fun k => laws_szJobShop.f k a0 a1 a2) := fun a0 a1 a2 => ⟨⟨laws_szJobShop.mono a0 a1 a2⟩⟩
instance : ∀ a0 a1, Mono (fun k => laws_szOpSS.f k a0 a1) := fun a0 a1 => ⟨⟨laws_szOpSS.mono a0 a1⟩⟩
instance : ∀ a0, Mono (fun k => laws_toIntA2S.f k a0) := fun a0 => ⟨⟨laws_toIntA2S.mono a0⟩⟩
instance : ∀ a0 a1, Mono (fun k => laws_toJobShop.f k a0 a1) := fun a0 a1 => ⟨⟨laws_toJobShop.mono a0 a1⟩⟩
instance : ∀ a0, Mono (fun k => laws_toOpS.f k a0) := fun a0 => ⟨⟨laws_toOpS.mono a0⟩⟩
instance : ∀ a0, Mono (fun k => laws_toOpSS.f k a0) := fun a0 => ⟨⟨laws_toOpSS.mono a0⟩⟩
instance : ∀ a0 a1 a2 a3, Mono (fun k => spec_IsShopProof.f k a0 a1 a2 a3) := fun a0 a1 a2 a3 => ⟨⟨spec_IsShopProof.mono a0 a1 a2 a3⟩⟩
instance : ∀ a0 a1, Mono (fun k => spec_l1Has.f k a0 a1) := fun a0 a1 => ⟨⟨spec_l1Has.mono a0 a1⟩⟩
instance : ∀ a0, Mono (fun k => spec_l2Last.f k a0) := fun a0 => ⟨⟨spec_l2Last.mono a0⟩⟩
instance : ∀ a0 a1, Mono (fun k => spec_l9All.f k a0 a1) := fun a0 a1 => ⟨⟨spec_l9All.mono a0 a1⟩⟩
instance : ∀ a0 a1, Mono (fun k => spec_l9Count.f k a0 a1) := fun a0 a1 => ⟨⟨spec_l9Count.mono a0 a1⟩⟩
instance : ∀ a0 a1 a2 a3, Mono (fun k => spec_l9Done.f k a0 a1 a2 a3) := fun a0 a1 a2 a3 => ⟨⟨spec_l9Done.mono a0 a1 a2 a3⟩⟩
instance : ∀ a0 a1, Mono (fun k => spec_l9Good.f k a0 a1) := fun a0 a1 => ⟨⟨spec_l9Good.mono a0 a1⟩⟩
instance : ∀ a0 a1 a2, Mono (fun k => spec_l9Length.f k a0 a1 a2) := fun a0 a1 a2 => ⟨⟨spec_l9Length.mono a0 a1 a2⟩⟩
instance : ∀ a0 a1, Mono (fun k => spec_l9Next.f k a0 a1) := fun a0 a1 => ⟨⟨spec_l9Next.mono a0 a1⟩⟩
instance : ∀ a0 a1, Mono (fun k => spec_l9Ops.f k a0 a1) := fun a0 a1 => ⟨⟨spec_l9Ops.mono a0 a1⟩⟩
instance : ∀ a0 a1 a2, Mono (fun k => spec_l9Pairs.f k a0 a1 a2) := fun a0 a1 a2 => ⟨⟨spec_l9Pairs.mono a0 a1 a2⟩⟩
instance : ∀ a0 a1 a2 a3 a4, Mono (fun k => spec_l9Proves.f k a0 a1 a2 a3 a4) := fun a0 a1 a2 a3 a4 => ⟨⟨spec_l9Proves.mono a0 a1 a2 a3 a4⟩⟩
instance : ∀ a0 a1, Mono (fun k => spec_l9Route.f k a0 a1) := fun a0 a1 => ⟨⟨spec_l9Route.mono a0 a1⟩⟩
instance : ∀ a0 a1 a2, Mono (fun k => spec_l9Starts.f k a0 a1 a2) := fun a0 a1 a2 => ⟨⟨spec_l9Starts.mono a0 a1 a2⟩⟩
instance : ∀ a0 a1 a2, Mono (fun k => spec_l9Tails.f k a0 a1 a2) := fun a0 a1 a2 => ⟨⟨spec_l9Tails.mono a0 a1 a2⟩⟩
theorem lt_mid {α : Type} (pre : List α) (x : α) (r : List α) : ((pre.length : Int) < ((pre ++ x :: r).length : Int)) = True := by
  simp only [List.length_append, List.length_cons]
  exact eq_true (by omega)
theorem not_lt_end {α : Type} (pre : List α) : ((pre.length : Int) < ((pre ++ []).length : Int)) = False := by
  simp
theorem le_nat (n : Nat) : (0 ≤ (n : Int)) = True := eq_true (by omega)
theorem getD_mid {α : Type} (pre : List α) (x : α) (r : List α) (d : α) : (pre ++ x :: r).getD (pre.length : Int).toNat d = x := by
  simp [List.getD_eq_getElem?_getD]
theorem rd_mid (pre : List Int) (x : Int) (r : List Int) : rd (pre ++ x :: r) (pre.length : Int) = x := getD_mid pre x r 0
theorem wrap_mid {α : Type} (pre : List α) (x : α) (h : pre.length < 4611686018427387904) : wrap64 ((pre.length : Int) + 1) = ((pre ++ [x]).length : Int) := by
  rw [wrap_id (by omega) (by omega)]
  simp
theorem set_mid {α β : Type} (a : List α) (y v : α) (b : List α) (pre : List β) (h : pre.length = a.length) : (a ++ y :: b).set (pre.length : Int).toNat v = a ++ v :: b := by
  rw [Int.toNat_natCast, h, List.set_append_right _ _ (Nat.le_refl _)]
  simp
theorem rep_succ {α : Type} (x : α) (r : List α) {β : Type} (z : β) : List.replicate (x :: r).length z = z :: List.replicate r.length z := rfl
theorem app_cons {α : Type} (pre : List α) (x : α) (r : List α) : pre ++ x :: r = (pre ++ [x]) ++ r := by simp
theorem ite_and (b c : Bool) : (if b = true then some c else some false) = some (b && c) := by cases b <;> rfl
theorem ite_not_and (b c : Bool) : (if b = true then some false else some c) = some (!b && c) := by cases b <;> rfl
def inB (a lo hi : Int) : Bool := decide (lo ≤ a) && decide (a ≤ hi)
theorem inB_iff {a lo hi : Int} : inB a lo hi = true ↔ lo ≤ a ∧ a ≤ hi := by simp [inB]
theorem within_e (a lo hi : Int) : impl_within.f a lo hi = some (inB a lo hi) := by
  unfold impl_within.f inB
  by_cases h : lo ≤ a <;> simp [h]
theorem l1In_e (a lo hi : Int) : spec_l1In.f a lo hi = some (inB a lo hi) := by
  unfold spec_l1In.f inB
  by_cases h : lo ≤ a <;> simp [h]
theorem mx_e (a b : Int) : mx a b = max a b := by
  unfold mx
  omega
theorem l1Most_e (a b : Int) : spec_l1Most.f a b = some (max a b) := by
  unfold spec_l1Most.f
  by_cases h : a > b
  · rw [if_pos h]
    congr 1
    omega
  · rw [if_neg h]
    congr 1
    omega
theorem l1Has_l (x : Int) (r : List Int) : ∀ pre : List Int, (pre ++ r).length < 4611686018427387904 → L (fun k => spec_l1Has.l0 k (pre ++ r) x (pre.length : Int)) = some (decide (x ∈ r)) := by
  induction r with
  | nil =>
    intro pre hb
    rw [L_shift]
    simp only [spec_l1Has.l0, not_lt_end, if_false, L_const]
    simp
  | cons y r ih =>
    intro pre hb
    rw [L_shift]
    have hl : pre.length < 4611686018427387904 := by simp at hb; omega
    simp only [spec_l1Has.l0, lt_mid, le_nat, if_true, rd_mid, wrap_mid pre y hl, L_ite, L_const]
    rw [app_cons pre y r, ih (pre ++ [y]) (by simpa using hb)]
    by_cases h : y = x
    · subst h
      simp
    · rw [if_neg h]
      have : ¬ x = y := fun e => h e.symm
      simp [this]
theorem l1Has_L (l : List Int) (x : Int) (h : l.length < 4611686018427387904) : L (fun k => spec_l1Has.f k l x) = some (decide (x ∈ l)) := l1Has_l x l [] (by simpa using h)
theorem has_l (x : Int) (r : List Int) : ∀ pre : List Int, (pre ++ r).length < 4611686018427387904 → L (fun k => impl_has.l0 k x (pre ++ r) ((pre ++ r).length : Int) (pre.length : Int)) = some (decide (x ∈ r)) := by
  induction r with
  | nil =>
    intro pre hb
    rw [L_shift]
    simp only [impl_has.l0, not_lt_end, if_false, L_const]
    simp
  | cons y r ih =>
    intro pre hb
    rw [L_shift]
    have hl : pre.length < 4611686018427387904 := by simp at hb; omega
    simp only [impl_has.l0, lt_mid, le_nat, if_true, rd_mid, wrap_mid pre y hl, L_ite, L_const]
    rw [app_cons pre y r, ih (pre ++ [y]) (by simpa using hb)]
    by_cases h : y = x
    · subst h
      simp
    · rw [if_neg h]
      have : ¬ x = y := fun e => h e.symm
      simp [this]
theorem has_L (l : List Int) (x : Int) (h : l.length < 4611686018427387904) : L (fun k => impl_has.f k l x) = some (decide (x ∈ l)) := has_l x l [] (by simpa using h)
def numsTo (n : Nat) : List Int := (List.range n).map (fun i : Nat => (i : Int))
/-- Different numbers of n things, none of them in pre. -/
def diffB (n : Int) : List Int → List Int → Bool
  | _, [] => true
  | pre, x :: r => inB x 0 (n - 1) && (!decide (x ∈ pre) && diffB n (pre ++ [x]) r)
/-- An order of n jobs. -/
def orderB (n : Nat) (l : List Int) : Bool := decide ((l.length : Int) = n) && diffB n [] l
def IsOrd (n : Nat) (l : List Int) : Prop := l.length = n ∧ (∀ x ∈ l, 0 ≤ x ∧ x < n) ∧ l.Nodup
theorem isNumber_e (a n : Int) (h0 : -9223372036854775807 ≤ n) (h1 : n ≤ 9223372036854775807) : impl_isNumber.f a n = some (inB a 0 (n - 1)) := by
  simp only [impl_isNumber.f, within_e, Option.bind_some]
  rw [wrap_id (by omega) (by omega)]
def maxTo (v : Int) (l : List Int) : Int := l.foldl max v
theorem l2Last_l (r : List Int) : ∀ (pre : List Int) (v : Int), (pre ++ r).length < 4611686018427387904 → L (fun k => spec_l2Last.l0 k (pre ++ r) v (pre.length : Int)) = some (maxTo v r) := by
  induction r with
  | nil =>
    intro pre v hb
    rw [L_shift]
    simp only [spec_l2Last.l0, not_lt_end, if_false, L_const, maxTo, List.foldl_nil]
  | cons x r ih =>
    intro pre v hb
    rw [L_shift]
    have hl : pre.length < 4611686018427387904 := by simp at hb; omega
    simp only [spec_l2Last.l0, lt_mid, le_nat, if_true, rd_mid, wrap_mid pre x hl, l1Most_e, Option.bind_some]
    rw [app_cons pre x r, ih (pre ++ [x]) _ (by simpa using hb)]
    rfl
theorem l2Last_L (l : List Int) (h : l.length < 4611686018427387904) : L (fun k => spec_l2Last.f k l) = some (maxTo 0 l) := l2Last_l l [] 0 (by simpa using h)
def lessF : List Int → List Int → Bool
  | x :: a, y :: b => if x = y then lessF a b else decide (x < y)
  | _, _ => false
/-- Shorter ones first; those of one length by their first different number. -/
def lessB (a b : List Int) : Bool := if a.length = b.length then lessF a b else decide (a.length < b.length)
def lexB : List Int → List Int → Bool
  | [], [] => false
  | [], _ :: _ => true
  | _ :: _, [] => false
  | x :: a, y :: b => if x = y then lexB a b else decide (x < y)
def Pre (b c : List Int) : Prop := ∃ t, c = b ++ t
def begB (c b : List Int) : Bool := decide (c.take b.length = b)
/-- The numbers v, v + 1, .., d of them. -/
def upI : Nat → Int → List Int
  | 0, _ => []
  | d + 1, v => v :: upI d (v + 1)
def fct : Nat → Int
  | 0 => 1
  | m + 1 => ((m : Int) + 1) * fct m
/-- A beginning: different numbers below n. -/
def IsPreN (n : Nat) (b : List Int) : Prop := (∀ x ∈ b, 0 ≤ x ∧ x < (n : Int)) ∧ b.Nodup
def headB (b : List Int) : List (List Int) → Bool
  | [] => false
  | c :: _ => begB c b
def candF (g : List Int → List (List Int) → Option (List (List Int))) (b : List Int) : List Int → List (List Int) → Option (List (List Int))
  | [], cs => some cs
  | i :: is, cs => if i ∈ b then candF g b is cs else if headB b cs = true then (g (b ++ [i]) cs).bind (fun r' => candF g b is r') else none
def covF (n : Nat) : Nat → List Int → List (List Int) → Option (List (List Int))
  | 0, b, cs => if cs.head? = some b then some cs.tail else none
  | m + 1, b, cs => if cs.head? = some b then some cs.tail else candF (covF n m) b (upI n 0) cs
def wOf (n : Nat) (c : List Int) : Int := fct (n - c.length)
def sumW (n : Nat) (cs : List (List Int)) : Int := (cs.map (wOf n)).sum
def cnt (b is : List Int) : Nat := (is.filter (fun i => !decide (i ∈ b))).length
theorem eqIntA2S_l (r : List S43) : ∀ pre : List S43, (pre ++ r).length < 4611686018427387904 → L (fun k => laws_eqIntA2S.l0 k (pre ++ r) (pre ++ r) (pre.length : Int)) = some true := by
  induction r with
  | nil =>
    intro pre hb
    rw [L_shift]
    simp only [laws_eqIntA2S.l0, not_lt_end, if_false, L_const]
  | cons x r ih =>
    intro pre hb
    rw [L_shift]
    have hl : pre.length < 4611686018427387904 := by simp at hb; omega
    simp only [laws_eqIntA2S.l0, laws_eqIntA2.f, lt_mid, le_nat, if_true, wrap_mid pre x hl, Option.bind_some]
    rw [app_cons pre x r]
    exact ih (pre ++ [x]) (by simpa using hb)
theorem eqIntA2S_L (l : List S43) (h : l.length ≤ 1048576) : L (fun k => laws_eqIntA2S.f k l l) = some true := by
  simp only [laws_eqIntA2S.f, if_true]
  exact eqIntA2S_l l [] (by simp; omega)
def toOpP (x : S75) : S62 := ⟨x.f0, x.f1⟩
theorem toOpS_l (r : List S75) : ∀ pre : List S75, (pre ++ r).length < 4611686018427387904 → L (fun k => laws_toOpS.l0 k (pre ++ r) (pre.map toOpP ++ List.replicate r.length z62) (pre.length : Int)) = some ((pre ++ r).map toOpP) := by
  induction r with
  | nil =>
    intro pre hb
    rw [L_shift]
    simp only [laws_toOpS.l0, not_lt_end, if_false, L_const, List.length_nil, List.replicate_zero]
    simp
  | cons x r ih =>
    intro pre hb
    rw [L_shift]
    have hl : pre.length < 4611686018427387904 := by simp at hb; omega
    have e : rd_T75 (pre ++ x :: r) (pre.length : Int) = x := getD_mid pre x r _
    have e2 : ((pre.length : Int) < ((pre.map toOpP ++ z62 :: List.replicate r.length z62).length : Int)) = True := by
      simp only [List.length_append, List.length_cons, List.length_map]
      exact eq_true (by omega)
    simp only [laws_toOpS.l0, laws_toOp.f, lt_mid, le_nat, if_true, rep_succ, e, e2, wrap_mid pre x hl, Option.bind_some, set_mid (pre.map toOpP) _ _ _ pre (by simp)]
    have := ih (pre ++ [x]) (by simpa using hb)
    simpa [toOpP] using this
theorem toOpS_L (l : List S75) (h : l.length ≤ 1048576) : L (fun k => laws_toOpS.f k l) = some (l.map toOpP) := by
  simp only [laws_toOpS.f, le_nat, if_true, Int.toNat_natCast, if_pos (show l.length ≤ 17592186044416 by omega)]
  exact toOpS_l l [] (by simp; omega)
theorem toOpSS_l (r : List (List S75)) : ∀ pre : List (List S75), (pre ++ r).length < 4611686018427387904 → (∀ x ∈ r, x.length ≤ 1048576) → L (fun k => laws_toOpSS.l0 k (pre ++ r) (pre.map (List.map toOpP) ++ List.replicate r.length []) (pre.length : Int)) = some ((pre ++ r).map (List.map toOpP)) := by
  induction r with
  | nil =>
    intro pre hb hr
    rw [L_shift]
    simp only [laws_toOpSS.l0, not_lt_end, if_false, L_const, List.length_nil, List.replicate_zero]
    simp
  | cons x r ih =>
    intro pre hb hr
    rw [L_shift]
    have hl : pre.length < 4611686018427387904 := by simp at hb; omega
    have e : rd_L2 (pre ++ x :: r) (pre.length : Int) = x := getD_mid pre x r _
    have e2 : ((pre.length : Int) < ((pre.map (List.map toOpP) ++ ([] : List S62) :: List.replicate r.length []).length : Int)) = True := by
      simp only [List.length_append, List.length_cons, List.length_map]
      exact eq_true (by omega)
    simp only [laws_toOpSS.l0, lt_mid, le_nat, if_true, rep_succ, e, e2, wrap_mid pre x hl, L_bind, L_const, toOpS_L x (hr x List.mem_cons_self), Option.bind_some, set_mid (pre.map (List.map toOpP)) _ _ _ pre (by simp)]
    have := ih (pre ++ [x]) (by simpa using hb) (fun y hy => hr y (List.mem_cons_of_mem _ hy))
    simpa using this
theorem toOpSS_L (l : List (List S75)) (h : l.length ≤ 1048576) (hr : ∀ x ∈ l, x.length ≤ 1048576) : L (fun k => laws_toOpSS.f k l) = some (l.map (List.map toOpP)) := by
  simp only [laws_toOpSS.f, le_nat, if_true, Int.toNat_natCast, if_pos (show l.length ≤ 11728124029610 by omega)]
  exact toOpSS_l l [] (by simp; omega) hr
theorem toJobShop_L (m : Int) (l : List (List S75)) (h : l.length ≤ 1048576) (hr : ∀ x ∈ l, x.length ≤ 1048576) : L (fun k => laws_toJobShop.f k m l) = some (m, l.map (List.map toOpP)) := by
  simp only [laws_toJobShop.f, L_bind, toOpSS_L l h hr, Option.bind_some, L_const]
theorem szOpS_e (l : List S75) (v : Int) (h : l.length ≤ 9223372036854775807) (h0 : 0 ≤ v) (h1 : v ≤ 1048576) : laws_szOpS.f l v = some (if (l.length : Int) ≤ v then v - (l.length : Int) else -1) := by
  unfold laws_szOpS.f
  rw [wrap_id (show -9223372036854775808 ≤ v - (l.length : Int) by omega) (by omega)]
  by_cases h2 : (l.length : Int) ≤ v
  · rw [if_neg (by omega), if_pos h2]
  · rw [if_pos (by omega), if_neg h2]
theorem szOpSS_l (r : List (List S75)) : ∀ (pre : List (List S75)) (v : Int), (pre ++ r).length < 4611686018427387904 → 0 ≤ v → v ≤ 1048576 → (∀ x ∈ r, x.length ≤ 9223372036854775807) →
    ∃ t, L (fun k => laws_szOpSS.l0 k (pre ++ r) v (pre.length : Int)) = some t ∧ (t < 0 ∨ (0 ≤ t ∧ t ≤ v ∧ ∀ x ∈ r, x.length ≤ 1048576)) := by
  induction r with
  | nil =>
    intro pre v hb h0 h1 hr
    rw [L_shift]
    simp only [laws_szOpSS.l0, not_lt_end, if_false, L_const]
    exact ⟨v, rfl, .inr ⟨h0, Int.le_refl _, by simp⟩⟩
  | cons x r ih =>
    intro pre v hb h0 h1 hr
    rw [L_shift]
    have hl : pre.length < 4611686018427387904 := by simp at hb; omega
    have e : rd_L2 (pre ++ x :: r) (pre.length : Int) = x := getD_mid pre x r _
    simp only [laws_szOpSS.l0, lt_mid, le_nat, if_true, e, wrap_mid pre x hl, szOpS_e x v (hr x List.mem_cons_self) h0 h1, Option.bind_some, L_ite, L_const]
    by_cases h2 : (x.length : Int) ≤ v
    · rw [if_pos h2, if_neg (by omega), app_cons pre x r]
      obtain ⟨t, ht, hd⟩ := ih (pre ++ [x]) (v - (x.length : Int)) (by simpa using hb) (by omega) (by omega) (fun y hy => hr y (List.mem_cons_of_mem _ hy))
      refine ⟨t, ht, hd.imp id (fun hd => ⟨hd.1, by omega, ?_⟩)⟩
      intro y hy
      rcases List.mem_cons.1 hy with rfl | hy
      · omega
      · exact hd.2.2 y hy
    · rw [if_neg h2, if_pos (by omega)]
      exact ⟨-1, rfl, .inl (by omega)⟩
theorem szJobShop_L (m : Int) (l : List (List S75)) (v : Int) (h0 : 0 ≤ v) (h1 : v ≤ 1048576) (hl : l.length ≤ 9223372036854775807) (hr : ∀ x ∈ l, x.length ≤ 9223372036854775807) :
    ∃ t, L (fun k => laws_szJobShop.f k m l v) = some t ∧ (t < 0 ∨ (0 ≤ t ∧ t ≤ v ∧ l.length ≤ 1048576 ∧ ∀ x ∈ l, x.length ≤ 1048576)) := by
  have hs : ∃ t, L (fun k => laws_szOpSS.f k l v) = some t ∧ (t < 0 ∨ (0 ≤ t ∧ t ≤ v ∧ l.length ≤ 1048576 ∧ ∀ x ∈ l, x.length ≤ 1048576)) := by
    simp only [laws_szOpSS.f]
    rw [wrap_id (show -9223372036854775808 ≤ v - (l.length : Int) by omega) (by omega)]
    by_cases h : v - (l.length : Int) < 0
    · simp only [if_pos h, L_const]
      exact ⟨-1, rfl, .inl (by omega)⟩
    · simp only [if_neg h]
      obtain ⟨t, ht, hd⟩ := szOpSS_l l [] (v - (l.length : Int)) (by simp; omega) (by omega) (by omega) hr
      exact ⟨t, ht, hd.imp id (fun hd => ⟨hd.1, by omega, by omega, hd.2.2⟩)⟩
  obtain ⟨t, ht, hd⟩ := hs
  simp only [laws_szJobShop.f, L_bind, ht, Option.bind_some, L_ite, L_const]
  rcases hd with hd | hd
  · rw [if_pos hd]
    exact ⟨-1, rfl, .inl (by omega)⟩
  · rw [if_neg (by omega)]
    exact ⟨t, rfl, .inr hd⟩
theorem eqOpS_l (r : List S62) : ∀ pre : List S62, (pre ++ r).length < 4611686018427387904 → L (fun k => laws_eqOpS.l0 k (pre ++ r) (pre ++ r) (pre.length : Int)) = some true := by
  induction r with
  | nil =>
    intro pre hb
    rw [L_shift]
    simp only [laws_eqOpS.l0, not_lt_end, if_false, L_const]
  | cons x r ih =>
    intro pre hb
    rw [L_shift]
    have hl : pre.length < 4611686018427387904 := by simp at hb; omega
    simp only [laws_eqOpS.l0, laws_eqOp.f, lt_mid, le_nat, if_true, wrap_mid pre x hl, Option.bind_some]
    rw [app_cons pre x r]
    exact ih (pre ++ [x]) (by simpa using hb)
theorem eqOpS_L (l : List S62) (h : l.length ≤ 1048576) : L (fun k => laws_eqOpS.f k l l) = some true := by
  simp only [laws_eqOpS.f, if_true]
  exact eqOpS_l l [] (by simp; omega)
theorem eqOpSS_l (r : List (List S62)) : ∀ pre : List (List S62), (pre ++ r).length < 4611686018427387904 → (∀ x ∈ r, x.length ≤ 1048576) → L (fun k => laws_eqOpSS.l0 k (pre ++ r) (pre ++ r) (pre.length : Int)) = some true := by
  induction r with
  | nil =>
    intro pre hb hr
    rw [L_shift]
    simp only [laws_eqOpSS.l0, not_lt_end, if_false, L_const]
  | cons x r ih =>
    intro pre hb hr
    rw [L_shift]
    have hl : pre.length < 4611686018427387904 := by simp at hb; omega
    have e : rd_L5 (pre ++ x :: r) (pre.length : Int) = x := getD_mid pre x r _
    simp only [laws_eqOpSS.l0, lt_mid, le_nat, if_true, e, wrap_mid pre x hl, L_bind, L_const, eqOpS_L x (hr x List.mem_cons_self), Option.bind_some]
    rw [app_cons pre x r]
    exact ih (pre ++ [x]) (by simpa using hb) (fun y hy => hr y (List.mem_cons_of_mem _ hy))
theorem eqJobShop_L (m : Int) (l : List (List S62)) (h : l.length ≤ 1048576) (hr : ∀ x ∈ l, x.length ≤ 1048576) : L (fun k => laws_eqJobShop.f k m l m l) = some true := by
  have hs : L (fun k => laws_eqOpSS.f k l l) = some true := by
    simp only [laws_eqOpSS.f, if_true]
    exact eqOpSS_l l [] (by simp; omega) hr
  simp only [laws_eqJobShop.f, if_true, L_bind, hs, Option.bind_some, L_const]
def routeB (m : Int) : List Int → List S62 → Bool
  | _, [] => true
  | used, x :: r => inB x.f0 0 (m - 1) && (inB x.f1 1 20 && (!decide (x.f0 ∈ used) && routeB m (used ++ [x.f0]) r))
def cntN : List (List S62) → Nat
  | [] => 0
  | r :: R => r.length + cntN R
/-- A job shop. -/
def shop9B (m : Int) (R : List (List S62)) : Bool := inB m 1 4 && (decide (R.length ≤ 4) && (R.all (routeB m []) && decide (cntN R ≤ 12)))
structure OpOk (m : Int) (x : S62) : Prop where
  m0 : 0 ≤ x.f0
  m1 : x.f0 < m
  t0 : 1 ≤ x.f1
  t1 : x.f1 ≤ 20
structure Shop9 (m : Int) (R : List (List S62)) : Prop where
  m0 : 1 ≤ m
  m1 : m ≤ 4
  len : R.length ≤ 4
  cnt : cntN R ≤ 12
  op : ∀ r ∈ R, ∀ x ∈ r, OpOk m x
  nodup : ∀ r ∈ R, (r.map (·.f0)).Nodup
theorem routeB_iff (m : Int) : ∀ (r : List S62) (used : List Int), routeB m used r = true → (∀ x ∈ r, OpOk m x) ∧ (r.map (·.f0)).Nodup ∧ ∀ x ∈ r, x.f0 ∉ used
  | [], used, _ => ⟨by simp, by simp, by simp⟩
  | x :: r, used, h => by
    rw [routeB, Bool.and_eq_true, Bool.and_eq_true, Bool.and_eq_true, inB_iff, inB_iff] at h
    obtain ⟨h1, h2, h3, h4⟩ := h
    obtain ⟨g1, g2, g3⟩ := routeB_iff m r _ h4
    simp only [Bool.not_eq_true', decide_eq_false_iff_not] at h3
    refine ⟨fun y hy => ?_, ?_, fun y hy => ?_⟩
    · rcases List.mem_cons.1 hy with rfl | hy
      · exact ⟨h1.1, by omega, h2.1, h2.2⟩
      · exact g1 y hy
    · rw [List.map_cons, List.nodup_cons]
      refine ⟨fun hx => ?_, g2⟩
      obtain ⟨y, hy, he⟩ := List.mem_map.1 hx
      exact g3 y hy (by rw [he]; simp)
    · rcases List.mem_cons.1 hy with rfl | hy
      · exact h3
      · exact fun hc => g3 y hy (by simp [hc])
theorem shop9B_iff {m : Int} {R : List (List S62)} (h : shop9B m R = true) : Shop9 m R := by
  simp only [shop9B, Bool.and_eq_true, inB_iff, decide_eq_true_eq, List.all_eq_true] at h
  obtain ⟨h1, h2, h3, h4⟩ := h
  exact ⟨h1.1, h1.2, h2, h4, fun r hr => (routeB_iff m r [] (h3 r hr)).1, fun r hr => (routeB_iff m r [] (h3 r hr)).2.1⟩
theorem l9Route_l (m : Int) (hm : -1000 ≤ m ∧ m ≤ 1000) (r : List S62) : ∀ (pre : List S62) (used : List Int), (pre ++ r).length < 2000000 → used.length + r.length < 4000000 → L (fun k => spec_l9Route.l0 k m (pre ++ r) used (pre.length : Int)) = some (routeB m used r) := by
  induction r with
  | nil =>
    intro pre used hb hu
    rw [L_shift]
    simp only [spec_l9Route.l0, not_lt_end, if_false, L_const]
    rfl
  | cons x r ih =>
    intro pre used hb hu
    rw [L_shift]
    have hl : pre.length < 4611686018427387904 := by simp at hb; omega
    have e : rd_T62 (pre ++ x :: r) (pre.length : Int) = x := getD_mid pre x r _
    simp only [List.length_cons] at hu
    simp only [spec_l9Route.l0, lt_mid, le_nat, if_true, e, wrap_mid pre x hl, wrap_id (show -9223372036854775808 ≤ m - 1 by omega) (show m - 1 ≤ 9223372036854775807 by omega), l1In_e, Option.bind_some, L_ite, L_const, L_bind, l1Has_L used x.f0 (by omega), if_pos (show used.length < 17592186044416 by omega)]
    rw [app_cons pre x r, ih (pre ++ [x]) (used ++ [x.f0]) (by simpa using hb) (by simp; omega), routeB, ite_not_and, ite_and, ite_and]
theorem l9Count_l (m : Int) (R : List (List S62)) (hR : R.length ≤ 4) : ∀ (r pre : List (List S62)) (v : Int), pre ++ r = R → (∀ x ∈ r, x.length ≤ 1048576) → 0 ≤ v → v ≤ 2000000 * (pre.length : Int) →
    L (fun k => spec_l9Count.l0 k v (pre.length : Int) m R) = some (v + (cntN r : Int))
  | [], pre, v, hp, hr, h0, h1 => by
    rw [L_shift]
    simp only [List.append_nil] at hp
    subst hp
    simp only [spec_l9Count.l0, if_neg (show ¬ ((pre.length : Int) < (pre.length : Int)) by omega), L_const, cntN]
    simp
  | x :: r, pre, v, hp, hr, h0, h1 => by
    rw [L_shift]
    have hl : R.length = pre.length + (r.length + 1) := by rw [← hp]; simp
    have e : rd_L5 R (pre.length : Int) = x := by rw [← hp]; exact getD_mid pre x r _
    have hx := hr x List.mem_cons_self
    simp only [spec_l9Count.l0, if_pos (show (pre.length : Int) < (R.length : Int) by omega), le_nat, if_true, e, wrap_mid pre x (by omega), wrap_id (show -9223372036854775808 ≤ v + (x.length : Int) by omega) (by omega)]
    rw [l9Count_l m R hR r (pre ++ [x]) (v + (x.length : Int)) (by rw [← hp]; simp) (fun y hy => hr y (List.mem_cons_of_mem _ hy)) (by omega) (by simp; omega), cntN]
    congr 1
    omega
theorem l9Good_l (m : Int) (hm : -1000 ≤ m ∧ m ≤ 1000) (R : List (List S62)) (hR : R.length ≤ 4) (hRr : ∀ x ∈ R, x.length ≤ 1048576) : ∀ (r pre : List (List S62)), pre ++ r = R →
    L (fun k => spec_l9Good.l0 k (pre.length : Int) m R) = some (r.all (routeB m []) && decide (cntN R ≤ 12))
  | [], pre, hp => by
    rw [L_shift]
    simp only [List.append_nil] at hp
    subst hp
    have hc := l9Count_l m pre hR pre [] 0 rfl hRr (by omega) (by simp)
    have hc2 : L (fun k => spec_l9Count.f k m pre) = some ((cntN pre : Nat) : Int) := by
      have : (0 : Int) + ((cntN pre : Nat) : Int) = ((cntN pre : Nat) : Int) := by omega
      rw [this] at hc
      exact hc
    simp only [spec_l9Good.l0, if_neg (show ¬ ((pre.length : Int) < (pre.length : Int)) by omega), L_bind, hc2, Option.bind_some, L_const, List.all_nil, Bool.true_and]
    congr 1
    exact decide_eq_decide.2 (by omega)
  | x :: r, pre, hp => by
    rw [L_shift]
    have hl : R.length = pre.length + (r.length + 1) := by rw [← hp]; simp
    have e : rd_L5 R (pre.length : Int) = x := by rw [← hp]; exact getD_mid pre x r _
    have hx := hRr x (by rw [← hp]; simp)
    have hro : L (fun k => spec_l9Route.f k m x) = some (routeB m [] x) := l9Route_l m hm x [] [] (by simp; omega) (by simp; omega)
    simp only [spec_l9Good.l0, if_pos (show (pre.length : Int) < (R.length : Int) by omega), le_nat, if_true, e, wrap_mid pre x (by omega), L_bind, hro, Option.bind_some, L_ite, L_const]
    rw [l9Good_l m hm R hR hRr r (pre ++ [x]) (by rw [← hp]; simp), ite_and, List.all_cons, Bool.and_assoc]
theorem l9Good_L (m : Int) (R : List (List S62)) (hR : R.length ≤ 1048576) (hRr : ∀ x ∈ R, x.length ≤ 1048576) : L (fun k => spec_l9Good.f k m R) = some (shop9B m R) := by
  have hj : ∀ b, L (fun k => spec_l9Good.j0 k b m R) = if b = true then some false else L (fun k => spec_l9Good.l0 k 0 m R) := fun b => by
    rw [L_shift]
    simp only [spec_l9Good.j0, L_ite, L_const]
  simp only [spec_l9Good.f, l1In_e, Option.bind_some, L_ite, hj, shop9B]
  by_cases hm : inB m 1 4 = true
  · rw [if_pos hm, hm, Bool.true_and]
    have hm2 := inB_iff.1 hm
    by_cases h4 : R.length ≤ 4
    · rw [decide_eq_false (show ¬ (R.length : Int) > 4 by omega), if_neg (by decide), decide_eq_true h4, Bool.true_and]
      exact l9Good_l m (by omega) R h4 hRr R [] rfl
    · rw [decide_eq_true (show (R.length : Int) > 4 by omega), if_pos rfl, decide_eq_false h4, Bool.false_and]
  · rw [if_neg hm]
    simp only [Bool.not_eq_true] at hm
    rw [hm, Bool.false_and]
    simp
theorem shop9_in (m : Int) (hm : -1000 ≤ m ∧ m ≤ 1000) (R : List (List S62)) (c n i : Int) (x : List S62) (hx : x.length ≤ 1048576) (Ms : List (List S62)) : ∀ (r pre : List S62) (used : List Int), pre ++ r = x → used.length + r.length < 4000000 →
    L (fun k => impl_IsJobShop.l1 k c x used R n i x (x.length : Int) (pre.length : Int) m Ms) = if routeB m used r = true then L (fun k => impl_IsJobShop.l0 k (wrap64 (c + (x.length : Int))) R n (wrap64 (i + 1)) m Ms) else some false
  | [], pre, used, hp, hu => by
    rw [L_shift]
    simp only [List.append_nil] at hp
    subst hp
    simp only [impl_IsJobShop.l1, if_neg (show ¬ ((pre.length : Int) < (pre.length : Int)) by omega), routeB, if_true]
  | y :: r, pre, used, hp, hu => by
    rw [L_shift]
    have hl : x.length = pre.length + (r.length + 1) := by rw [← hp]; simp
    have e : rd_T62 x (pre.length : Int) = y := by rw [← hp]; exact getD_mid pre y r _
    simp only [List.length_cons] at hu
    have ih := shop9_in m hm R c n i x hx Ms r (pre ++ [y]) (used ++ [y.f0]) (by rw [← hp]; simp) (by simp; omega)
    simp only [impl_IsJobShop.l1, if_pos (show (pre.length : Int) < (x.length : Int) by omega), le_nat, if_true, e, isNumber_e y.f0 m (by omega) (by omega), within_e, Option.bind_some, L_ite, L_const, L_bind, has_L used y.f0 (by omega), if_pos (show used.length < 17592186044416 by omega), wrap_mid pre y (show pre.length < 4611686018427387904 by omega), ih, routeB]
    by_cases h1 : inB y.f0 0 (m - 1) = true
    · by_cases h2 : inB y.f1 1 20 = true
      · by_cases h3 : y.f0 ∈ used <;> simp [h1, h2, h3]
      · simp [h1, h2]
    · simp [h1]
theorem IsJobShop_l (m : Int) (hm : -1000 ≤ m ∧ m ≤ 1000) (R : List (List S62)) (hR : R.length ≤ 4) (hRr : ∀ x ∈ R, x.length ≤ 1048576) (Ms : List (List S62)) : ∀ (r pre : List (List S62)) (c : Int), pre ++ r = R → 0 ≤ c → c ≤ 2000000 * (pre.length : Int) →
    L (fun k => impl_IsJobShop.l0 k c R (R.length : Int) (pre.length : Int) m Ms) = some (r.all (routeB m []) && decide (c + (cntN r : Int) ≤ 12))
  | [], pre, c, hp, h0, h1 => by
    rw [L_shift]
    simp only [List.append_nil] at hp
    subst hp
    simp only [impl_IsJobShop.l0, if_neg (show ¬ ((pre.length : Int) < (pre.length : Int)) by omega), L_const, List.all_nil, Bool.true_and, cntN]
    congr 1
    exact decide_eq_decide.2 (by omega)
  | x :: r, pre, c, hp, h0, h1 => by
    rw [L_shift]
    have hl : R.length = pre.length + (r.length + 1) := by rw [← hp]; simp
    have e : rd_L5 R (pre.length : Int) = x := by rw [← hp]; exact getD_mid pre x r _
    have hx := hRr x (by rw [← hp]; simp)
    have hin := shop9_in m hm R c (R.length : Int) (pre.length : Int) x hx Ms x [] [] rfl (by simp; omega)
    simp only [List.length_nil, Int.natCast_zero] at hin
    simp only [impl_IsJobShop.l0, if_pos (show (pre.length : Int) < (R.length : Int) by omega), le_nat, if_true, e, hin, wrap_mid pre x (show pre.length < 4611686018427387904 by omega), wrap_id (show -9223372036854775808 ≤ c + (x.length : Int) by omega) (show c + (x.length : Int) ≤ 9223372036854775807 by omega)]
    rw [IsJobShop_l m hm R hR hRr Ms r (pre ++ [x]) (c + (x.length : Int)) (by rw [← hp]; simp) (by omega) (by simp; omega), ite_and, List.all_cons, Bool.and_assoc]
    congr 3
    exact decide_eq_decide.2 (by rw [cntN]; omega)
theorem IsJobShop_L (m : Int) (R : List (List S62)) (hR : R.length ≤ 1048576) (hRr : ∀ x ∈ R, x.length ≤ 1048576) : L (fun k => impl_IsJobShop.f k m R) = some (shop9B m R) := by
  have hj : ∀ b, L (fun k => impl_IsJobShop.j0 k b m R) = if b = true then some false else L (fun k => impl_IsJobShop.l0 k 0 R (R.length : Int) 0 m R) := fun b => by
    rw [L_shift]
    simp only [impl_IsJobShop.j0, L_ite, L_const]
  simp only [impl_IsJobShop.f, within_e, Option.bind_some, L_ite, hj, shop9B]
  by_cases hm : inB m 1 4 = true
  · rw [if_pos hm, hm, Bool.true_and]
    have hm2 := inB_iff.1 hm
    by_cases h4 : R.length ≤ 4
    · rw [decide_eq_false (show ¬ (R.length : Int) > 4 by omega), if_neg (by decide), decide_eq_true h4, Bool.true_and]
      have := IsJobShop_l m (by omega) R h4 hRr R R [] 0 rfl (by omega) (by simp)
      simp only [List.length_nil, Int.natCast_zero] at this
      rw [this]
      congr 2
      exact decide_eq_decide.2 (by omega)
    · rw [decide_eq_true (show (R.length : Int) > 4 by omega), if_pos rfl, decide_eq_false h4, Bool.false_and]
  · rw [if_neg hm]
    simp only [Bool.not_eq_true] at hm
    rw [hm, Bool.false_and]
    simp
/-- The operations of a route with the route's number and their places. -/
def flatI (i : Nat) : Nat → List S62 → List (S62 × Nat × Nat)
  | _, [] => []
  | k, x :: r => (x, i, k) :: flatI i (k + 1) r
def flatR : Nat → List (List S62) → List (S62 × Nat × Nat)
  | _, [] => []
  | i, r :: R => flatI i 0 r ++ flatR (i + 1) R
def fOps (F : List (S62 × Nat × Nat)) : List S62 := F.map (·.1)
def fRoute (F : List (S62 × Nat × Nat)) : List Int := F.map (fun x => (x.2.1 : Int))
def fIdx (F : List (S62 × Nat × Nat)) : List Int := F.map (fun x => (x.2.2 : Int))
theorem flatI_len (i : Nat) : ∀ (r : List S62) (k : Nat), (flatI i k r).length = r.length
  | [], k => rfl
  | x :: r, k => by rw [flatI, List.length_cons, flatI_len i r, List.length_cons]
theorem flatI_ops (i : Nat) : ∀ (r : List S62) (k : Nat), fOps (flatI i k r) = r
  | [], k => rfl
  | x :: r, k => by
    have := flatI_ops i r (k + 1)
    simp only [fOps] at this
    simp only [flatI, fOps, List.map_cons, this]
theorem flatR_len : ∀ (R : List (List S62)) (i : Nat), (flatR i R).length = cntN R
  | [], i => rfl
  | r :: R, i => by rw [flatR, List.length_append, flatI_len, flatR_len R, cntN]
theorem flatI_mem (i : Nat) : ∀ (r : List S62) (k : Nat) (p : S62 × Nat × Nat), p ∈ flatI i k r → p.1 ∈ r ∧ p.2.1 = i ∧ k ≤ p.2.2 ∧ p.2.2 < k + r.length ∧ r[p.2.2 - k]? = some p.1
  | [], k, p, h => by cases h
  | x :: r, k, p, h => by
    rcases List.mem_cons.1 h with rfl | h
    · exact ⟨List.mem_cons_self, rfl, Nat.le_refl _, by simp, by simp⟩
    · obtain ⟨h1, h2, h3, h4, h5⟩ := flatI_mem i r (k + 1) p h
      refine ⟨List.mem_cons_of_mem _ h1, h2, by omega, by simp; omega, ?_⟩
      rw [show p.2.2 - k = (p.2.2 - (k + 1)) + 1 by omega, List.getElem?_cons_succ]
      exact h5
theorem flatR_mem : ∀ (R : List (List S62)) (i : Nat) (p : S62 × Nat × Nat), p ∈ flatR i R → i ≤ p.2.1 ∧ p.2.1 < i + R.length ∧ ∃ r, R[p.2.1 - i]? = some r ∧ r[p.2.2]? = some p.1
  | [], i, p, h => by cases h
  | r :: R, i, p, h => by
    rw [flatR, List.mem_append] at h
    rcases h with h | h
    · obtain ⟨h1, h2, h3, h4, h5⟩ := flatI_mem i r 0 p h
      exact ⟨by omega, by simp; omega, r, by rw [h2]; simp, by simpa using h5⟩
    · obtain ⟨h1, h2, q, h3, h4⟩ := flatR_mem R (i + 1) p h
      refine ⟨by omega, by simp; omega, q, ?_, h4⟩
      rw [show p.2.1 - i = (p.2.1 - (i + 1)) + 1 by omega, List.getElem?_cons_succ]
      exact h3
theorem flatOf_in (i : Nat) (R : List (List S62)) (n : Int) (x : List S62) (hx : x.length ≤ 1048576) : ∀ (r pre : List S62) (F : List (S62 × Nat × Nat)), pre ++ r = x → F.length + r.length < 4000000 →
    L (fun k => impl_flatOf.l1 k (i : Int) R n (i : Int) x (x.length : Int) (pre.length : Int) (fOps F) (fRoute F) (fIdx F)) = L (fun k => impl_flatOf.l0 k R n (wrap64 ((i : Int) + 1)) (fOps (F ++ flatI i pre.length r)) (fRoute (F ++ flatI i pre.length r)) (fIdx (F ++ flatI i pre.length r)))
  | [], pre, F, hp, hF => by
    rw [L_shift]
    simp only [List.append_nil] at hp
    subst hp
    simp only [impl_flatOf.l1, if_neg (show ¬ ((pre.length : Int) < (pre.length : Int)) by omega), flatI, List.append_nil]
  | y :: r, pre, F, hp, hF => by
    rw [L_shift]
    have hl : x.length = pre.length + (r.length + 1) := by rw [← hp]; simp
    have e : rd_T62 x (pre.length : Int) = y := by rw [← hp]; exact getD_mid pre y r _
    simp only [List.length_cons] at hF
    have ih := flatOf_in i R n x hx r (pre ++ [y]) (F ++ [(y, i, pre.length)]) (by rw [← hp]; simp) (by simp; omega)
    have e1 : fOps (F ++ [(y, i, pre.length)]) = fOps F ++ [y] := by simp [fOps]
    have e2 : fRoute (F ++ [(y, i, pre.length)]) = fRoute F ++ [(i : Int)] := by simp [fRoute]
    have e3 : fIdx (F ++ [(y, i, pre.length)]) = fIdx F ++ [(pre.length : Int)] := by simp [fIdx]
    have l1 : (fOps F).length = F.length := by simp [fOps]
    have l2 : (fRoute F).length = F.length := by simp [fRoute]
    have l3 : (fIdx F).length = F.length := by simp [fIdx]
    rw [e1, e2, e3] at ih
    simp only [impl_flatOf.l1, if_pos (show (pre.length : Int) < (x.length : Int) by omega), le_nat, if_true, e, l1, l2, l3, if_pos (show F.length < 8796093022208 by omega), if_pos (show F.length < 17592186044416 by omega), wrap_mid pre y (show pre.length < 4611686018427387904 by omega)]
    refine ih.trans ?_
    simp only [flatI, List.length_append, List.length_singleton, List.append_assoc, List.singleton_append]
theorem flatOf_l (R : List (List S62)) (hR : R.length ≤ 4) (hRr : ∀ x ∈ R, x.length ≤ 1048576) : ∀ (r pre : List (List S62)) (F : List (S62 × Nat × Nat)), pre ++ r = R → F.length + cntN r ≤ 1000 →
    L (fun k => impl_flatOf.l0 k R (R.length : Int) (pre.length : Int) (fOps F) (fRoute F) (fIdx F)) = some (fOps (F ++ flatR pre.length r), fRoute (F ++ flatR pre.length r), fIdx (F ++ flatR pre.length r))
  | [], pre, F, hp, hF => by
    rw [L_shift]
    simp only [List.append_nil] at hp
    subst hp
    simp only [impl_flatOf.l0, if_neg (show ¬ ((pre.length : Int) < (pre.length : Int)) by omega), L_const, flatR, List.append_nil]
  | x :: r, pre, F, hp, hF => by
    rw [L_shift]
    have hl : R.length = pre.length + (r.length + 1) := by rw [← hp]; simp
    have e : rd_L5 R (pre.length : Int) = x := by rw [← hp]; exact getD_mid pre x r _
    have hx := hRr x (by rw [← hp]; simp)
    rw [cntN] at hF
    have hin := flatOf_in pre.length R (R.length : Int) x hx x [] F rfl (by omega)
    simp only [List.length_nil, Int.natCast_zero] at hin
    have ih := flatOf_l R hR hRr r (pre ++ [x]) (F ++ flatI pre.length 0 x) (by rw [← hp]; simp) (by rw [List.length_append, flatI_len]; omega)
    simp only [impl_flatOf.l0, if_pos (show (pre.length : Int) < (R.length : Int) by omega), le_nat, if_true, e, hin, wrap_mid pre x (show pre.length < 4611686018427387904 by omega), ih]
    simp only [flatR, List.length_append, List.length_singleton, List.append_assoc]
theorem flatOf_L (m : Int) (R : List (List S62)) (h : Shop9 m R) : L (fun k => impl_flatOf.f k m R) = some (fOps (flatR 0 R), fRoute (flatR 0 R), fIdx (flatR 0 R)) := by
  have hc := h.cnt
  have hrl : ∀ (R : List (List S62)) (x : List S62), x ∈ R → x.length ≤ cntN R := by
    intro R
    induction R with
    | nil => intro x hx; cases hx
    | cons y R ih =>
      intro x hx
      rw [cntN]
      rcases List.mem_cons.1 hx with rfl | hx
      · omega
      · have := ih x hx
        omega
  have := flatOf_l R h.len (fun x hx => by have := hrl R x hx; omega) R [] [] rfl (by simp; omega)
  simpa [impl_flatOf.f, fOps, fRoute, fIdx] using this
/-- The places of the operations of a machine. -/
def onF (m : Int) : Nat → List S62 → List Int
  | _, [] => []
  | i, x :: r => if x.f0 = m then (i : Int) :: onF m (i + 1) r else onF m (i + 1) r
theorem fOps_app (a b : List (S62 × Nat × Nat)) : fOps (a ++ b) = fOps a ++ fOps b := by simp [fOps]
theorem l9All_l (m : Int) (R : List (List S62)) (hR : R.length ≤ 4) : ∀ (r pre : List (List S62)) (acc : List S62), pre ++ r = R → acc.length + cntN r ≤ 1000 →
    L (fun k => spec_l9All.l0 k acc (pre.length : Int) m R) = some (acc ++ fOps (flatR pre.length r))
  | [], pre, acc, hp, ha => by
    rw [L_shift]
    simp only [List.append_nil] at hp
    subst hp
    simp only [spec_l9All.l0, if_neg (show ¬ ((pre.length : Int) < (pre.length : Int)) by omega), L_const, flatR]
    simp [fOps]
  | x :: r, pre, acc, hp, ha => by
    rw [L_shift]
    have hl : R.length = pre.length + (r.length + 1) := by rw [← hp]; simp
    have e : rd_L5 R (pre.length : Int) = x := by rw [← hp]; exact getD_mid pre x r _
    rw [cntN] at ha
    have ih := l9All_l m R hR r (pre ++ [x]) (acc ++ x) (by rw [← hp]; simp) (by rw [List.length_append]; omega)
    simp only [spec_l9All.l0, if_pos (show (pre.length : Int) < (R.length : Int) by omega), le_nat, if_true, e, if_pos (show acc.length + x.length < 8796093022208 by omega), wrap_mid pre x (show pre.length < 4611686018427387904 by omega), ih]
    rw [flatR, fOps_app, flatI_ops, List.append_assoc]
    simp
theorem l9All_L (m : Int) (R : List (List S62)) (h : Shop9 m R) : L (fun k => spec_l9All.f k m R) = some (fOps (flatR 0 R)) := by
  have := l9All_l m R h.len R [] [] rfl (by have := h.cnt; simp; omega)
  simpa [spec_l9All.f] using this
/-- One round over the arcs: each arc lays its end behind its start. -/
def relF (t : Int → Int) : List S43 → List Int → Bool → List Int × Bool
  | [], h, c => (h, c)
  | p :: r, h, c => if rd h p.f0 + t p.f0 > rd h p.f1 then relF t r (h.set p.f1.toNat (rd h p.f0 + t p.f0)) true else relF t r h c
def bfF (t : Int → Int) (A : List S43) : Nat → List Int → Option (List Int)
  | 0, _ => none
  | n + 1, h => if (relF t A h false).2 = true then bfF t A n (relF t A h false).1 else some (relF t A h false).1
theorem rd_set (h : List Int) (x y v : Int) (hx : 0 ≤ x) (hx1 : x < (h.length : Int)) (hy : 0 ≤ y) : rd (h.set x.toNat v) y = if y = x then v else rd h y := by
  simp only [rd, List.getD_eq_getElem?_getD, List.getElem?_set]
  by_cases e : y = x
  · subst e
    simp only [if_true]
    rw [if_pos (by omega)]
    rfl
  · rw [if_neg (show ¬ x.toNat = y.toNat by omega), if_neg e]
def InN (N : Nat) (A : List S43) : Prop := ∀ p ∈ A, (0 ≤ p.f0 ∧ p.f0 < (N : Int)) ∧ (0 ≤ p.f1 ∧ p.f1 < (N : Int))
theorem relF_len (t : Int → Int) : ∀ (A : List S43) (h : List Int) (c : Bool), (relF t A h c).1.length = h.length
  | [], h, c => rfl
  | p :: r, h, c => by
    rw [relF]
    split
    · rw [relF_len t r, List.length_set]
    · exact relF_len t r h c
theorem relF_true (t : Int → Int) : ∀ (A : List S43) (h : List Int), (relF t A h true).2 = true
  | [], h => rfl
  | p :: r, h => by
    rw [relF]
    split <;> exact relF_true t r _
theorem relF_mono (t : Int → Int) (N : Nat) : ∀ (A : List S43) (h : List Int) (c : Bool), InN N A → h.length = N → ∀ x, 0 ≤ x → rd h x ≤ rd (relF t A h c).1 x
  | [], h, c, _, _, x, _ => Int.le_refl _
  | p :: r, h, c, hA, hl, x, hx => by
    have hp := hA p List.mem_cons_self
    have hr : InN N r := fun q hq => hA q (List.mem_cons_of_mem _ hq)
    rw [relF]
    split
    · next hg =>
      have h1 := relF_mono t N r (h.set p.f1.toNat (rd h p.f0 + t p.f0)) true hr (by rw [List.length_set]; exact hl) x hx
      rw [rd_set h p.f1 x _ hp.2.1 (by omega) hx] at h1
      split at h1
      · next e => subst e; omega
      · exact h1
    · exact relF_mono t N r h c hr hl x hx
/-- A round without a change: all arcs hold. -/
theorem relF_fix (t : Int → Int) : ∀ (A : List S43) (h : List Int), (relF t A h false).2 = false → (relF t A h false).1 = h ∧ ∀ p ∈ A, rd h p.f0 + t p.f0 ≤ rd h p.f1
  | [], h, _ => ⟨rfl, by simp⟩
  | p :: r, h, hc => by
    rw [relF] at hc ⊢
    split at hc
    · rw [relF_true] at hc; cases hc
    · next hg =>
      rw [if_neg hg]
      obtain ⟨h1, h2⟩ := relF_fix t r h hc
      refine ⟨h1, fun q hq => ?_⟩
      rcases List.mem_cons.1 hq with rfl | hq
      · omega
      · exact h2 q hq
/-- What is behind nothing unfinished, and holds. -/
def Done9 (t : Int → Int) (A : List S43) (D : Int → Prop) (h : List Int) : Prop := ∀ p ∈ A, D p.f1 → D p.f0 ∧ rd h p.f0 + t p.f0 ≤ rd h p.f1
theorem relF_fin (t : Int → Int) (N : Nat) (A : List S43) (D : Int → Prop) : ∀ (r : List S43) (h : List Int) (c : Bool), (∀ p ∈ r, p ∈ A) → InN N A → h.length = N → Done9 t A D h → Done9 t A D (relF t r h c).1 ∧ ∀ x, 0 ≤ x → D x → rd (relF t r h c).1 x = rd h x
  | [], h, c, _, _, _, hf => ⟨hf, fun _ _ _ => rfl⟩
  | p :: r, h, c, hr, hA, hl, hf => by
    have hp := hA p (hr p List.mem_cons_self)
    have hr' : ∀ q ∈ r, q ∈ A := fun q hq => hr q (List.mem_cons_of_mem _ hq)
    rw [relF]
    split
    · next hg =>
      have hnd : ¬ D p.f1 := fun hd => by
        have := (hf p (hr p List.mem_cons_self) hd).2
        omega
      have hk : ∀ x, 0 ≤ x → D x → rd (h.set p.f1.toNat (rd h p.f0 + t p.f0)) x = rd h x := fun x hx hd => by
        rw [rd_set h p.f1 x _ hp.2.1 (by omega) hx, if_neg (fun (e : x = p.f1) => hnd (by rw [← e]; exact hd))]
      have hf2 : Done9 t A D (h.set p.f1.toNat (rd h p.f0 + t p.f0)) := fun q hq hd => by
        obtain ⟨h1, h2⟩ := hf q hq hd
        have hq' := hA q hq
        rw [hk _ hq'.1.1 h1, hk _ hq'.2.1 hd]
        exact ⟨h1, h2⟩
      obtain ⟨h1, h2⟩ := relF_fin t N A D r _ true hr' hA (by rw [List.length_set]; exact hl) hf2
      exact ⟨h1, fun x hx hd => by rw [h2 x hx hd, hk x hx hd]⟩
    · exact relF_fin t N A D r h c hr' hA hl hf
/-- After a round every arc that starts in D and was passed holds. -/
theorem relF_step (t : Int → Int) (N : Nat) (A : List S43) (D : Int → Prop) : ∀ (r : List S43) (h : List Int) (c : Bool), (∀ p ∈ r, p ∈ A) → InN N A → h.length = N → Done9 t A D h → ∀ p ∈ r, D p.f0 → rd (relF t r h c).1 p.f0 + t p.f0 ≤ rd (relF t r h c).1 p.f1
  | [], h, c, _, _, _, _, p, hp, _ => by cases hp
  | q :: r, h, c, hr, hA, hl, hf, p, hp, hd => by
    have hq := hA q (hr q List.mem_cons_self)
    have hr' : ∀ q ∈ r, q ∈ A := fun q hq => hr q (List.mem_cons_of_mem _ hq)
    have hrN : InN N r := fun q hq => hA q (hr' q hq)
    have h1 := relF_fin t N A D [q] h c (fun x hx => by rcases List.mem_singleton.1 hx with rfl; exact hr _ List.mem_cons_self) hA hl hf
    -- one arc, then the rest
    have e : relF t (q :: r) h c = relF t r (relF t [q] h c).1 (relF t [q] h c).2 := by
      simp only [relF]
      split <;> rfl
    have hl2 : (relF t [q] h c).1.length = N := by rw [relF_len]; exact hl
    rw [e]
    rcases List.mem_cons.1 hp with rfl | hp
    · have hfin := relF_fin t N A D r (relF t [p] h c).1 (relF t [p] h c).2 hr' hA hl2 h1.1
      have hm := relF_mono t N r (relF t [p] h c).1 (relF t [p] h c).2 hrN hl2 p.f1 hq.2.1
      rw [hfin.2 _ hq.1.1 hd]
      have hs : rd (relF t [p] h c).1 p.f0 + t p.f0 ≤ rd (relF t [p] h c).1 p.f1 := by
        have h0 := h1.2 p.f0 hq.1.1 hd
        rw [h0]
        simp only [relF]
        split
        · next hg =>
          rw [rd_set h p.f1 p.f1 _ hq.2.1 (by omega) hq.2.1, if_pos rfl]
          exact Int.le_refl _
        · next hg =>
          show rd h p.f0 + t p.f0 ≤ rd h p.f1
          omega
      omega
    · exact relF_step t N A D r _ _ hr' hA hl2 h1.1 p hp hd
theorem cnt_lt {α : Type} (p q : α → Bool) : ∀ (l : List α), (∀ y ∈ l, p y = true → q y = true) → (∃ a ∈ l, p a = false ∧ q a = true) → (l.filter p).length < (l.filter q).length
  | [], _, ⟨a, ha, _⟩ => by cases ha
  | x :: l, h, ⟨a, ha, h1, h2⟩ => by
    have hle : ∀ (l : List α), (∀ y ∈ l, p y = true → q y = true) → (l.filter p).length ≤ (l.filter q).length := by
      intro l
      induction l with
      | nil => intro _; exact Nat.le_refl _
      | cons y l ih =>
        intro h
        have := ih (fun z hz => h z (List.mem_cons_of_mem _ hz))
        have hy := h y List.mem_cons_self
        by_cases py : p y = true
        · rw [List.filter_cons_of_pos py, List.filter_cons_of_pos (hy py), List.length_cons, List.length_cons]; omega
        · rw [List.filter_cons_of_neg py]
          by_cases qy : q y = true
          · rw [List.filter_cons_of_pos qy, List.length_cons]; omega
          · rw [List.filter_cons_of_neg qy]; exact this
    have hl : ∀ y ∈ l, p y = true → q y = true := fun y hy => h y (List.mem_cons_of_mem _ hy)
    rcases List.mem_cons.1 ha with rfl | ha
    · have := hle l hl
      rw [List.filter_cons_of_neg (by simp [h1]), List.filter_cons_of_pos h2, List.length_cons]
      omega
    · have ih := cnt_lt p q l hl ⟨a, ha, h1, h2⟩
      have hx := h x List.mem_cons_self
      by_cases px : p x = true
      · rw [List.filter_cons_of_pos px, List.filter_cons_of_pos (hx px), List.length_cons, List.length_cons]; omega
      · rw [List.filter_cons_of_neg px]
        by_cases qx : q x = true
        · rw [List.filter_cons_of_pos qx, List.length_cons]; omega
        · rw [List.filter_cons_of_neg qx]; exact ih
def rankF (N : Nat) (h : List Int) (x : Int) : Nat := ((List.range N).filter (fun (y : Nat) => decide (rd h (y : Int) < rd h x))).length
theorem rankF_lt (N : Nat) (h : List Int) (x : Int) (h0 : 0 ≤ x) (h1 : x < (N : Int)) : rankF N h x < N := by
  have := cnt_lt (fun (y : Nat) => decide (rd h (y : Int) < rd h x)) (fun _ => true) (List.range N) (fun _ _ _ => rfl) ⟨x.toNat, by rw [List.mem_range]; omega, by rw [Int.toNat_of_nonneg h0]; simp, rfl⟩
  rw [List.filter_eq_self.2 (fun _ _ => rfl), List.length_range] at this
  exact this
theorem rankF_mono (N : Nat) (h : List Int) (a b : Int) (h0 : 0 ≤ a) (h1 : a < (N : Int)) (hab : rd h a < rd h b) : rankF N h a < rankF N h b := by
  refine cnt_lt _ _ (List.range N) (fun y _ hy => ?_) ⟨a.toNat, by rw [List.mem_range]; omega, by rw [Int.toNat_of_nonneg h0]; simp, by rw [Int.toNat_of_nonneg h0]; simpa using hab⟩
  simp only [decide_eq_true_eq] at hy ⊢
  omega
theorem relF_all (t : Int → Int) : ∀ (A : List S43) (h : List Int), (∀ p ∈ A, rd h p.f0 + t p.f0 ≤ rd h p.f1) → relF t A h false = (h, false)
  | [], h, _ => rfl
  | p :: r, h, hA => by
    have := hA p List.mem_cons_self
    rw [relF, if_neg (by omega)]
    exact relF_all t r h (fun q hq => hA q (List.mem_cons_of_mem _ hq))
/-- Where heads stand at last, any other order of the arcs stands at last, too. -/
theorem bfF_other (t : Int → Int) (N : Nat) (A : List S43) (hA : InN N A) (ht : ∀ p ∈ A, 1 ≤ t p.f0) (F : List Int) (hF : ∀ p ∈ A, rd F p.f0 + t p.f0 ≤ rd F p.f1) : ∀ (n k : Nat) (g : List Int), n + k = N → g.length = N → Done9 t A (fun x => 0 ≤ x ∧ x < (N : Int) ∧ rankF N F x < k) g → (bfF t A (n + 1) g).isSome = true
  | 0, k, g, hk, hl, hf => by
    have h0 := relF_all t A g (fun p hp => by
      have hp' := hA p hp
      exact (hf p hp ⟨hp'.2.1, hp'.2.2, by have := rankF_lt N F p.f1 hp'.2.1 hp'.2.2; omega⟩).2)
    rw [bfF, h0]
    rfl
  | n + 1, k, g, hk, hl, hf => by
    rw [bfF]
    split
    · next hc =>
      refine bfF_other t N A hA ht F hF n (k + 1) _ (by omega) (by rw [relF_len]; exact hl) ?_
      intro p hp hd
      have hp' := hA p hp
      have hlt : rd F p.f0 < rd F p.f1 := by have := hF p hp; have := ht p hp; omega
      have hr := rankF_mono N F p.f0 p.f1 hp'.1.1 hp'.1.2 hlt
      have hd0 : (0 ≤ p.f0 ∧ p.f0 < (N : Int) ∧ rankF N F p.f0 < k) := ⟨hp'.1.1, hp'.1.2, by have := hd.2.2; omega⟩
      exact ⟨⟨hp'.1.1, hp'.1.2, by omega⟩, relF_step t N A _ A g false (fun _ h => h) hA hl hf p hp hd0⟩
    · rfl
theorem bfF_end (t : Int → Int) (A : List S43) : ∀ (n : Nat) (h F : List Int), bfF t A n h = some F → ∀ p ∈ A, rd F p.f0 + t p.f0 ≤ rd F p.f1
  | 0, h, F, e => by cases e
  | n + 1, h, F, e => by
    rw [bfF] at e
    split at e
    · exact bfF_end t A n _ F e
    · next hc =>
      obtain ⟨h1, h2⟩ := relF_fix t A h (by simpa using hc)
      injection e with e
      rw [← e, h1]
      exact h2
theorem bfF_same (t : Int → Int) (N : Nat) (A B : List S43) (hA : InN N A) (ht : ∀ p ∈ A, 1 ≤ t p.f0) (hs : ∀ p, p ∈ A ↔ p ∈ B) (g : List Int) (hg : g.length = N) : (bfF t A (N + 1) g).isSome = (bfF t B (N + 1) g).isSome := by
  have hone : ∀ A B : List S43, InN N B → (∀ p ∈ B, 1 ≤ t p.f0) → (∀ p ∈ B, p ∈ A) → (bfF t A (N + 1) g).isSome = true → (bfF t B (N + 1) g).isSome = true := by
    intro A B hB htB hsub h
    obtain ⟨F, hF⟩ := Option.isSome_iff_exists.1 h
    have hF2 := bfF_end t A _ g F hF
    exact bfF_other t N B hB htB F (fun p hp => hF2 p (hsub p hp)) N 0 g (by omega) hg (fun p _ hd => absurd hd.2.2 (by omega))
  rw [Bool.eq_iff_iff]
  exact ⟨hone A B (fun p hp => hA p ((hs p).2 hp)) (fun p hp => ht p ((hs p).2 hp)) (fun p hp => (hs p).2 hp), hone B A hA ht (fun p hp => (hs p).1 hp)⟩
def fPair (F : List (S62 × Nat × Nat)) : List S43 := F.map (fun x => (⟨(x.2.1 : Int), (x.2.2 : Int)⟩ : S43))
theorem fPair_app (a b : List (S62 × Nat × Nat)) : fPair (a ++ b) = fPair a ++ fPair b := by simp [fPair]
mutual
theorem specOps_l (m : Int) (R : List (List S62)) (hR : R.length ≤ 4) (hRr : ∀ x ∈ R, x.length ≤ 1048576) : ∀ (r pre : List (List S62)) (acc : List S43), pre ++ r = R → acc.length + cntN r ≤ 1000 →
    L (fun k => spec_l9Ops.l0 k acc (pre.length : Int) m R) = some (acc ++ fPair (flatR pre.length r))
  | [], pre, acc, hp, ha => by
    rw [L_shift]
    simp only [List.append_nil] at hp
    subst hp
    simp only [spec_l9Ops.l0, Int.lt_irrefl, if_false, L_const, flatR]
    simp [fPair]
  | x :: r, pre, acc, hp, ha => by
    rw [L_shift]
    have hl : R.length = pre.length + (r.length + 1) := by rw [← hp]; simp
    have i1 := specOps_in m R hR hRr x r pre hp x [] acc rfl (by rw [cntN] at ha; exact ha)
    simp only [spec_l9Ops.l0, if_pos (show (pre.length : Int) < (R.length : Int) by omega)]
    rw [flatR, fPair_app, ← List.append_assoc]
    exact i1
  termination_by r => (r.length, 0, 0)
theorem specOps_in (m : Int) (R : List (List S62)) (hR : R.length ≤ 4) (hRr : ∀ x ∈ R, x.length ≤ 1048576) (x : List S62) (r pre : List (List S62)) (hp : pre ++ x :: r = R) : ∀ (s q : List S62) (acc : List S43), q ++ s = x → acc.length + (s.length + cntN r) ≤ 1000 →
    L (fun k => spec_l9Ops.l1 k acc (pre.length : Int) (q.length : Int) m R) = some (acc ++ fPair (flatI pre.length q.length s) ++ fPair (flatR (pre.length + 1) r))
  | [], q, acc, hq, ha => by
    rw [L_shift]
    simp only [List.append_nil] at hq
    subst hq
    have hl : R.length = pre.length + (r.length + 1) := by rw [← hp]; simp
    have e : rd_L5 R (pre.length : Int) = q := by rw [← hp]; exact getD_mid pre q r _
    have i1 := specOps_l m R hR hRr r (pre ++ [q]) acc (by rw [← hp]; simp) (by simpa using ha)
    simp only [spec_l9Ops.l1, le_nat, if_true, if_pos (show (pre.length : Int) < (R.length : Int) by omega), e, Int.lt_irrefl, if_false, wrap_mid pre q (show pre.length < 4611686018427387904 by omega), i1]
    simp [flatI, fPair]
  | y :: s, q, acc, hq, ha => by
    rw [L_shift]
    have hl : R.length = pre.length + (r.length + 1) := by rw [← hp]; simp
    have e : rd_L5 R (pre.length : Int) = x := by rw [← hp]; exact getD_mid pre x r _
    have hx := hRr x (by rw [← hp]; simp)
    have hxl : x.length = q.length + (s.length + 1) := by rw [← hq]; simp
    simp only [List.length_cons] at ha
    have i1 := specOps_in m R hR hRr x r pre hp s (q ++ [y]) (acc ++ [(⟨(pre.length : Int), (q.length : Int)⟩ : S43)]) (by rw [← hq]; simp) (by simp; omega)
    simp only [spec_l9Ops.l1, le_nat, if_true, if_pos (show (pre.length : Int) < (R.length : Int) by omega), e, if_pos (show (q.length : Int) < (x.length : Int) by omega), if_pos (show acc.length < 8796093022208 by omega), wrap_mid q y (show q.length < 4611686018427387904 by omega), i1]
    simp [flatI, fPair]
  termination_by s => (r.length, 1, s.length)
end
def selRow (W x : List Int) : Bool := W.all (fun a => decide (a ∈ x)) && decide ((x.length : Int) = (W.length : Int))
def selF (O : List S62) : Nat → List (List Int) → Bool
  | _, [] => true
  | k, x :: r => selRow (onF (k : Int) 0 O) x && selF O (k + 1) r
/-- Each value is nought or stands behind an arc. -/
def Ach (t : Int → Int) (A : List S43) (h : List Int) : Prop := ∀ b, 0 ≤ b → rd h b = 0 ∨ ∃ p ∈ A, p.f1 = b ∧ rd h b ≤ rd h p.f0 + t p.f0
theorem relF_ach (t : Int → Int) (N : Nat) (A : List S43) (hA : InN N A) (ht : ∀ p ∈ A, 0 ≤ t p.f0) : ∀ (r : List S43) (h : List Int) (c : Bool), (∀ p ∈ r, p ∈ A) → h.length = N → Ach t A h → Ach t A (relF t r h c).1
  | [], h, c, _, _, ha => ha
  | p :: r, h, c, hr, hl, ha => by
    have hpA := hr p List.mem_cons_self
    have hp := hA p hpA
    have hr' : ∀ q ∈ r, q ∈ A := fun q hq => hr q (List.mem_cons_of_mem _ hq)
    rw [relF]
    split
    · next hg =>
      refine relF_ach t N A hA ht r _ true hr' (by rw [List.length_set]; exact hl) ?_
      intro b hb
      rw [rd_set h p.f1 b _ hp.2.1 (by omega) hb]
      by_cases e : b = p.f1
      · rw [if_pos e]
        refine .inr ⟨p, hpA, e.symm, ?_⟩
        rw [rd_set h p.f1 p.f0 _ hp.2.1 (by omega) hp.1.1]
        have := ht p hpA
        split <;> omega
      · rw [if_neg e]
        rcases ha b hb with h0 | ⟨q, hq, e2, h2⟩
        · exact .inl h0
        · refine .inr ⟨q, hq, e2, ?_⟩
          have hq' := hA q hq
          rw [rd_set h p.f1 q.f0 _ hp.2.1 (by omega) hq'.1.1]
          split
          · next e3 =>
            have h3 : rd h q.f0 = rd h p.f1 := by rw [e3]
            omega
          · exact h2
    · exact relF_ach t N A hA ht r h c hr' hl ha
theorem bfF_ach (t : Int → Int) (N : Nat) (A : List S43) (hA : InN N A) (ht : ∀ p ∈ A, 0 ≤ t p.f0) : ∀ (n : Nat) (h F : List Int), h.length = N → Ach t A h → bfF t A n h = some F → Ach t A F ∧ F.length = N
  | 0, h, F, _, _, e => by cases e
  | n + 1, h, F, hl, ha, e => by
    have h1 := relF_ach t N A hA ht A h false (fun _ h => h) hl ha
    have h2 : (relF t A h false).1.length = N := by rw [relF_len]; exact hl
    rw [bfF] at e
    split at e
    · exact bfF_ach t N A hA ht n _ F h2 h1 e
    · injection e with e
      rw [← e]
      exact ⟨h1, h2⟩
def itF (t : Int → Int) (A : List S43) : Nat → List Int → List Int
  | 0, h => h
  | n + 1, h => itF t A n (relF t A h false).1
theorem itF_same (t : Int → Int) (A : List S43) (h : List Int) (hs : ∀ p ∈ A, rd h p.f0 + t p.f0 ≤ rd h p.f1) : ∀ n, itF t A n h = h
  | 0 => rfl
  | n + 1 => by rw [itF, relF_all t A h hs]; exact itF_same t A h hs n
theorem itF_fix (t : Int → Int) (A : List S43) : ∀ (n : Nat) (h : List Int), (bfF t A (n + 1) h).isSome = true → ∀ p ∈ A, rd (itF t A n h) p.f0 + t p.f0 ≤ rd (itF t A n h) p.f1
  | 0, h, hb => by
    rw [bfF] at hb
    split at hb
    · cases hb
    · next hc => exact (relF_fix t A h (by simpa using hc)).2
  | n + 1, h, hb => by
    rw [bfF] at hb
    split at hb
    · rw [itF]
      exact itF_fix t A n _ hb
    · next hc =>
      obtain ⟨h1, h2⟩ := relF_fix t A h (by simpa using hc)
      rw [itF_same t A h h2 (n + 1)]
      exact h2
theorem itF_ach (t : Int → Int) (N : Nat) (A : List S43) (hA : InN N A) (ht : ∀ p ∈ A, 0 ≤ t p.f0) : ∀ (n : Nat) (h : List Int), h.length = N → Ach t A h → Ach t A (itF t A n h) ∧ (itF t A n h).length = N
  | 0, h, hl, ha => ⟨ha, hl⟩
  | n + 1, h, hl, ha => itF_ach t N A hA ht n _ (by rw [relF_len]; exact hl) (relF_ach t N A hA ht A h false (fun _ h => h) hl ha)
theorem itF_nn (t : Int → Int) (N : Nat) (A : List S43) (hA : InN N A) : ∀ (n : Nat) (h : List Int), h.length = N → (∀ x, 0 ≤ x → 0 ≤ rd h x) → ∀ x, 0 ≤ x → 0 ≤ rd (itF t A n h) x
  | 0, h, hl, h0, x, hx => h0 x hx
  | n + 1, h, hl, h0, x, hx => itF_nn t N A hA n _ (by rw [relF_len]; exact hl) (fun y hy => Int.le_trans (h0 y hy) (relF_mono t N A h false hA hl y hy)) x hx
def revA (A : List S43) : List S43 := A.map (fun p => (⟨p.f1, p.f0⟩ : S43))
theorem mem_revA {A : List S43} {p : S43} : p ∈ revA A ↔ (⟨p.f1, p.f0⟩ : S43) ∈ A := by
  constructor
  · intro h
    obtain ⟨q, hq, rfl⟩ := List.mem_map.1 h
    exact hq
  · intro h
    exact List.mem_map.2 ⟨_, h, rfl⟩
theorem revA_in {N : Nat} {A : List S43} (h : InN N A) : InN N (revA A) := fun p hp => by
  have := h _ (mem_revA.1 hp)
  exact ⟨this.2, this.1⟩
/-- A head, the job and the tail behind it are no longer than the longest head with its job. -/
theorem dual_le (t : Int → Int) (N : Nat) (A : List S43) (hA : InN N A) (ht : ∀ x, 0 ≤ x → x < (N : Int) → 1 ≤ t x) (F H : List Int) (hF : ∀ p ∈ A, rd F p.f0 + t p.f0 ≤ rd F p.f1) (hH : ∀ a, 0 ≤ a → rd H a = 0 ∨ ∃ p ∈ A, p.f0 = a ∧ rd H a ≤ rd H p.f1 + t p.f1) (B : Int) (hL : ∀ x, 0 ≤ x → x < (N : Int) → rd F x + t x ≤ B) :
    ∀ (n : Nat) (a : Int), 0 ≤ a → a < (N : Int) → (B - rd F a).toNat ≤ n → rd F a + t a + rd H a ≤ B
  | 0, a, h0, h1, hn => by
    have := hL a h0 h1
    have := ht a h0 h1
    omega
  | n + 1, a, h0, h1, hn => by
    have hl := hL a h0 h1
    have h2 := ht a h0 h1
    rcases hH a h0 with e | ⟨p, hp, e, hle⟩
    · omega
    · have hp' := hA p hp
      have h3 := hF p hp
      rw [e] at h3
      have h4 := hL p.f1 hp'.2.1 hp'.2.2
      have h5 := ht p.f1 hp'.2.1 hp'.2.2
      have ih := dual_le t N A hA ht F H hF hH B hL n p.f1 hp'.2.1 hp'.2.2 (by omega)
      omega
theorem dual_eq (t : Int → Int) (N : Nat) (A : List S43) (hA : InN N A) (ht : ∀ x, 0 ≤ x → x < (N : Int) → 1 ≤ t x) (F H : List Int) (hF : ∀ p ∈ A, rd F p.f0 + t p.f0 ≤ rd F p.f1) (hF2 : Ach t A F) (hF0 : ∀ x, 0 ≤ x → 0 ≤ rd F x)
    (hG : ∀ p ∈ revA A, rd H p.f0 + t p.f0 ≤ rd H p.f1) (hG2 : Ach t (revA A) H) (hG0 : ∀ x, 0 ≤ x → 0 ≤ rd H x) (B : Int) : (∀ x, 0 ≤ x → x < (N : Int) → rd F x + t x ≤ B) ↔ (∀ x, 0 ≤ x → x < (N : Int) → rd H x + t x ≤ B) := by
  constructor
  · intro hL x h0 h1
    have := dual_le t N A hA ht F H hF (fun a ha => (hG2 a ha).imp id (fun ⟨p, hp, e, h⟩ => ⟨_, mem_revA.1 hp, e, h⟩)) B hL _ x h0 h1 (Nat.le_refl _)
    have := hF0 x h0
    omega
  · intro hL x h0 h1
    have := dual_le t N (revA A) (revA_in hA) ht H F hG (fun a ha => (hF2 a ha).imp id (fun ⟨p, hp, e, h⟩ => ⟨⟨p.f1, p.f0⟩, mem_revA.2 hp, e, h⟩)) B hL _ x h0 h1 (Nat.le_refl _)
    have := hG0 x h0
    omega
/-- A row of arcs that stands at last stands at last when it is read backwards. -/
theorem bfF_rev (t : Int → Int) (N : Nat) (A : List S43) (hA : InN N A) (ht : ∀ x, 0 ≤ x → x < (N : Int) → 1 ≤ t x) (F : List Int) (hF : ∀ p ∈ A, rd F p.f0 + t p.f0 ≤ rd F p.f1) (g : List Int) (hg : g.length = N) : (bfF t (revA A) (N + 1) g).isSome = true := by
  have hC : ∀ x : Nat, rd ((List.range N).map (fun i : Nat => - rd F (i : Int) - t (i : Int))) (x : Int) = if x < N then - rd F (x : Int) - t (x : Int) else 0 := by
    intro x
    simp only [rd, Int.toNat_natCast, List.getD_eq_getElem?_getD, List.getElem?_map]
    by_cases hx : x < N
    · rw [if_pos hx, List.getElem?_range hx]; rfl
    · rw [if_neg hx, List.getElem?_eq_none (by simpa using hx)]; rfl
  refine bfF_other t N (revA A) (revA_in hA) (fun p hp => ht _ (revA_in hA p hp).1.1 (revA_in hA p hp).1.2) ((List.range N).map (fun i : Nat => - rd F (i : Int) - t (i : Int))) (fun p hp => ?_) N 0 g (by omega) hg (fun p _ hd => absurd hd.2.2 (by omega))
  have h1 := hF _ (mem_revA.1 hp)
  have h2 := revA_in hA p hp
  obtain ⟨a, ha⟩ : ∃ a : Nat, p.f0 = (a : Int) := ⟨p.f0.toNat, by omega⟩
  obtain ⟨b, hb⟩ : ∃ b : Nat, p.f1 = (b : Int) := ⟨p.f1.toNat, by omega⟩
  rw [ha, hb] at h1 h2 ⊢
  rw [hC a, hC b, if_pos (by omega), if_pos (by omega)]
  simp only at h1
  omega
/-- The tails, told by what stands behind each job. -/
def TH (t : Int → Int) (N : Nat) (T H : List Int) : Prop := T.length = N ∧ H.length = N ∧ ∀ x, 0 ≤ x → x < (N : Int) → rd T x = rd H x + t x
theorem TH_step {t : Int → Int} {N : Nat} {T H : List Int} (h : TH t N T H) (a b : Int) (ha : 0 ≤ a ∧ a < (N : Int)) (hb : 0 ≤ b ∧ b < (N : Int)) :
    TH t N (T.set a.toNat (max (rd T a) (t a + rd T b))) (if rd H b + t b > rd H a then H.set a.toNat (rd H b + t b) else H) := by
  obtain ⟨h1, h2, h3⟩ := h
  refine ⟨by rw [List.length_set]; exact h1, by split <;> simp [h2], fun x hx hx2 => ?_⟩
  have ea := h3 a ha.1 ha.2
  have eb := h3 b hb.1 hb.2
  have ex := h3 x hx hx2
  rw [rd_set T a x _ ha.1 (by omega) hx]
  by_cases hg : rd H b + t b > rd H a
  · rw [if_pos hg, rd_set H a x _ ha.1 (by omega) hx]
    by_cases e : x = a
    · rw [if_pos e, if_pos e, e]; omega
    · rw [if_neg e, if_neg e]; exact ex
  · rw [if_neg hg]
    by_cases e : x = a
    · rw [if_pos e, e]; omega
    · rw [if_neg e]; exact ex
theorem relF_rev (t : Int → Int) (p : S43) (s : List S43) (H : List Int) (c : Bool) : ∃ c', relF t (revA (p :: s)) H c = relF t (revA s) (if rd H p.f1 + t p.f1 > rd H p.f0 then H.set p.f0.toNat (rd H p.f1 + t p.f1) else H) c' := by
  simp only [revA, List.map_cons, relF]
  split
  · exact ⟨true, rfl⟩
  · exact ⟨c, rfl⟩
/-- The longest of a row. -/
theorem maxTo_le (B : Int) : ∀ (l : List Int) (v : Int), maxTo v l ≤ B ↔ v ≤ B ∧ ∀ x ∈ l, x ≤ B
  | [], v => by simp [maxTo]
  | y :: l, v => by
    have ih := maxTo_le B l (max v y)
    simp only [maxTo, List.foldl_cons] at ih ⊢
    rw [ih]
    simp only [List.mem_cons, forall_eq_or_imp]
    exact ⟨fun h => ⟨by omega, by omega, h.2⟩, fun h => ⟨by omega, h.2.2⟩⟩
def opT (O : List S62) (a : Int) : Int := (rd_T62 O a).f1
theorem getDZ_mem (O : List S62) (a : Int) (h0 : 0 ≤ a) (h1 : a < (O.length : Int)) : rd_T62 O a ∈ O := by
  show O.getD a.toNat _ ∈ O
  rw [List.getD_eq_getElem?_getD, List.getElem?_eq_getElem (by omega)]
  exact List.getElem_mem _
theorem relF_bd (O : List S62) (N : Nat) (hO : O.length = N) (hT : ∀ x ∈ O, 0 ≤ x.f1 ∧ x.f1 ≤ 100) : ∀ (A : List S43) (h : List Int) (c : Bool) (B : Int), InN N A → h.length = N → (∀ x, 0 ≤ x → 0 ≤ rd h x ∧ rd h x ≤ B) → ∀ x, 0 ≤ x → 0 ≤ rd (relF (opT O) A h c).1 x ∧ rd (relF (opT O) A h c).1 x ≤ B + 100 * (A.length : Int)
  | [], h, c, B, _, _, hb, x, hx => by simpa [relF] using hb x hx
  | p :: r, h, c, B, hA, hl, hb, x, hx => by
    have hp := hA p List.mem_cons_self
    have hr : InN N r := fun q hq => hA q (List.mem_cons_of_mem _ hq)
    have h0 := hb p.f0 hp.1.1
    have ht : 0 ≤ opT O p.f0 ∧ opT O p.f0 ≤ 100 := by
      have : rd_T62 O p.f0 ∈ O := getDZ_mem O p.f0 hp.1.1 (by omega)
      exact hT _ this
    simp only [List.length_cons]
    rw [relF]
    split
    · have := relF_bd O N hO hT r (h.set p.f1.toNat (rd h p.f0 + opT O p.f0)) true (B + 100) hr (by rw [List.length_set]; exact hl) (fun y hy => by
        rw [rd_set h p.f1 y _ hp.2.1 (by omega) hy]
        have := hb y hy
        split <;> omega) x hx
      omega
    · have := relF_bd O N hO hT r h c B hr hl hb x hx
      omega
theorem opT_bd {O : List S62} {N : Nat} (hO : O.length = N) (hT : ∀ x ∈ O, 0 ≤ x.f1 ∧ x.f1 ≤ 100) {a : Int} (h0 : 0 ≤ a) (h1 : a < (N : Int)) : 0 ≤ opT O a ∧ opT O a ≤ 100 := hT _ (getDZ_mem O a h0 (by omega))
theorem startsIn (O : List S62) (N : Nat) (hO : O.length = N) (hT : ∀ x ∈ O, 0 ≤ x.f1 ∧ x.f1 ≤ 100) (A : List S43) (hA : InN N A) (hAl : A.length ≤ 3000000) (rnd : Int) : ∀ (s q : List S43) (h : List Int) (c : Bool) (B : Int), q ++ s = A → h.length = N → (∀ x, 0 ≤ x → 0 ≤ rd h x ∧ rd h x ≤ B) → B + 100 * (s.length : Int) ≤ 1000000000000000 →
    L (fun k => spec_l9Starts.l1 k A O h rnd c (q.length : Int)) = if (relF (opT O) s h c).2 = true then L (fun k => spec_l9Starts.l0 k A O (relF (opT O) s h c).1 (wrap64 (rnd + 1))) else some ((relF (opT O) s h c).1, true)
  | [], q, h, c, B, hq, hl, hb, hB => by
    rw [L_shift]
    simp only [List.append_nil] at hq
    subst hq
    simp only [spec_l9Starts.l1, Int.lt_irrefl, if_false, L_ite, L_const, relF]
    cases c <;> simp
  | p :: s, q, h, c, B, hq, hl, hb, hB => by
    rw [L_shift]
    have hp := hA p (by rw [← hq]; simp)
    have hAq : A.length = q.length + (s.length + 1) := by rw [← hq]; simp
    have e : rd_T43 A (q.length : Int) = p := by rw [← hq]; exact getD_mid q p s _
    have ht := opT_bd hO hT hp.1.1 hp.1.2
    have h0 := hb p.f0 hp.1.1
    have et : (rd_T62 O p.f0).f1 = opT O p.f0 := rfl
    simp only [List.length_cons] at hB
    have hw := wrap_id (show -9223372036854775808 ≤ rd h p.f0 + opT O p.f0 by omega) (show rd h p.f0 + opT O p.f0 ≤ 9223372036854775807 by omega)
    simp only [spec_l9Starts.l1, if_pos (show (q.length : Int) < (A.length : Int) by omega), le_nat, if_true, e, hp.1.1, hp.2.1, if_pos (show p.f0 < (h.length : Int) by omega), if_pos (show p.f0 < (O.length : Int) by omega), if_pos (show p.f1 < (h.length : Int) by omega), et, hw, wrap_mid q p (show q.length < 4611686018427387904 by omega), L_ite]
    rw [relF]
    split
    · exact startsIn O N hO hT A hA hAl rnd s (q ++ [p]) _ true (B + 100) (by rw [← hq]; simp) (by rw [List.length_set]; exact hl) (fun y hy => by
        rw [rd_set h p.f1 y _ hp.2.1 (by omega) hy]
        have := hb y hy
        split <;> omega) (by omega)
    · exact startsIn O N hO hT A hA hAl rnd s (q ++ [p]) h c B (by rw [← hq]; simp) hl hb (by omega)
theorem starts_l (O : List S62) (N : Nat) (hN : N ≤ 1000) (hO : O.length = N) (hT : ∀ x ∈ O, 0 ≤ x.f1 ∧ x.f1 ≤ 100) (A : List S43) (hA : InN N A) (hAl : A.length ≤ 3000000) : ∀ (n r : Nat) (h : List Int) (B : Int), n + r = N + 1 → h.length = N → (∀ x, 0 ≤ x → 0 ≤ rd h x ∧ rd h x ≤ B) → B + 300000000 * (n : Int) ≤ 1000000000000000 →
    ∃ h', L (fun k => spec_l9Starts.l0 k A O h (r : Int)) = some (h', (bfF (opT O) A n h).isSome)
  | 0, r, h, B, hn, hl, hb, hB => by
    refine ⟨h, ?_⟩
    rw [L_shift]
    simp only [spec_l9Starts.l0, if_neg (show ¬ ((r : Int) ≤ (O.length : Int)) by omega), L_const, bfF]
    rfl
  | n + 1, r, h, B, hn, hl, hb, hB => by
    have h1 := startsIn O N hO hT A hA hAl (r : Int) A [] h false B rfl hl hb (by omega)
    simp only [List.length_nil, Int.natCast_zero] at h1
    rw [wrap_id (show -9223372036854775808 ≤ (r : Int) + 1 by omega) (show (r : Int) + 1 ≤ 9223372036854775807 by omega), show (r : Int) + 1 = ((r + 1 : Nat) : Int) by omega] at h1
    have hbd := relF_bd O N hO hT A h false B hA hl hb
    rw [bfF]
    by_cases hc : (relF (opT O) A h false).2 = true
    · obtain ⟨h', e'⟩ := starts_l O N hN hO hT A hA hAl n (r + 1) (relF (opT O) A h false).1 (B + 100 * (A.length : Int)) (by omega) (by rw [relF_len]; exact hl) hbd (by omega)
      refine ⟨h', ?_⟩
      rw [L_shift]
      simp only [spec_l9Starts.l0, if_pos (show (r : Int) ≤ (O.length : Int) by omega), h1, hc, if_true, e']
    · refine ⟨(relF (opT O) A h false).1, ?_⟩
      rw [L_shift]
      simp only [spec_l9Starts.l0, if_pos (show (r : Int) ≤ (O.length : Int) by omega), h1, hc, Bool.false_eq_true, if_false]
      rfl
theorem headsIn (O : List S62) (a b : List Int) (N : Nat) (hO : O.length = N) (hT : ∀ x ∈ O, 0 ≤ x.f1 ∧ x.f1 ≤ 100) (A : List S43) (hA : InN N A) (hAl : A.length ≤ 3000000) (mx rnd : Int) : ∀ (s q : List S43) (h : List Int) (c : Bool) (B : Int), q ++ s = A → h.length = N → (∀ x, 0 ≤ x → 0 ≤ rd h x ∧ rd h x ≤ B) → B + 100 * (s.length : Int) ≤ 1000000000000000 →
    L (fun k => impl_flat_headsWith.l2 k A h c mx rnd A (A.length : Int) (q.length : Int) O a b) = if (relF (opT O) s h c).2 = true then L (fun k => impl_flat_headsWith.l1 k A (relF (opT O) s h c).1 mx (wrap64 (rnd + 1)) O a b) else some ((relF (opT O) s h c).1, true)
  | [], q, h, c, B, hq, hl, hb, hB => by
    rw [L_shift]
    simp only [List.append_nil] at hq
    subst hq
    simp only [impl_flat_headsWith.l2, Int.lt_irrefl, if_false, L_ite, L_const, relF]
    cases c <;> simp
  | p :: s, q, h, c, B, hq, hl, hb, hB => by
    rw [L_shift]
    have hp := hA p (by rw [← hq]; simp)
    have hAq : A.length = q.length + (s.length + 1) := by rw [← hq]; simp
    have e : rd_T43 A (q.length : Int) = p := by rw [← hq]; exact getD_mid q p s _
    have ht := opT_bd hO hT hp.1.1 hp.1.2
    have h0 := hb p.f0 hp.1.1
    have et : (rd_T62 O p.f0).f1 = opT O p.f0 := rfl
    simp only [List.length_cons] at hB
    have hw := wrap_id (show -9223372036854775808 ≤ rd h p.f0 + opT O p.f0 by omega) (show rd h p.f0 + opT O p.f0 ≤ 9223372036854775807 by omega)
    simp only [impl_flat_headsWith.l2, if_pos (show (q.length : Int) < (A.length : Int) by omega), le_nat, if_true, e, hp.1.1, hp.2.1, if_pos (show p.f0 < (h.length : Int) by omega), if_pos (show p.f0 < (O.length : Int) by omega), if_pos (show p.f1 < (h.length : Int) by omega), et, hw, wrap_mid q p (show q.length < 4611686018427387904 by omega), L_ite]
    rw [relF]
    split
    · exact headsIn O a b N hO hT A hA hAl mx rnd s (q ++ [p]) _ true (B + 100) (by rw [← hq]; simp) (by rw [List.length_set]; exact hl) (fun y hy => by
        rw [rd_set h p.f1 y _ hp.2.1 (by omega) hy]
        have := hb y hy
        split <;> omega) (by omega)
    · exact headsIn O a b N hO hT A hA hAl mx rnd s (q ++ [p]) h c B (by rw [← hq]; simp) hl hb (by omega)
theorem heads_l (O : List S62) (a b : List Int) (N : Nat) (hN : N ≤ 1000) (hO : O.length = N) (hT : ∀ x ∈ O, 0 ≤ x.f1 ∧ x.f1 ≤ 100) (A : List S43) (hA : InN N A) (hAl : A.length ≤ 3000000) : ∀ (n r : Nat) (h : List Int) (B : Int), n + r = N + 1 → h.length = N → (∀ x, 0 ≤ x → 0 ≤ rd h x ∧ rd h x ≤ B) → B + 300000000 * (n : Int) ≤ 1000000000000000 →
    ∃ h', L (fun k => impl_flat_headsWith.l1 k A h ((N : Int) + 1) (r : Int) O a b) = some (h', (bfF (opT O) A n h).isSome) ∧ h'.length ≤ N ∧ ∀ F, bfF (opT O) A n h = some F → h' = F
  | 0, r, h, B, hn, hl, hb, hB => by
    refine ⟨[], ?_, Nat.zero_le _, fun F e => by cases e⟩
    rw [L_shift]
    simp only [impl_flat_headsWith.l1, if_neg (show ¬ ((r : Int) < (N : Int) + 1) by omega), L_const, bfF]
    rfl
  | n + 1, r, h, B, hn, hl, hb, hB => by
    have h1 := headsIn O a b N hO hT A hA hAl ((N : Int) + 1) (r : Int) A [] h false B rfl hl hb (by omega)
    simp only [List.length_nil, Int.natCast_zero] at h1
    rw [wrap_id (show -9223372036854775808 ≤ (r : Int) + 1 by omega) (show (r : Int) + 1 ≤ 9223372036854775807 by omega), show (r : Int) + 1 = ((r + 1 : Nat) : Int) by omega] at h1
    have hbd := relF_bd O N hO hT A h false B hA hl hb
    rw [bfF]
    by_cases hc : (relF (opT O) A h false).2 = true
    · obtain ⟨h', e', l', f'⟩ := heads_l O a b N hN hO hT A hA hAl n (r + 1) (relF (opT O) A h false).1 (B + 100 * (A.length : Int)) (by omega) (by rw [relF_len]; exact hl) hbd (by omega)
      refine ⟨h', ?_, l', fun F e => f' F (by rw [if_pos hc] at e; exact e)⟩
      rw [L_shift]
      simp only [impl_flat_headsWith.l1, if_pos (show (r : Int) < (N : Int) + 1 by omega), h1, hc, if_true, e']
    · refine ⟨(relF (opT O) A h false).1, ?_, by rw [relF_len, hl]; exact Nat.le_refl _, fun F e => by rw [if_neg hc] at e; injection e⟩
      rw [L_shift]
      simp only [impl_flat_headsWith.l1, if_pos (show (r : Int) < (N : Int) + 1 by omega), h1, hc, Bool.false_eq_true, if_false]
      rfl
/-- The arcs of a row, of all rows. -/
def rowArcs : List Int → List S43
  | a :: b :: r => (⟨a, b⟩ : S43) :: rowArcs (b :: r)
  | _ => []
def ordArcs : List (List Int) → List S43
  | [] => []
  | x :: r => rowArcs x ++ ordArcs r
def nextArcs : Nat → List (S62 × Nat × Nat) → List S43
  | i, p :: q :: r => (if p.2.1 = q.2.1 then [(⟨(i : Int), (i : Int) + 1⟩ : S43)] else []) ++ nextArcs (i + 1) (q :: r)
  | _, _ => []
theorem nextArcs_in (N : Nat) : ∀ (s : List (S62 × Nat × Nat)) (i : Nat), i + s.length ≤ N → InN N (nextArcs i s)
  | [], i, _ => by intro p hp; cases hp
  | [a], i, _ => by intro p hp; cases hp
  | a :: b :: r, i, h => by
    intro p hp
    simp only [List.length_cons] at h
    rcases List.mem_append.1 (by rw [nextArcs] at hp; exact hp) with hp | hp
    · split at hp
      · rcases List.mem_singleton.1 hp with rfl
        exact ⟨⟨by simp, by simp; omega⟩, ⟨by simp; omega, by simp; omega⟩⟩
      · cases hp
    · exact nextArcs_in N (b :: r) (i + 1) (by simp only [List.length_cons]; omega) p hp
theorem nextArcs_len : ∀ (s : List (S62 × Nat × Nat)) (i : Nat), (nextArcs i s).length ≤ s.length
  | [], i => by simp [nextArcs]
  | [a], i => by simp [nextArcs]
  | a :: b :: r, i => by
    have := nextArcs_len (b :: r) (i + 1)
    rw [nextArcs, List.length_append]
    simp only [List.length_cons] at this ⊢
    split <;> simp <;> omega
theorem fRoute_get (F s : List (S62 × Nat × Nat)) (q : List (S62 × Nat × Nat)) (p : S62 × Nat × Nat) (h : q ++ p :: s = F) : rd (fRoute F) (q.length : Int) = (p.2.1 : Int) := by
  have : fRoute F = fRoute q ++ (p.2.1 : Int) :: fRoute s := by rw [← h]; simp [fRoute]
  rw [this, show (q.length : Int) = ((fRoute q).length : Int) by simp [fRoute]]
  exact getD_mid _ _ _ _
theorem fPair_get (F s : List (S62 × Nat × Nat)) (q : List (S62 × Nat × Nat)) (p : S62 × Nat × Nat) (h : q ++ p :: s = F) : rd_T43 (fPair F) (q.length : Int) = (⟨(p.2.1 : Int), (p.2.2 : Int)⟩ : S43) := by
  have : fPair F = fPair q ++ (⟨(p.2.1 : Int), (p.2.2 : Int)⟩ : S43) :: fPair s := by rw [← h]; simp [fPair]
  rw [this, show (q.length : Int) = ((fPair q).length : Int) by simp [fPair]]
  exact getD_mid _ _ _ _
theorem specNext_l (F : List (S62 × Nat × Nat)) (hF : F.length ≤ 1000) : ∀ (s q : List (S62 × Nat × Nat)) (acc : List S43), q ++ s = F → acc.length + s.length ≤ 2000 →
    L (fun k => spec_l9Next.l0 k acc (fPair F) (q.length : Int)) = some (acc ++ nextArcs q.length s)
  | [], q, acc, hq, ha => by
    rw [L_shift]
    have e1 : (fPair F).length = F.length := by simp [fPair]
    have hl : F.length = q.length := by rw [← hq]; simp
    simp only [spec_l9Next.l0, e1, wrap_id (show -9223372036854775808 ≤ (q.length : Int) + 1 by omega) (show (q.length : Int) + 1 ≤ 9223372036854775807 by omega), if_neg (show ¬ ((q.length : Int) + 1 < (F.length : Int)) by omega), L_const, nextArcs, List.append_nil]
  | [p], q, acc, hq, ha => by
    rw [L_shift]
    have e1 : (fPair F).length = F.length := by simp [fPair]
    have hl : F.length = q.length + 1 := by rw [← hq]; simp
    simp only [spec_l9Next.l0, e1, wrap_id (show -9223372036854775808 ≤ (q.length : Int) + 1 by omega) (show (q.length : Int) + 1 ≤ 9223372036854775807 by omega), if_neg (show ¬ ((q.length : Int) + 1 < (F.length : Int)) by omega), L_const, nextArcs, List.append_nil]
  | p :: p' :: s, q, acc, hq, ha => by
    rw [L_shift]
    have e1 : (fPair F).length = F.length := by simp [fPair]
    have hl : F.length = q.length + (s.length + 1 + 1) := by rw [← hq]; simp
    have g1 := fPair_get F (p' :: s) q p hq
    have g2 := fPair_get F s (q ++ [p]) p' (by rw [← hq]; simp)
    rw [show (((q ++ [p]).length : Nat) : Int) = (q.length : Int) + 1 by simp] at g2
    simp only [List.length_cons] at ha
    have i1 := specNext_l F hF (p' :: s) (q ++ [p]) (acc ++ [(⟨(q.length : Int), (q.length : Int) + 1⟩ : S43)]) (by rw [← hq]; simp) (by simp; omega)
    have i2 := specNext_l F hF (p' :: s) (q ++ [p]) acc (by rw [← hq]; simp) (by simp; omega)
    rw [show (((q ++ [p]).length : Nat) : Int) = (q.length : Int) + 1 by simp, show (q ++ [p]).length = q.length + 1 by simp] at i1 i2
    simp only [spec_l9Next.l0, e1, wrap_id (show -9223372036854775808 ≤ (q.length : Int) + 1 by omega) (show (q.length : Int) + 1 ≤ 9223372036854775807 by omega), if_pos (show (q.length : Int) + 1 < (F.length : Int) by omega), le_nat, if_true, if_pos (show (q.length : Int) < (F.length : Int) by omega), if_pos (show 0 ≤ (q.length : Int) + 1 by omega), g1, g2, if_pos (show acc.length < 8796093022208 by omega), L_ite, i1, i2]
    rw [nextArcs]
    by_cases hc : p.2.1 = p'.2.1
    · rw [if_pos (by rw [hc]), if_pos hc, List.append_assoc]
    · rw [if_neg (by omega), if_neg hc, List.nil_append]
theorem next_e (F : List (S62 × Nat × Nat)) (hF : F.length ≤ 1000) (i : Nat) (hi : i < F.length) : impl_flat_next.f (fOps F) (fRoute F) (fIdx F) (i : Int) = some (if (i : Int) + 1 < (F.length : Int) ∧ rd (fRoute F) ((i : Int) + 1) = rd (fRoute F) (i : Int) then (i : Int) + 1 else -1) := by
  have e1 : (fOps F).length = F.length := by simp [fOps]
  have e2 : (fRoute F).length = F.length := by simp [fRoute]
  unfold impl_flat_next.f
  simp only [e1, e2, wrap_id (show -9223372036854775808 ≤ (i : Int) + 1 by omega) (show (i : Int) + 1 ≤ 9223372036854775807 by omega), le_nat, if_true, if_pos (show 0 ≤ (i : Int) + 1 by omega), if_pos (show (i : Int) < (F.length : Int) by omega)]
  by_cases h1 : (i : Int) + 1 < (F.length : Int)
  · by_cases h2 : rd (fRoute F) ((i : Int) + 1) = rd (fRoute F) (i : Int)
    · simp only [h1, h2, if_true, and_self]
    · simp only [h1, h2, if_true, if_false, and_false]
  · simp only [h1, if_false, false_and]
theorem headsArcs_l (F : List (S62 × Nat × Nat)) (hF : F.length ≤ 1000) : ∀ (s q : List (S62 × Nat × Nat)) (acc : List S43), q ++ s = F → acc.length + s.length ≤ 4000000 →
    L (fun k => impl_flat_headsWith.l0 k acc (F.length : Int) (q.length : Int) (fOps F) (fRoute F) (fIdx F)) = L (fun k => impl_flat_headsWith.l1 k (acc ++ nextArcs q.length s) (List.replicate F.length 0) ((F.length : Int) + 1) 0 (fOps F) (fRoute F) (fIdx F))
  | [], q, acc, hq, ha => by
    rw [L_shift]
    have e1 : (fOps F).length = F.length := by simp [fOps]
    have hl : F.length = q.length := by rw [← hq]; simp
    simp only [impl_flat_headsWith.l0, e1, if_neg (show ¬ ((q.length : Int) < (F.length : Int)) by omega), le_nat, if_true, Int.toNat_natCast, if_pos (show F.length ≤ 35184372088832 by omega), wrap_id (show -9223372036854775808 ≤ (F.length : Int) + 1 by omega) (show (F.length : Int) + 1 ≤ 9223372036854775807 by omega), nextArcs, List.append_nil]
  | [p], q, acc, hq, ha => by
    rw [L_shift]
    have e1 : (fOps F).length = F.length := by simp [fOps]
    have hl : F.length = q.length + 1 := by rw [← hq]; simp
    have ih := headsArcs_l F hF [] (q ++ [p]) acc (by rw [← hq]; simp) (by simp at ha ⊢; omega)
    rw [show (((q ++ [p]).length : Nat) : Int) = (q.length : Int) + 1 by simp] at ih
    simp only [impl_flat_headsWith.l0, if_pos (show (q.length : Int) < (F.length : Int) by omega), next_e F hF q.length (by omega), if_neg (show ¬ ((q.length : Int) + 1 < (F.length : Int) ∧ rd (fRoute F) ((q.length : Int) + 1) = rd (fRoute F) (q.length : Int)) from fun h => absurd h.1 (by omega)), Option.bind_some, if_neg (show ¬ ((-1 : Int) ≥ 0) by decide), wrap_id (show -9223372036854775808 ≤ (q.length : Int) + 1 by omega) (show (q.length : Int) + 1 ≤ 9223372036854775807 by omega), ih, nextArcs, List.append_nil]
  | p :: p' :: s, q, acc, hq, ha => by
    rw [L_shift]
    have e1 : (fOps F).length = F.length := by simp [fOps]
    have hl : F.length = q.length + (s.length + 1 + 1) := by rw [← hq]; simp
    have g1 := fRoute_get F (p' :: s) q p hq
    have g2 := fRoute_get F s (q ++ [p]) p' (by rw [← hq]; simp)
    rw [show (((q ++ [p]).length : Nat) : Int) = (q.length : Int) + 1 by simp] at g2
    simp only [List.length_cons] at ha
    have i1 := headsArcs_l F hF (p' :: s) (q ++ [p]) (acc ++ [(⟨(q.length : Int), (q.length : Int) + 1⟩ : S43)]) (by rw [← hq]; simp) (by simp; omega)
    have i2 := headsArcs_l F hF (p' :: s) (q ++ [p]) acc (by rw [← hq]; simp) (by simp; omega)
    rw [show (((q ++ [p]).length : Nat) : Int) = (q.length : Int) + 1 by simp, show (q ++ [p]).length = q.length + 1 by simp] at i1 i2
    simp only [impl_flat_headsWith.l0, if_pos (show (q.length : Int) < (F.length : Int) by omega), next_e F hF q.length (by omega), g1, g2, Option.bind_some, wrap_id (show -9223372036854775808 ≤ (q.length : Int) + 1 by omega) (show (q.length : Int) + 1 ≤ 9223372036854775807 by omega), L_ite, if_pos (show acc.length < 8796093022208 by omega)]
    rw [nextArcs]
    by_cases hc : p.2.1 = p'.2.1
    · have hd : ((q.length : Int) + 1 < (F.length : Int) ∧ (p'.2.1 : Int) = (p.2.1 : Int)) := ⟨by omega, by omega⟩
      simp only [if_pos hd, if_pos (show (q.length : Int) + 1 ≥ 0 by omega), i1, if_pos hc, List.append_assoc]
    · have hd : ¬ ((q.length : Int) + 1 < (F.length : Int) ∧ (p'.2.1 : Int) = (p.2.1 : Int)) := fun h => hc (by omega)
      simp only [if_neg hd, if_neg (show ¬ ((-1 : Int) ≥ 0) by decide), i2, if_neg hc, List.nil_append]
theorem mem_flatR_op {m : Int} {R : List (List S62)} (h : Shop9 m R) : ∀ x ∈ fOps (flatR 0 R), 0 ≤ x.f1 ∧ x.f1 ≤ 100 ∧ 1 ≤ x.f1 := by
  intro x hx
  obtain ⟨p, hp, rfl⟩ := List.mem_map.1 hx
  obtain ⟨_, _, r, h1, h2⟩ := flatR_mem R 0 p hp
  have ho := h.op r (List.mem_of_getElem? h1) p.1 (List.mem_of_getElem? h2)
  have := ho.t0
  have := ho.t1
  omega
theorem bfF_bd (O : List S62) (N : Nat) (hO : O.length = N) (hT : ∀ x ∈ O, 0 ≤ x.f1 ∧ x.f1 ≤ 100) (A : List S43) (hA : InN N A) (hAl : A.length ≤ 3000000) : ∀ (n : Nat) (h F : List Int) (B : Int), h.length = N → (∀ x, 0 ≤ x → 0 ≤ rd h x ∧ rd h x ≤ B) → bfF (opT O) A n h = some F → ∀ x, 0 ≤ x → 0 ≤ rd F x ∧ rd F x ≤ B + 300000000 * (n : Int)
  | 0, h, F, B, _, _, e, _, _ => by cases e
  | n + 1, h, F, B, hl, hb, e, x, hx => by
    have hbd := relF_bd O N hO hT A h false B hA hl hb
    have h1 := hbd x hx
    rw [bfF] at e
    split at e
    · have := bfF_bd O N hO hT A hA hAl n _ F (B + 100 * (A.length : Int)) (by rw [relF_len]; exact hl) hbd e x hx
      omega
    · injection e with e
      rw [← e]
      omega
theorem szIntA2S_e (l : List S43) (v : Int) (h : l.length ≤ 9223372036854775807) (h0 : 0 ≤ v) (h1 : v ≤ 1048576) : laws_szIntA2S.f l v = some (if (l.length : Int) ≤ v then v - (l.length : Int) else -1) := by
  unfold laws_szIntA2S.f
  rw [wrap_id (show -9223372036854775808 ≤ v - (l.length : Int) by omega) (by omega)]
  by_cases h2 : (l.length : Int) ≤ v
  · rw [if_neg (by omega), if_pos h2]
  · rw [if_pos (by omega), if_neg h2]
theorem same_of_le {a b : Int} (h : ∀ B : Int, a ≤ B ↔ b ≤ B) : a = b := by
  have h1 := (h a).1 (Int.le_refl _)
  have h2 := (h b).2 (Int.le_refl _)
  omega
/-- Whether arcs are arcs: two different operations of one machine. -/
def arcB (O : List S62) (p : S43) : Bool := inB p.f0 0 ((O.length : Int) - 1) && (inB p.f1 0 ((O.length : Int) - 1) && (!decide (p.f0 = p.f1) && decide ((rd_T62 O p.f0).f0 = (rd_T62 O p.f1).f0)))
theorem pairs_l (O : List S62) (hO : O.length ≤ 1000) (A : List S43) (hA : A.length ≤ 3000000) : ∀ (r pre : List S43), pre ++ r = A → L (fun k => spec_l9Pairs.l0 k A O (pre.length : Int)) = some (r.all (arcB O))
  | [], pre, hp => by
    rw [L_shift]
    simp only [List.append_nil] at hp
    subst hp
    simp only [spec_l9Pairs.l0, Int.lt_irrefl, if_false, L_const, List.all_nil]
  | p :: r, pre, hp => by
    rw [L_shift]
    have hl : A.length = pre.length + (r.length + 1) := by rw [← hp]; simp
    have e : rd_T43 A (pre.length : Int) = p := by rw [← hp]; exact getD_mid pre p r _
    have ih := pairs_l O hO A hA r (pre ++ [p]) (by rw [← hp]; simp)
    have n1 : (pre.length : Int) < (A.length : Int) := by omega
    simp only [spec_l9Pairs.l0, if_pos n1, le_nat, if_true, e, wrap_id (show -9223372036854775808 ≤ (O.length : Int) - 1 by omega) (show (O.length : Int) - 1 ≤ 9223372036854775807 by omega), l1In_e, Option.bind_some, wrap_mid pre p (show pre.length < 4611686018427387904 by omega), List.all_cons]
    by_cases h1 : inB p.f0 0 ((O.length : Int) - 1) = true
    · have b1 := inB_iff.1 h1
      by_cases h2 : inB p.f1 0 ((O.length : Int) - 1) = true
      · have b2 := inB_iff.1 h2
        have m1 : p.f0 < (O.length : Int) := by omega
        have m2 : p.f1 < (O.length : Int) := by omega
        by_cases h3 : p.f0 = p.f1
        · simp only [h1, h2, if_true, if_pos h3, L_const, arcB, h3, decide_true, Bool.not_true, Bool.false_and, Bool.and_false]
        · by_cases h4 : (rd_T62 O p.f0).f0 = (rd_T62 O p.f1).f0
          · simp only [h1, h2, if_true, if_neg h3, b1.1, b2.1, if_pos m1, if_pos m2, if_pos h4, ih, arcB, h3, h4, if_false, if_true, decide_true, decide_false, Bool.not_false, Bool.and_self, Bool.true_and]
          · simp only [h1, h2, if_true, if_neg h3, b1.1, b2.1, if_pos m1, if_pos m2, if_neg h4, arcB, h3, h4, if_false, L_const, decide_false, Bool.not_false, Bool.and_false, Bool.false_and]
      · simp only [h1, h2, if_true, Bool.false_eq_true, if_false, L_const, arcB, Bool.false_and, Bool.and_false]
    · simp only [h1, Bool.false_eq_true, if_false, L_const, arcB]
      simp [h1]
theorem areArcs_l (O : List S62) (a b : List Int) (hO : O.length ≤ 1000) (A : List S43) (hA : A.length ≤ 3000000) : ∀ (r pre : List S43), pre ++ r = A → L (fun k => impl_flat_areArcs.l0 k A (A.length : Int) (pre.length : Int) O a b) = some (r.all (arcB O))
  | [], pre, hp => by
    rw [L_shift]
    simp only [List.append_nil] at hp
    subst hp
    simp only [impl_flat_areArcs.l0, Int.lt_irrefl, if_false, L_const, List.all_nil]
  | p :: r, pre, hp => by
    rw [L_shift]
    have hl : A.length = pre.length + (r.length + 1) := by rw [← hp]; simp
    have e : rd_T43 A (pre.length : Int) = p := by rw [← hp]; exact getD_mid pre p r _
    have ih := areArcs_l O a b hO A hA r (pre ++ [p]) (by rw [← hp]; simp)
    have n1 : (pre.length : Int) < (A.length : Int) := by omega
    simp only [impl_flat_areArcs.l0, if_pos n1, le_nat, if_true, e, isNumber_e _ (O.length : Int) (by omega) (by omega), Option.bind_some, wrap_mid pre p (show pre.length < 4611686018427387904 by omega), List.all_cons]
    by_cases h1 : inB p.f0 0 ((O.length : Int) - 1) = true
    · have b1 := inB_iff.1 h1
      by_cases h2 : inB p.f1 0 ((O.length : Int) - 1) = true
      · have b2 := inB_iff.1 h2
        have m1 : p.f0 < (O.length : Int) := by omega
        have m2 : p.f1 < (O.length : Int) := by omega
        by_cases h3 : p.f0 = p.f1
        · simp only [h1, h2, if_true, if_pos h3, L_const, arcB, h3, decide_true, Bool.not_true, Bool.false_and, Bool.and_false]
        · by_cases h4 : (rd_T62 O p.f0).f0 = (rd_T62 O p.f1).f0
          · simp only [h1, h2, if_true, if_neg h3, b1.1, b2.1, if_pos m1, if_pos m2, if_pos h4, ih, arcB, h3, h4, if_false, if_true, decide_true, decide_false, Bool.not_false, Bool.and_self, Bool.true_and]
          · simp only [h1, h2, if_true, if_neg h3, b1.1, b2.1, if_pos m1, if_pos m2, if_neg h4, arcB, h3, h4, if_false, L_const, decide_false, Bool.not_false, Bool.and_false, Bool.false_and]
      · simp only [h1, h2, if_true, Bool.false_eq_true, if_false, L_const, arcB, Bool.false_and, Bool.and_false]
    · simp only [h1, Bool.false_eq_true, if_false, L_const, arcB]
      simp [h1]
theorem tailsS (O : List S62) (N : Nat) (hO : O.length = N) (hT : ∀ x ∈ O, 0 ≤ x.f1 ∧ x.f1 ≤ 100) (A : List S43) (hA : InN N A) (hAl : A.length ≤ 3000000) (rnd : Int) : ∀ (s q : List S43) (T H : List Int) (c : Bool) (B : Int), q ++ s = A → TH (opT O) N T H → (∀ x, 0 ≤ x → 0 ≤ rd H x ∧ rd H x ≤ B) → B + 100 * (s.length : Int) ≤ 1000000000000000 →
    ∃ T', TH (opT O) N T' (relF (opT O) (revA s) H c).1 ∧ L (fun k => spec_l9Tails.l2 k A O T rnd (q.length : Int)) = L (fun k => spec_l9Tails.l1 k A O T' (wrap64 (rnd + 1)))
  | [], q, T, H, c, B, hq, hTH, hb, hB => by
    refine ⟨T, hTH, ?_⟩
    rw [L_shift]
    simp only [List.append_nil] at hq
    subst hq
    simp only [spec_l9Tails.l2, Int.lt_irrefl, if_false]
  | p :: s, q, T, H, c, B, hq, hTH, hb, hB => by
    have hp := hA p (by rw [← hq]; simp)
    have hAq : A.length = q.length + (s.length + 1) := by rw [← hq]; simp
    have e : rd_T43 A (q.length : Int) = p := by rw [← hq]; exact getD_mid q p s _
    have t0 := opT_bd hO hT hp.1.1 hp.1.2
    have t1 := opT_bd hO hT hp.2.1 hp.2.2
    have et : (rd_T62 O p.f0).f1 = opT O p.f0 := rfl
    have h0 := hb p.f0 hp.1.1
    have h1 := hb p.f1 hp.2.1
    have eT := hTH.2.2 p.f1 hp.2.1 hp.2.2
    simp only [List.length_cons] at hB
    obtain ⟨c', hc'⟩ := relF_rev (opT O) p s H c
    have hstep := TH_step hTH p.f0 p.f1 hp.1 hp.2
    have hl2 := hTH.2.1
    obtain ⟨T', i1, i2⟩ := tailsS O N hO hT A hA hAl rnd s (q ++ [p]) _ _ c' (B + 100) (by rw [← hq]; simp) hstep (fun x hx => by
      have hx' := hb x hx
      by_cases hg : rd H p.f1 + opT O p.f1 > rd H p.f0
      · rw [if_pos hg, rd_set H p.f0 x _ hp.1.1 (by omega) hx]
        split <;> omega
      · rw [if_neg hg]; omega) (by omega)
    refine ⟨T', by rw [hc']; exact i1, ?_⟩
    rw [L_shift]
    have n1 : (q.length : Int) < (A.length : Int) := by omega
    have n2 : p.f0 < (T.length : Int) := by have := hTH.1; omega
    have n3 : p.f0 < (O.length : Int) := by omega
    have n4 : p.f1 < (T.length : Int) := by have := hTH.1; omega
    have hw := wrap_id (show -9223372036854775808 ≤ opT O p.f0 + rd T p.f1 by omega) (show opT O p.f0 + rd T p.f1 ≤ 9223372036854775807 by omega)
    simp only [spec_l9Tails.l2, if_pos n1, le_nat, if_true, e, hp.1.1, hp.2.1, if_pos n2, if_pos n3, if_pos n4, et, hw, l1Most_e, Option.bind_some, wrap_mid q p (show q.length < 4611686018427387904 by omega)]
    exact i2
theorem tailsR (O : List S62) (N : Nat) (hN : N ≤ 1000) (hO : O.length = N) (hT : ∀ x ∈ O, 0 ≤ x.f1 ∧ x.f1 ≤ 100) (A : List S43) (hA : InN N A) (hAl : A.length ≤ 3000000) : ∀ (n r : Nat) (T H : List Int) (B : Int), n + r = N → TH (opT O) N T H → (∀ x, 0 ≤ x → 0 ≤ rd H x ∧ rd H x ≤ B) → B + 300000000 * (n : Int) ≤ 1000000000000 →
    ∃ T', TH (opT O) N T' (itF (opT O) (revA A) n H) ∧ L (fun k => spec_l9Tails.l1 k A O T (r : Int)) = some T'
  | 0, r, T, H, B, hn, hTH, hb, hB => by
    refine ⟨T, hTH, ?_⟩
    rw [L_shift]
    simp only [spec_l9Tails.l1, if_neg (show ¬ ((r : Int) < (O.length : Int)) by omega), L_const]
  | n + 1, r, T, H, B, hn, hTH, hb, hB => by
    obtain ⟨T1, h1, h2⟩ := tailsS O N hO hT A hA hAl (r : Int) A [] T H false B rfl hTH hb (by omega)
    have hbd := relF_bd O N hO hT (revA A) H false B (revA_in hA) hTH.2.1 hb
    have hrl : (revA A).length = A.length := by simp [revA]
    rw [hrl] at hbd
    obtain ⟨T2, h3, h4⟩ := tailsR O N hN hO hT A hA hAl n (r + 1) T1 _ (B + 100 * (A.length : Int)) (by omega) h1 hbd (by omega)
    refine ⟨T2, h3, ?_⟩
    rw [L_shift]
    simp only [List.length_nil, Int.natCast_zero] at h2
    rw [wrap_id (show -9223372036854775808 ≤ (r : Int) + 1 by omega) (show (r : Int) + 1 ≤ 9223372036854775807 by omega), show (r : Int) + 1 = ((r + 1 : Nat) : Int) by omega] at h2
    simp only [spec_l9Tails.l1, if_pos (show (r : Int) < (O.length : Int) by omega)]
    rw [h2, h4]
theorem tailsI (O : List S62) (hO : O.length ≤ 1000) (A : List S43) : ∀ (s q : List S62), q ++ s = O → L (fun k => spec_l9Tails.l0 k A O (q.map (·.f1)) (q.length : Int)) = L (fun k => spec_l9Tails.l1 k A O (O.map (·.f1)) 0)
  | [], q, hq => by
    rw [L_shift]
    simp only [List.append_nil] at hq
    subst hq
    simp only [spec_l9Tails.l0, Int.lt_irrefl, if_false]
  | x :: s, q, hq => by
    rw [L_shift]
    have hl : O.length = q.length + (s.length + 1) := by rw [← hq]; simp
    have e : rd_T62 O (q.length : Int) = x := by rw [← hq]; exact getD_mid q x s _
    have ih := tailsI O hO A s (q ++ [x]) (by rw [← hq]; simp)
    have n1 : (q.length : Int) < (O.length : Int) := by omega
    have n2 : (q.map (·.f1)).length < 17592186044416 := by simp; omega
    simp only [spec_l9Tails.l0, if_pos n1, le_nat, if_true, e, if_pos n2, wrap_mid q x (show q.length < 4611686018427387904 by omega)]
    simpa using ih
theorem boundV (O : List S62) (a b Hh : List Int) (N : Nat) (hN : N ≤ 1000) (hO : O.length = N) (hH : Hh.length = N) (hT : ∀ x ∈ O, 0 ≤ x.f1 ∧ x.f1 ≤ 100) (hb : ∀ x, 0 ≤ x → 0 ≤ rd Hh x ∧ rd Hh x ≤ 1000000000000) : ∀ (d i : Nat) (v : Int), i + d = N →
    ∃ r, L (fun k => impl_flat_boundOf.l0 k v Hh (Hh.length : Int) (i : Int) O a b) = some r ∧ ∀ B : Int, r ≤ B ↔ (v ≤ B ∧ ∀ x, (i : Int) ≤ x → x < (N : Int) → rd Hh x + opT O x ≤ B)
  | 0, i, v, hd => by
    refine ⟨v, ?_, fun B => ⟨fun h => ⟨h, fun x h1 h2 => absurd h1 (by omega)⟩, fun h => h.1⟩⟩
    rw [L_shift]
    simp only [impl_flat_boundOf.l0, if_neg (show ¬ ((i : Int) < (Hh.length : Int)) by omega), L_const]
  | d + 1, i, v, hd => by
    have h0 := hb (i : Int) (by omega)
    have ht := opT_bd hO hT (show 0 ≤ (i : Int) by omega) (show (i : Int) < (N : Int) by omega)
    obtain ⟨r, h1, h2⟩ := boundV O a b Hh N hN hO hH hT hb d (i + 1) (max v (rd Hh (i : Int) + opT O (i : Int))) (by omega)
    refine ⟨r, ?_, fun B => ?_⟩
    · rw [L_shift]
      have et : (rd_T62 O (i : Int)).f1 = opT O (i : Int) := rfl
      simp only [impl_flat_boundOf.l0, if_pos (show (i : Int) < (Hh.length : Int) by omega), le_nat, if_true, if_pos (show (i : Int) < (O.length : Int) by omega), et, wrap_id (show -9223372036854775808 ≤ rd Hh (i : Int) + opT O (i : Int) by omega) (show rd Hh (i : Int) + opT O (i : Int) ≤ 9223372036854775807 by omega), mx_e, wrap_id (show -9223372036854775808 ≤ (i : Int) + 1 by omega) (show (i : Int) + 1 ≤ 9223372036854775807 by omega)]
      exact h1
    · rw [h2 B]
      constructor
      · rintro ⟨g1, g2⟩
        refine ⟨by omega, fun x hx1 hx2 => ?_⟩
        by_cases e : x = (i : Int)
        · rw [e]; omega
        · exact g2 x (by omega) hx2
      · rintro ⟨g1, g2⟩
        have := g2 (i : Int) (Int.le_refl _) (by omega)
        exact ⟨by omega, fun x hx1 hx2 => g2 x (by omega) hx2⟩
theorem all_rd (T : List Int) (B : Int) : (∀ x ∈ T, x ≤ B) ↔ ∀ x : Int, 0 ≤ x → x < (T.length : Int) → rd T x ≤ B := by
  constructor
  · intro h x h0 h1
    have hm : rd T x ∈ T := by
      simp only [rd, List.getD_eq_getElem?_getD]
      rw [List.getElem?_eq_getElem (by omega)]
      exact List.getElem_mem _
    exact h _ hm
  · intro h x hx
    obtain ⟨i, hi, rfl⟩ := List.getElem_of_mem hx
    have := h (i : Int) (by omega) (by omega)
    simpa [rd, List.getD_eq_getElem?_getD, List.getElem?_eq_getElem hi] using this
theorem toIntA2S_l (r : List S43) : ∀ pre : List S43, (pre ++ r).length < 4611686018427387904 → L (fun k => laws_toIntA2S.l0 k (pre ++ r) (pre ++ List.replicate r.length z43) (pre.length : Int)) = some (pre ++ r) := by
  induction r with
  | nil =>
    intro pre hb
    rw [L_shift]
    simp only [laws_toIntA2S.l0, not_lt_end, if_false, L_const, List.length_nil, List.replicate_zero]
  | cons x r ih =>
    intro pre hb
    rw [L_shift]
    have hl : pre.length < 4611686018427387904 := by simp at hb; omega
    have e : rd_T43 (pre ++ x :: r) (pre.length : Int) = x := getD_mid pre x r _
    simp only [laws_toIntA2S.l0, lt_mid, le_nat, if_true, List.length_cons, List.replicate_succ, e, laws_toIntA2.f, Option.bind_some, wrap_mid pre x hl, set_mid pre _ _ _ pre rfl]
    rw [app_cons pre x r, app_cons pre x (List.replicate _ _)]
    exact ih (pre ++ [x]) (by simpa using hb)
theorem toIntA2S_L (l : List S43) (h : l.length ≤ 1048576) : L (fun k => laws_toIntA2S.f k l) = some l := by
  simp only [laws_toIntA2S.f, le_nat, if_true, Int.toNat_natCast, if_pos (show l.length ≤ 17592186044416 by omega)]
  exact toIntA2S_l l [] (by simp; omega)
/-- A valid row of arcs: the reference's heads and the program's stand at last alike, and then the longest is the same. -/
theorem arcs_core (m : Int) (R : List (List S62)) (h : Shop9 m R) (hRr : ∀ x ∈ R, x.length ≤ 1048576) (Q : List S43) (hQ : Q.length ≤ 1048576) (hQin : InN (flatR 0 R).length Q) :
    ∃ (h1' h2' : List Int) (ok : Bool), L (fun k => spec_l9Next.f k m R) = some (nextArcs 0 (flatR 0 R)) ∧ (nextArcs 0 (flatR 0 R)).length ≤ 100 ∧ L (fun k => spec_l9Starts.f k m R (nextArcs 0 (flatR 0 R) ++ Q)) = some (h1', ok) ∧ L (fun k => impl_flat_headsWith.f k (fOps (flatR 0 R)) (fRoute (flatR 0 R)) (fIdx (flatR 0 R)) Q) = some (h2', ok) ∧
      (ok = true → ∃ r : Int, L (fun k => spec_l9Length.f k m R (nextArcs 0 (flatR 0 R) ++ Q)) = some r ∧ L (fun k => impl_flat_boundOf.f k (fOps (flatR 0 R)) (fRoute (flatR 0 R)) (fIdx (flatR 0 R)) h2') = some r) := by
  have hn : (fOps (flatR 0 R)).length = cntN R := by rw [fOps, List.length_map, flatR_len]
  have hnF : (flatR 0 R).length = cntN R := flatR_len R 0
  have hc := h.cnt
  have e1 : (fOps (flatR 0 R)).length = (flatR 0 R).length := by omega
  have hF12 : (flatR 0 R).length ≤ 1000 := by omega
  have hT : ∀ x ∈ fOps (flatR 0 R), 0 ≤ x.f1 ∧ x.f1 ≤ 100 := fun x hx => ⟨(mem_flatR_op h x hx).1, (mem_flatR_op h x hx).2.1⟩
  have ht1 : ∀ x, 0 ≤ x → x < ((flatR 0 R).length : Int) → 1 ≤ opT (fOps (flatR 0 R)) x := fun x h0 h1 => (mem_flatR_op h _ (getDZ_mem _ x h0 (by omega))).2.2
  have hX := nextArcs_in (flatR 0 R).length (flatR 0 R) 0 (by omega)
  have lX := nextArcs_len (flatR 0 R) 0
  have hXQ : InN (flatR 0 R).length (nextArcs 0 (flatR 0 R) ++ Q) := fun p hp => (List.mem_append.1 hp).elim (hX p) (hQin p)
  have hQX : InN (flatR 0 R).length (Q ++ nextArcs 0 (flatR 0 R)) := fun p hp => (List.mem_append.1 hp).elim (hQin p) (hX p)
  have lXQ : (nextArcs 0 (flatR 0 R) ++ Q).length ≤ 3000000 := by rw [List.length_append]; omega
  have lQX : (Q ++ nextArcs 0 (flatR 0 R)).length ≤ 3000000 := by rw [List.length_append]; omega
  have hmem : ∀ p, p ∈ nextArcs 0 (flatR 0 R) ++ Q ↔ p ∈ Q ++ nextArcs 0 (flatR 0 R) := fun p => by simp only [List.mem_append]; exact Or.comm
  have hz : ∀ x, 0 ≤ x → 0 ≤ rd (List.replicate (flatR 0 R).length 0) x ∧ rd (List.replicate (flatR 0 R).length 0) x ≤ 0 := fun x _ => by
    have : rd (List.replicate (flatR 0 R).length 0) x = 0 := by
      simp only [rd, List.getD_eq_getElem?_getD, List.getElem?_replicate]
      split <;> rfl
    omega
  have hz0 : ∀ x, 0 ≤ x → rd (List.replicate (flatR 0 R).length 0) x = 0 := fun x hx => by have := hz x hx; omega
  have hsame := bfF_same (opT (fOps (flatR 0 R))) (flatR 0 R).length (nextArcs 0 (flatR 0 R) ++ Q) (Q ++ nextArcs 0 (flatR 0 R)) hXQ (fun p hp => ht1 _ (hXQ p hp).1.1 (hXQ p hp).1.2) hmem (List.replicate (flatR 0 R).length 0) (by simp)
  have s1 := specOps_l m R h.len hRr R [] [] rfl (by simp; omega)
  have s2 := specNext_l (flatR 0 R) hF12 (flatR 0 R) [] [] rfl (by simp; omega)
  obtain ⟨h1', s4⟩ := starts_l (fOps (flatR 0 R)) (flatR 0 R).length hF12 e1 hT (nextArcs 0 (flatR 0 R) ++ Q) hXQ lXQ ((flatR 0 R).length + 1) 0 (List.replicate (flatR 0 R).length 0) 0 (by omega) (by simp) hz (by omega)
  have p2 := headsArcs_l (flatR 0 R) hF12 (flatR 0 R) [] Q rfl (by omega)
  obtain ⟨h2', p3, _, p5⟩ := heads_l (fOps (flatR 0 R)) (fRoute (flatR 0 R)) (fIdx (flatR 0 R)) (flatR 0 R).length hF12 e1 hT (Q ++ nextArcs 0 (flatR 0 R)) hQX lQX ((flatR 0 R).length + 1) 0 (List.replicate (flatR 0 R).length 0) 0 (by omega) (by simp) hz (by omega)
  simp only [List.length_nil, List.nil_append, Int.natCast_zero] at s1 s2 s4 p2 p3
  have n1 : L (fun k => spec_l9Next.f k m R) = some (nextArcs 0 (flatR 0 R)) := by
    simp only [spec_l9Next.f, L_bind]
    simp only [spec_l9Ops.f, s1, Option.bind_some, s2]
  have st : L (fun k => spec_l9Starts.f k m R (nextArcs 0 (flatR 0 R) ++ Q)) = some (h1', (bfF (opT (fOps (flatR 0 R))) (nextArcs 0 (flatR 0 R) ++ Q) ((flatR 0 R).length + 1) (List.replicate (flatR 0 R).length 0)).isSome) := by
    simp only [spec_l9Starts.f, L_bind, l9All_L m R h, Option.bind_some, L_ite, L_const, e1, le_nat, if_true, Int.toNat_natCast, if_pos (show (flatR 0 R).length ≤ 35184372088832 by omega), s4]
  have ph : L (fun k => impl_flat_headsWith.f k (fOps (flatR 0 R)) (fRoute (flatR 0 R)) (fIdx (flatR 0 R)) Q) = some (h2', (bfF (opT (fOps (flatR 0 R))) (Q ++ nextArcs 0 (flatR 0 R)) ((flatR 0 R).length + 1) (List.replicate (flatR 0 R).length 0)).isSome) := by
    simp only [impl_flat_headsWith.f, Option.bind_some, List.nil_append, List.length_nil, Nat.zero_add, if_pos (show Q.length < 8796093022208 by omega), e1, p2, p3]
  refine ⟨h1', h2', _, n1, by omega, st, by rw [hsame]; exact ph, fun hb => ?_⟩
  have hb2 := hb
  rw [hsame] at hb2
  obtain ⟨F, hF⟩ := Option.isSome_iff_exists.1 hb2
  have hFe := p5 F hF
  subst hFe
  have hFfix := bfF_end _ _ _ _ _ hF
  obtain ⟨hFach, hFlen⟩ := bfF_ach (opT (fOps (flatR 0 R))) (flatR 0 R).length _ hQX (fun p hp => by have := ht1 _ (hQX p hp).1.1 (hQX p hp).1.2; omega) _ _ _ (by simp) (fun b hb => .inl (hz0 b hb)) hF
  have hFbd := bfF_bd (fOps (flatR 0 R)) (flatR 0 R).length e1 hT _ hQX lQX _ _ _ 0 (by simp) hz hF
  have hF1 : ∀ p ∈ nextArcs 0 (flatR 0 R) ++ Q, rd h2' p.f0 + opT (fOps (flatR 0 R)) p.f0 ≤ rd h2' p.f1 := fun p hp => hFfix p ((hmem p).1 hp)
  have hF2 : Ach (opT (fOps (flatR 0 R))) (nextArcs 0 (flatR 0 R) ++ Q) h2' := fun b hb => (hFach b hb).imp id (fun ⟨p, hp, e, hle⟩ => ⟨p, (hmem p).2 hp, e, hle⟩)
  have hrev := bfF_rev (opT (fOps (flatR 0 R))) (flatR 0 R).length _ hXQ ht1 h2' hF1 (List.replicate (flatR 0 R).length 0) (by simp)
  have hG := itF_fix (opT (fOps (flatR 0 R))) (revA (nextArcs 0 (flatR 0 R) ++ Q)) (flatR 0 R).length (List.replicate (flatR 0 R).length 0) hrev
  obtain ⟨hG2, _⟩ := itF_ach (opT (fOps (flatR 0 R))) (flatR 0 R).length _ (revA_in hXQ) (fun p hp => by have := ht1 _ (revA_in hXQ p hp).1.1 (revA_in hXQ p hp).1.2; omega) (flatR 0 R).length (List.replicate (flatR 0 R).length 0) (by simp) (fun b hb => .inl (hz0 b hb))
  have hG0 := itF_nn (opT (fOps (flatR 0 R))) (flatR 0 R).length _ (revA_in hXQ) (flatR 0 R).length (List.replicate (flatR 0 R).length 0) (by simp) (fun x hx => (hz x hx).1)
  have hTH0 : TH (opT (fOps (flatR 0 R))) (flatR 0 R).length ((fOps (flatR 0 R)).map (·.f1)) (List.replicate (flatR 0 R).length 0) := by
    refine ⟨by rw [List.length_map, e1], by simp, fun x h0 h1 => ?_⟩
    rw [hz0 x h0, Int.zero_add]
    have hx : x.toNat < (fOps (flatR 0 R)).length := by omega
    show ((fOps (flatR 0 R)).map (·.f1)).getD x.toNat 0 = ((fOps (flatR 0 R)).getD x.toNat _).f1
    rw [List.getD_eq_getElem?_getD, List.getD_eq_getElem?_getD, List.getElem?_map, List.getElem?_eq_getElem hx]
    rfl
  obtain ⟨T, hTT, hTl⟩ := tailsR (fOps (flatR 0 R)) (flatR 0 R).length hF12 e1 hT _ hXQ lXQ (flatR 0 R).length 0 _ _ 0 (by omega) hTH0 hz (by omega)
  have hTi := tailsI (fOps (flatR 0 R)) (by omega) (nextArcs 0 (flatR 0 R) ++ Q) (fOps (flatR 0 R)) [] rfl
  simp only [List.map_nil, List.length_nil, Int.natCast_zero] at hTi hTl
  have hlen : L (fun k => spec_l9Length.f k m R (nextArcs 0 (flatR 0 R) ++ Q)) = some (maxTo 0 T) := by
    simp only [spec_l9Length.f, L_bind]
    simp only [spec_l9Tails.f, L_bind, l9All_L m R h, Option.bind_some, hTi, hTl, l2Last_L T (by have := hTT.1; omega), L_const]
  obtain ⟨r, hr, hrB⟩ := boundV (fOps (flatR 0 R)) (fRoute (flatR 0 R)) (fIdx (flatR 0 R)) h2' (flatR 0 R).length hF12 e1 hFlen hT (fun x hx => by have := hFbd x hx; omega) (flatR 0 R).length 0 0 (by omega)
  simp only [Int.natCast_zero] at hr hrB
  have hbv : L (fun k => impl_flat_boundOf.f k (fOps (flatR 0 R)) (fRoute (flatR 0 R)) (fIdx (flatR 0 R)) h2') = some r := by simp only [impl_flat_boundOf.f, hr]
  have hval : maxTo 0 T = r := same_of_le (fun B => by
    rw [hrB B, maxTo_le B T 0, all_rd T B, hTT.1]
    have hd := dual_eq (opT (fOps (flatR 0 R))) (flatR 0 R).length _ hXQ ht1 h2' _ hF1 hF2 (fun x hx => (hFbd x hx).1) hG hG2 hG0 B
    rw [hd]
    constructor
    · rintro ⟨g1, g2⟩
      exact ⟨g1, fun x h0 h1 => by rw [← hTT.2.2 x h0 h1]; exact g2 x h0 h1⟩
    · rintro ⟨g1, g2⟩
      exact ⟨g1, fun x h0 h1 => by rw [hTT.2.2 x h0 h1]; exact g2 x h0 h1⟩)
  exact ⟨maxTo 0 T, hlen, by rw [hval]; exact hbv⟩
theorem pairs_L (m : Int) (R : List (List S62)) (h : Shop9 m R) (Q : List S43) (hQ : Q.length ≤ 1048576) : L (fun k => spec_l9Pairs.f k m R Q) = some (Q.all (arcB (fOps (flatR 0 R)))) := by
  have hn : (fOps (flatR 0 R)).length = cntN R := by rw [fOps, List.length_map, flatR_len]
  have hc := h.cnt
  have pp := pairs_l (fOps (flatR 0 R)) (by omega) Q (by omega) Q [] rfl
  simp only [List.length_nil, Int.natCast_zero] at pp
  simp only [spec_l9Pairs.f, L_bind, l9All_L m R h, Option.bind_some, pp]
theorem areArcs_L (m : Int) (R : List (List S62)) (h : Shop9 m R) (Q : List S43) (hQ : Q.length ≤ 1048576) : L (fun k => impl_flat_areArcs.f k (fOps (flatR 0 R)) (fRoute (flatR 0 R)) (fIdx (flatR 0 R)) Q) = some (Q.all (arcB (fOps (flatR 0 R)))) := by
  have hn : (fOps (flatR 0 R)).length = cntN R := by rw [fOps, List.length_map, flatR_len]
  have hc := h.cnt
  have pa := areArcs_l (fOps (flatR 0 R)) (fRoute (flatR 0 R)) (fIdx (flatR 0 R)) (by omega) Q (by omega) Q [] rfl
  simp only [List.length_nil, Int.natCast_zero] at pa
  simp only [impl_flat_areArcs.f, pa]
theorem arcB_in {m : Int} {R : List (List S62)} {p : S43} (h : arcB (fOps (flatR 0 R)) p = true) : (0 ≤ p.f0 ∧ p.f0 < ((flatR 0 R).length : Int)) ∧ (0 ≤ p.f1 ∧ p.f1 < ((flatR 0 R).length : Int)) := by
  have e1 : (fOps (flatR 0 R)).length = (flatR 0 R).length := by simp [fOps]
  simp only [arcB, Bool.and_eq_true, inB_iff] at h
  omega

theorem mayEnd_both (m : Int) (R : List (List S62)) (h : Shop9 m R) (hRr : ∀ x ∈ R, x.length ≤ 1048576) (Q : List S43) (hQ : Q.length ≤ 1048576) (hQin : InN (flatR 0 R).length Q) (v : Int) :
    ∃ b, L (fun k => spec_l9Done.f k m R v Q) = some b ∧ L (fun k => impl_flat_mayEnd.f k (fOps (flatR 0 R)) (fRoute (flatR 0 R)) (fIdx (flatR 0 R)) Q v) = some b := by
  obtain ⟨h1', h2', ok, n1, nl, st, ph, hv⟩ := arcs_core m R h hRr Q hQ hQin
  cases ok with
  | false =>
    refine ⟨true, ?_, ?_⟩
    · simp only [spec_l9Done.f, L_bind, n1, Option.bind_some, L_ite, L_const, if_pos (show (nextArcs 0 (flatR 0 R)).length + Q.length < 8796093022208 by omega), st, Bool.false_eq_true, if_false]
    · simp only [impl_flat_mayEnd.f, L_bind, ph, Option.bind_some, L_ite, L_const, Bool.false_eq_true, if_false]
  | true =>
    obtain ⟨r, g1, g2⟩ := hv rfl
    refine ⟨decide (r ≥ v), ?_, ?_⟩
    · simp only [spec_l9Done.f, L_bind, n1, Option.bind_some, L_ite, L_const, if_pos (show (nextArcs 0 (flatR 0 R)).length + Q.length < 8796093022208 by omega), st, if_true, g1]
    · simp only [impl_flat_mayEnd.f, L_bind, ph, Option.bind_some, L_ite, L_const, if_true, g2]
theorem withArc_e (arcs : List S43) (a b : Int) (h : arcs.length ≤ 1000000) : impl_withArc.f arcs a b = some (arcs ++ [⟨a, b⟩]) := by
  simp only [impl_withArc.f, Option.bind_some, List.length_nil, Nat.zero_add, List.nil_append, if_pos (show arcs.length < 8796093022208 by omega)]
theorem proves_both (m : Int) (R : List (List S62)) (h : Shop9 m R) (hRr : ∀ x ∈ R, x.length ≤ 1048576) (v : Int) : ∀ (n : Nat) (l arcs : List S43), l.length ≤ n → arcs.length + n ≤ 3000 → InN (flatR 0 R).length arcs →
    ∃ r1 r2 ok, L (fun k => spec_l9Proves.f k m R v arcs l) = some (r1, ok) ∧ L (fun k => impl_flat_proved.f k (fOps (flatR 0 R)) (fRoute (flatR 0 R)) (fIdx (flatR 0 R)) arcs v l) = some (r2, ok) ∧ (ok = true → r1 = r2 ∧ r1.length < l.length)
  | n, [], arcs, _, _, _ => by
    refine ⟨[], [], false, ?_, ?_, fun h => by cases h⟩
    · rw [L_shift]
      simp only [spec_l9Proves.f, L_const]
    · rw [L_shift]
      simp only [impl_flat_proved.f, L_const]
  | 0, p :: rest, arcs, hl, _, _ => by simp at hl
  | n + 1, p :: rest, arcs, hl, ha, hin => by
    have hr : rest.length ≤ n := by simpa using hl
    have hh : ∀ (k : Nat), spec_l9Proves.f (k + 1) m R v arcs (p :: rest) = if p.f0 = -1 ∧ p.f1 = -1 then (spec_l9Done.f k m R v arcs).bind fun b => some (rest, b)
        else if p.f0 ≥ p.f1 then some (p :: rest, false)
        else (spec_l9Pairs.f k m R [p]).bind fun q => if q = true then
          (if arcs.length ≤ 1000000 then (spec_l9Proves.f k m R v (arcs ++ [p]) rest).bind fun t => if t.2 = true then spec_l9Proves.f k m R v (arcs ++ [⟨p.f1, p.f0⟩]) t.1 else some (p :: rest, false) else none)
          else some (p :: rest, false) := fun k => by rw [spec_l9Proves.f]
    have hi : ∀ (k : Nat), impl_flat_proved.f (k + 1) (fOps (flatR 0 R)) (fRoute (flatR 0 R)) (fIdx (flatR 0 R)) arcs v (p :: rest) = if p.f0 = -1 ∧ p.f1 = -1 then (impl_flat_mayEnd.f k (fOps (flatR 0 R)) (fRoute (flatR 0 R)) (fIdx (flatR 0 R)) arcs v).bind fun b => some (rest, b)
        else if p.f0 ≥ p.f1 then some ([], false)
        else (impl_flat_areArcs.f k (fOps (flatR 0 R)) (fRoute (flatR 0 R)) (fIdx (flatR 0 R)) [p]).bind fun q => if q = true then
          (impl_withArc.f arcs p.f0 p.f1).bind fun a1 => (impl_flat_proved.f k (fOps (flatR 0 R)) (fRoute (flatR 0 R)) (fIdx (flatR 0 R)) a1 v rest).bind fun t => if t.2 = true then (impl_withArc.f arcs p.f1 p.f0).bind fun a2 => impl_flat_proved.f k (fOps (flatR 0 R)) (fRoute (flatR 0 R)) (fIdx (flatR 0 R)) a2 v t.1 else some ([], false)
          else some ([], false) := fun k => by rw [impl_flat_proved.f]
    by_cases hA : p.f0 = -1 ∧ p.f1 = -1
    · obtain ⟨b, b1, b2⟩ := mayEnd_both m R h hRr arcs (by omega) hin v
      refine ⟨rest, rest, b, ?_, ?_, fun _ => ⟨rfl, by simp⟩⟩
      · rw [L_shift]
        simp only [hh, if_pos hA, L_bind, b1, Option.bind_some, L_const]
      · rw [L_shift]
        simp only [hi, if_pos hA, L_bind, b2, Option.bind_some, L_const]
    · by_cases hge : p.f0 ≥ p.f1
      · refine ⟨p :: rest, [], false, ?_, ?_, fun h => by cases h⟩
        · rw [L_shift]
          simp only [hh, if_neg hA, if_pos hge, L_const]
        · rw [L_shift]
          simp only [hi, if_neg hA, if_pos hge, L_const]
      · have pp := pairs_L m R h [p] (by simp)
        have pa := areArcs_L m R h [p] (by simp)
        cases hq : [p].all (arcB (fOps (flatR 0 R))) with
        | false =>
          refine ⟨p :: rest, [], false, ?_, ?_, fun h => by cases h⟩
          · rw [L_shift]
            simp only [hh, if_neg hA, if_neg hge, L_bind, pp, hq, Option.bind_some, Bool.false_eq_true, if_false, L_const]
          · rw [L_shift]
            simp only [hi, if_neg hA, if_neg hge, L_bind, pa, hq, Option.bind_some, Bool.false_eq_true, if_false, L_const]
        | true =>
          have hp : arcB (fOps (flatR 0 R)) p = true := by simpa using hq
          obtain ⟨i1, i2⟩ := arcB_in (m := m) hp
          have in1 : InN (flatR 0 R).length (arcs ++ [p]) := fun x hx => by
            rcases List.mem_append.1 hx with hx | hx
            · exact hin x hx
            · rw [List.mem_singleton.1 hx]; exact ⟨i1, i2⟩
          have in2 : InN (flatR 0 R).length (arcs ++ [(⟨p.f1, p.f0⟩ : S43)]) := fun x hx => by
            rcases List.mem_append.1 hx with hx | hx
            · exact hin x hx
            · rw [List.mem_singleton.1 hx]; exact ⟨i2, i1⟩
          obtain ⟨s1, s2, ok, g1, g2, g3⟩ := proves_both m R h hRr v n rest (arcs ++ [p]) hr (by simp; omega) in1
          have hs : ∀ (o : Option (List S43 × Bool)), (if ok = true then L (fun k => spec_l9Proves.f k m R v (arcs ++ [⟨p.f1, p.f0⟩]) s1) else some (p :: rest, false)) = o → L (fun k => spec_l9Proves.f k m R v arcs (p :: rest)) = o := fun o ho => by
            rw [L_shift]
            simp only [hh, if_neg hA, if_neg hge, L_bind, pp, hq, Option.bind_some, if_true, if_pos (show arcs.length ≤ 1000000 by omega), g1, L_ite, L_const]
            exact ho
          have hj : ∀ (o : Option (List S43 × Bool)), (if ok = true then L (fun k => impl_flat_proved.f k (fOps (flatR 0 R)) (fRoute (flatR 0 R)) (fIdx (flatR 0 R)) (arcs ++ [⟨p.f1, p.f0⟩]) v s2) else some ([], false)) = o → L (fun k => impl_flat_proved.f k (fOps (flatR 0 R)) (fRoute (flatR 0 R)) (fIdx (flatR 0 R)) arcs v (p :: rest)) = o := fun o ho => by
            rw [L_shift]
            simp only [hi, if_neg hA, if_neg hge, L_bind, pa, hq, Option.bind_some, if_true, withArc_e arcs _ _ (by omega), g2, L_ite, L_const]
            exact ho
          cases ok with
          | false => exact ⟨p :: rest, [], false, hs _ (by simp), hj _ (by simp), fun h => by cases h⟩
          | true =>
            obtain ⟨e, hlt⟩ := g3 rfl
            subst e
            obtain ⟨u1, u2, ok2, w1, w2, w3⟩ := proves_both m R h hRr v n s1 (arcs ++ [(⟨p.f1, p.f0⟩ : S43)]) (by omega) (by simp; omega) in2
            exact ⟨u1, u2, ok2, hs _ (by rw [if_pos rfl]; exact w1), hj _ (by rw [if_pos rfl]; exact w2), fun hk => ⟨(w3 hk).1, by have := (w3 hk).2; simp only [List.length_cons]; omega⟩⟩
theorem IsShopProof_both (m : Int) (R : List (List S62)) (v : Int) (Q : List S43) (hR : R.length ≤ 1048576) (hRr : ∀ x ∈ R, x.length ≤ 1048576) (hQ : Q.length ≤ 1048576) :
    ∃ b ok : Bool, L (fun k => spec_IsShopProof.f k m R v Q) = some (b, ok) ∧ L (fun k => impl_IsShopProof.f k m R v Q) = some (b, ok) := by
  simp only [spec_IsShopProof.f, impl_IsShopProof.f, L_bind, L_ite, L_const, l9Good_L m R hR hRr, IsJobShop_L m R hR hRr, Option.bind_some]
  cases hs : shop9B m R with
  | false => exact ⟨false, false, by simp, by simp⟩
  | true =>
    have h := shop9B_iff hs
    by_cases hl : (Q.length : Int) > 800
    · exact ⟨false, true, by simp [hl], by simp [hl]⟩
    · obtain ⟨r1, r2, ok, g1, g2, g3⟩ := proves_both m R h hRr v 800 Q [] (by omega) (by simp) (fun x hx => by cases hx)
      simp only [if_true, if_neg hl, flatOf_L m R h, Option.bind_some, g1, g2]
      cases ok with
      | false => exact ⟨false, true, by simp, by simp⟩
      | true =>
        obtain ⟨e, _⟩ := g3 rfl
        subst e
        exact ⟨_, true, rfl, rfl⟩
theorem FnExactIsShopProof : laws_FnExactIsShopProof.Pure := by
  intro m l v0 Q h1 ⟨h2, h3⟩ _ h4 h5
  have e1 : maxLen = 9223372036854775807 := rfl
  refine rounds_of_L ?_
  unfold laws_FnExactIsShopProof.f
  obtain ⟨v, hv, hd⟩ := szJobShop_L m l 1048576 (by omega) (by omega) (by omega) (fun x hx => by have := (h3 x hx).1; omega)
  (rw [L_bind, hv, Option.bind_some]; try dsimp only)
  rcases hd with hd | ⟨hd0, hd1, hl, hr⟩
  · rw [L_ite, if_pos hd, L_const]
  · rw [L_ite, if_neg (by omega), szIntA2S_e Q v (by omega) hd0 hd1]
    simp only [Option.bind_some]
    by_cases hQv : (Q.length : Int) ≤ v
    · rw [if_pos hQv, L_ite, if_neg (by omega)]
      have hQ : Q.length ≤ 1048576 := by omega
      have hl2 : (l.map (List.map toOpP)).length ≤ 1048576 := by simpa using hl
      have hr2 : ∀ x ∈ l.map (List.map toOpP), x.length ≤ 1048576 := by
        intro x hx
        obtain ⟨y, hy, rfl⟩ := List.mem_map.1 hx
        simpa using hr y hy
      obtain ⟨b, ok, hs, hi⟩ := IsShopProof_both m (l.map (List.map toOpP)) v0 Q hl2 hr2 hQ
      (rw [L_bind, (toJobShop_L m l hl hr), Option.bind_some]; try dsimp only)
      (rw [L_bind, (toIntA2S_L Q hQ), Option.bind_some]; try dsimp only)
      (rw [L_bind, hs, Option.bind_some]; try dsimp only)
      (rw [L_bind, (toJobShop_L m l hl hr), Option.bind_some]; try dsimp only)
      (rw [L_bind, (toIntA2S_L Q hQ), Option.bind_some]; try dsimp only)
      (rw [L_bind, hi, Option.bind_some]; try dsimp only)
      simp only [bne_self_eq_false, Bool.false_eq_true, if_false]
      rw [L_shift]
      simp only [laws_FnExactIsShopProof.j0, Bool.false_eq_true, if_false]
      (rw [L_bind, (toJobShop_L m l hl hr), Option.bind_some]; try dsimp only)
      (rw [L_bind, (eqJobShop_L m _ hl2 hr2), Option.bind_some]; try dsimp only)
      rw [L_ite, if_pos rfl]
      (rw [L_bind, (toIntA2S_L Q hQ), Option.bind_some]; try dsimp only)
      (rw [L_bind, (eqIntA2S_L Q hQ), Option.bind_some]; try dsimp only)
      rw [L_ite, if_pos rfl]
      rw [L_const]
    · rw [if_neg hQv, L_ite, if_pos (show (-1 : Int) < 0 by decide), L_const]

end Go.Proofs.Ytdnphdbahhfcgaa.Pure
