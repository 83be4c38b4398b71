-- Written by a program of this session (wip/gen/xp.py, over the kit's printer). Not trusted: Lean checks it.
import Derived.Test.YtpdjnbbikgkgpaaX0
namespace Go.Proofs.Ytpdjnbbikgkgpaa.X
open Go.RowKit Go.Proofs.YtpdjnbbikgkgpaaW.PrintWords Go.Proofs.YtpdjnbbikgkgpaaW.PrintLast Go.Proofs.YtpdjnbbikgkgpaaW.PrintMore
attribute [local go_sem] max2_int min2_int max_two min_two max_three min_three max_four min_four   -- for this text's walks alone
set_option linter.unusedVariables false
set_option linter.unusedSimpArgs false

/-! ### impl_has: function 59 -/
def impl_has.l0 : Nat → Int → List Int → Int → Int → Option (Bool)
 | 0, _, _, _, _ => none
 | k + 1, x1, x7, x8, x9 => if x9 < x8 then (if 0 ≤ x9 then (if x9 < (x7.length : Int) then (if (rd x7 x9) = x1 then (some true) else (impl_has.l0 k x1 x7 x8 (wrap64 (x9 + 1)))) else (none)) else (none)) else (some false)
def impl_has.f (k : Nat) (l0 : List Int) (a1 : Int) : Option (Bool) := impl_has.l0 k a1 l0 (l0.length : Int) 0
theorem impl_has.mono_l : ∀ k, (∀ y0 y1 y2 y3, LeO (impl_has.l0 k y0 y1 y2 y3) (impl_has.l0 (k + 1) y0 y1 y2 y3))
 | 0 => fun _ _ _ _ r h => by simp [impl_has.l0] at h
 | k + 1 => by
  have ih0 := impl_has.mono_l k
  ·intro y0 y1 y2 y3
   unfold impl_has.l0
   repeat' first
   | (with_reducible exact ih0 _ _ _ _)
   | (with_reducible exact LeO.refl _)
   | (with_reducible exact LeO.none _)
   | (with_reducible refine LeO.ite ?_ ?_)
   | (with_reducible refine LeO.bind ?_ (fun _ => ?_))
   | exact ih0 _ _ _ _
   | exact LeO.none _
   | refine LeO.ite ?_ ?_
   | refine LeO.bind ?_ (fun _ => ?_)
theorem impl_has.mono : ∀ a0 a1 k, LeO (impl_has.f k a0 a1) (impl_has.f (k + 1) a0 a1) := by
 intro a0 a1 k
 have ih0 := impl_has.mono_l k
 unfold impl_has.f
 repeat' first
   | (with_reducible exact ih0 _ _ _ _)
   | (with_reducible exact LeO.refl _)
   | (with_reducible exact LeO.none _)
   | (with_reducible refine LeO.ite ?_ ?_)
   | (with_reducible refine LeO.bind ?_ (fun _ => ?_))
   | exact ih0 _ _ _ _
   | exact LeO.none _
   | refine LeO.ite ?_ ?_
   | refine LeO.bind ?_ (fun _ => ?_)
set_option maxHeartbeats 8000000 in
set_option maxRecDepth 100000 in
theorem impl_has.calls (k : Nat) (A0 : Option Addr) (c0 : Nat) (l0 : List Int) (a1 : Int) (r : Bool) (w : World) (hr0 : Kd.C (Kd.int .i64) w A0 l0.length l0) (hc0 : l0.length ≤ c0) (h : impl_has.f k l0 a1 = some r) :
  Calls Try.prog 59 #[.slice A0 l0.length c0, .int .i64 a1] w fun e w' => e = .returned (.bool r) ∧ Drawn0 w w' := by
 have HR0 := Aside0.mk hr0
 have HC0 := Aside0.mk hc0
 clear hr0 hc0
 have H : (impl_has.l0 k a1 l0 (l0.length : Int) 0) = some r := h
 clear h
 have H' := Aside0.mk H
 clear H
 go_enter Try.func59, Try.ntmps59
 go_wp2
 go_loopg [9] k (fun kq v9 w' => ∃ (x9_1 : Int), v9 = .int .i64 x9_1 ∧ Aside0 (impl_has.l0 kq a1 l0 (l0.length : Int) x9_1 = some r) ∧ Aside0 (kq ≤ k) ∧ Drawn0 w w')
 case atStart => exact ⟨(0), (by first | rfl | (simp; done) | (simp [*]; done)), H', ⟨Nat.le_refl _⟩, by repeat (first | exact Drawn0.refl _ | apply Drawn0.step)⟩
 case round =>
  clear H'
  try clear p2
  obtain ⟨x9_1, rfl, HA, HK1, ⟨m1, rfl⟩⟩ := hrel
  cases gk with
  | zero => exact absurd HA.out (by simp [impl_has.l0])
  | succ k1 =>
   have H := HA.out
   clear HA
   simp only [impl_has.l0] at H
   by_cases c3 : x9_1 < (l0.length : Int)
   rotate_left
   ·rw [if_neg c3] at H
    have c3b0 : decide (x9_1 < (l0.length : Int)) = false := decide_eq_false c3
    clear c3
    obtain rfl := Option.some.inj H
    go_wp2
    go_ret
    exact ⟨by first | rfl | (simp; done) | (simp [*]; done), by repeat (first | exact Drawn0.refl _ | apply Drawn0.step)⟩
   rw [if_pos c3] at H
   have c3b0 : decide (x9_1 < (l0.length : Int)) = true := decide_eq_true c3
   clear c3
   by_cases c4 : 0 ≤ x9_1
   rotate_left
   ·rw [if_neg c4] at H
    exact absurd H (by simp)
   rw [if_pos c4] at H
   have c4b0 : decide (0 ≤ x9_1) = true := decide_eq_true c4
   clear c4
   by_cases c5 : x9_1 < (l0.length : Int)
   rotate_left
   ·rw [if_neg c5] at H
    exact absurd H (by simp)
   rw [if_pos c5] at H
   have c5b0 : decide (x9_1 < (l0.length : Int)) = true := decide_eq_true c5
   clear c5
   by_cases c6 : (rd l0 x9_1) = a1
   ·rw [if_pos c6] at H
    have c6b0 : ((rd l0 x9_1) == a1) = true := beq_iff_eq.mpr c6
    have c6b1 : ((rd l0 x9_1) != a1) = false := bne_eq_false_iff_eq.mpr c6
    clear c6
    obtain rfl := Option.some.inj H
    have p360 : 0 ≤ (x9_1 : Int) := of_decide_eq_true (by first | (with_reducible assumption) | assumption)
    have q360 : x9_1 < (l0.length : Int) := of_decide_eq_true (by first | (with_reducible assumption) | assumption)
    obtain ⟨ad360, e360, hx360_0⟩ := Kd.at_int HR0.out x9_1 p360 q360
    cases e360
    replace p360 := eq_true p360
    replace q360 := eq_true q360
    go_wp2
    go_ret
    exact ⟨by first | rfl | (simp; done) | (simp [*]; done), by repeat (first | exact Drawn0.refl _ | apply Drawn0.step)⟩
   rw [if_neg c6] at H
   have c6b0 : ((rd l0 x9_1) == a1) = false := beq_eq_false_iff_ne.mpr c6
   have c6b1 : ((rd l0 x9_1) != a1) = true := bne_iff_ne.mpr c6
   have H' := Aside0.mk H
   clear H
   have p360 : 0 ≤ (x9_1 : Int) := of_decide_eq_true (by first | (with_reducible assumption) | assumption)
   have q360 : x9_1 < (l0.length : Int) := of_decide_eq_true (by first | (with_reducible assumption) | assumption)
   obtain ⟨ad360, e360, hx360_0⟩ := Kd.at_int HR0.out x9_1 p360 q360
   cases e360
   replace p360 := eq_true p360
   replace q360 := eq_true q360
   go_wp2
   go_roundg k1
   case measure => have := HK1.out; omega
   case rel => exact ⟨(wrap64 (x9_1 + 1)), (by first | rfl | (simp; done) | (simp [*]; done)), H', ⟨by have := HK1.out; omega⟩, by repeat (first | exact Drawn0.refl _ | apply Drawn0.step)⟩

/-! ### impl_sortedBy: function 57 -/
def impl_sortedBy.f (l0 : List (Int)) : Option (List Int) := none   -- (its closure is not in the printed shape: callers are written by hand)
/-- Where a number is put: behind all that it should not be ahead of. -/
def impl_sortedBy.insK (p : Int → Int → Option Bool) (i : Int) (out : List Int) : Nat → Option Nat
 | 0 => some 0
 | k + 1 => (p i (rd out (k : Int))).bind fun b => if b = true then impl_sortedBy.insK p i out k else some (k + 1)
def impl_sortedBy.insL (out : List Int) (k : Nat) (i : Int) : List Int := out.take k ++ i :: out.drop k
def impl_sortedBy.sortO (p : Int → Int → Option Bool) : List Int → List Int → Option (List Int)
 | [], out => some out
 | i :: r, out => (impl_sortedBy.insK p i out out.length).bind fun k => impl_sortedBy.sortO p r (impl_sortedBy.insL out k i)
theorem impl_sortedBy.insK_le {p : Int → Int → Option Bool} {i : Int} {out : List Int} : ∀ {n k : Nat}, impl_sortedBy.insK p i out n = some k → k ≤ n
 | 0, k, h => by
  simp only [impl_sortedBy.insK, Option.some.injEq] at h
  omega
 | n + 1, k, h => by
  rw [impl_sortedBy.insK] at h
  obtain ⟨b, hb, h⟩ := Option.bind_eq_some_iff.mp h
  cases b with
  | true => rw [if_pos rfl] at h; have := impl_sortedBy.insK_le h; omega
  | false => simp only [Bool.false_eq_true, if_false, Option.some.injEq] at h; omega
theorem impl_sortedBy.insK_exit {p : Int → Int → Option Bool} {i : Int} {out : List Int} {n k : Nat} (h : impl_sortedBy.insK p i out n = some k) (hc : ¬ ∃ m, n = m + 1 ∧ p i (rd out (m : Int)) = some true) : n = k ∧ (n = 0 ∨ ∃ m, n = m + 1 ∧ p i (rd out (m : Int)) = some false) := by
 cases n with
 | zero =>
  simp only [impl_sortedBy.insK, Option.some.injEq] at h
  exact ⟨h, .inl rfl⟩
 | succ m =>
  rw [impl_sortedBy.insK] at h
  obtain ⟨b, hb, h⟩ := Option.bind_eq_some_iff.mp h
  cases b with
  | true => exact absurd ⟨m, rfl, hb⟩ hc
  | false =>
   simp only [Bool.false_eq_true, if_false, Option.some.injEq] at h
   exact ⟨h, .inr ⟨m, rfl, hb⟩⟩
/-- What a function value answers for numbers that p answers, in every later world; it may draw and may lay new things. -/
def impl_sortedBy.AheadAt (g : Nat) (lb : Array Value) (p : Int → Int → Option Bool) (w : World) : Prop :=
 ∀ (W : World) (a b : Int) (r : Bool), Below w.heap.size w W → p a b = some r → Calls Try.prog g (#[.int .i64 a, .int .i64 b] ++ lb) W fun e w' => e = .returned (.bool r) ∧ Below W.heap.size W w'
theorem impl_sortedBy.sort_copied {W : World} {base go n c : Nat} {ok : Nat → Prop} {xs : List Int} (h : Kd.R (Kd.int .i64) 3 W base ok (.slice (some ⟨go, 0, none⟩) n c) xs) (hp : 0 < n) :
  ∃ cur : List Value, W.heap[go]? = some (.cells cur.toArray 3 (0, 0)) ∧ base ≤ go ∧ n ≤ cur.length ∧ ∀ (cs : List Int) (off : Nat) (W9 : World), off + cs.length ≤ n → W9.heap[go]? = some (.cells (splice cur off (cs.map (Value.int .i64))).toArray 3 (0, 0)) →
   Kd.R (Kd.int .i64) 3 W9 base ok (.slice (some ⟨go, 0, none⟩) n c) (xs.take off ++ (cs ++ xs.drop (off + cs.length))) := by
 have hown := Kd.own_of_R (show (Kd.scalar (Value.int .i64) (fun _ => rfl)).R 3 W base ok _ xs from h)
 obtain ⟨hl, hd⟩ := hown
 rcases hd with ⟨hv, _⟩ | ⟨g', cap', cur, hv, hb, hh, hnc, hcm, hcs, ht⟩
 ·cases hv
 ·injection hv with ha hn hc
  injection ha with ha
  injection ha with hg
  subst hg hc
  subst hn
  refine ⟨cur.toList, by simpa using hh, hb, by simp; omega, fun cs off W9 hfit h9 => ?_⟩
  refine Kd.R_of_own ⟨by simp [encs], .inr ⟨go, c, (splice cur.toList off (cs.map (Value.int .i64))).toArray, ?_, hb, h9, ?_, hcm, ?_, ?_⟩⟩ h.1
  ·simp; omega
  ·simp; omega
  ·have := length_splice cur.toList off (cs.map (Value.int .i64)) (by simp; omega)
   simpa [hcs] using this
  ·have e : (xs.take off ++ (cs ++ xs.drop (off + cs.length))).length = xs.length := by simp; omega
   rw [e, Nat.mul_one]
   rw [Nat.mul_one] at ht
   have e2 : cur.toList = encs (Value.int .i64) xs ++ cur.toList.drop xs.length := by
    rw [← ht]
    exact (List.take_append_drop _ _).symm
   generalize cur.toList.drop xs.length = s at e2
   have hE : (encs (Value.int .i64) xs).length = xs.length := encs_length xs
   show (splice cur.toList off (cs.map (Value.int .i64))).take xs.length = _
   rw [splice, e2, show (encs (Value.int .i64) xs ++ s).take off = (encs (Value.int .i64) xs).take off from List.take_append_of_le_length (by omega), show (encs (Value.int .i64) xs ++ s).drop (off + (cs.map (Value.int .i64)).length) = (encs (Value.int .i64) xs).drop (off + (cs.map (Value.int .i64)).length) ++ s from List.drop_append_of_le_length (by rw [List.length_map]; omega)]
   rw [show (encs (Value.int .i64) xs).take off ++ (cs.map (Value.int .i64) ++ ((encs (Value.int .i64) xs).drop (off + (cs.map (Value.int .i64)).length) ++ s)) = ((encs (Value.int .i64) xs).take off ++ (cs.map (Value.int .i64) ++ (encs (Value.int .i64) xs).drop (off + (cs.map (Value.int .i64)).length))) ++ s from by simp only [List.append_assoc]]
   rw [List.take_left' (by simp only [List.length_append, List.length_take, List.length_map, List.length_drop, hE]; omega)]
   simp only [encs, List.map_append, List.map_take, List.map_drop, List.length_map]
theorem impl_sortedBy.set_copied {out : List Int} {k : Nat} (x : Int) (h : k ≤ out.length) : ((out ++ [0]).take (k + 1) ++ out.drop k).set k x = impl_sortedBy.insL out k x := by
 have hA : ((out ++ [0]).take (k + 1)).length = k + 1 := by rw [List.length_take, List.length_append, List.length_singleton]; omega
 rw [List.set_eq_take_append_cons_drop, if_pos (by rw [List.length_append, hA]; omega), List.take_append_of_le_length (by omega), List.take_take, Nat.min_eq_left (by omega), List.take_append_of_le_length h, List.drop_left' hA]
 rfl
set_option maxHeartbeats 1600000 in
set_option maxRecDepth 100000 in
theorem impl_sortedBy.calls (g : Nat) (lb : Array Value) (p : Int → Int → Option Bool) (A0 : Option Addr) (c0 : Nat) (l0 r : List Int) (w : World) (hr0 : Kd.C (Kd.int .i64) w A0 l0.length l0) (hc0 : l0.length ≤ c0) (hl : l0.length ≤ 1000000)
  (heg : ∀ args w, (callFunc g args).run Try.prog w = .ok (.enter g args) w) (hp : impl_sortedBy.AheadAt g lb p w) (h : impl_sortedBy.sortO p l0 [] = some r) :
  Calls Try.prog 57 #[.slice A0 l0.length c0, .func (.func g) #[] lb] w fun e w' => ∃ v0_ : Value, e = .returned v0_ ∧ Kd.R (Kd.int .i64) 3 w' w.heap.size (fun _ => True) v0_ r ∧ Below w.heap.size w w' := by
 have HR0 := Aside0.mk hr0
 have HC0 := Aside0.mk hc0
 have HL := Aside0.mk hl
 have HP := Aside0.mk hp
 have HEG := Aside0.mk heg
 clear hr0 hc0 hp heg hl
 have HB := Aside0.mk (Below.refl w.heap.size w)
 have H' := Aside0.mk h
 clear h
 go_enter Try.func57, Try.ntmps57
 go_wp2
 go_loopg [5, 11] l0.length (fun kq v5 v11 w' => ∃ (i : Int) (pre rest out : List Int), v11 = .int .i64 i ∧ Aside0 (i = (pre.length : Int)) ∧ Aside0 (l0 = pre ++ rest) ∧ Aside0 (rest.length = kq) ∧ Aside0 (out.length = pre.length) ∧ Aside0 (impl_sortedBy.sortO p rest out = some r) ∧ Aside0 (Kd.R (Kd.int .i64) 3 w' w.heap.size (fun _ => True) v5 out) ∧ Aside0 (Below w.heap.size w w'))
 case atStart => exact ⟨0, [], l0, [], rfl, ⟨rfl⟩, ⟨rfl⟩, ⟨rfl⟩, ⟨rfl⟩, H', ⟨Kd.R_nil _ _ _ _ _⟩, HB⟩
 case round =>
  clear H' HB
  obtain ⟨i, pre, rest, out, rfl, HI, HA, HN, HO, H, HR, HB⟩ := hrel
  have hlen : l0.length = pre.length + rest.length := by rw [HA.out, List.length_append]
  have hi0 := HI.out
  cases rest with
  | nil =>
   simp only [List.length_nil, Nat.add_zero] at hlen
   have e3 : decide (i < (l0.length : Int)) = false := decide_eq_false (by omega)
   obtain rfl : out = r := by
    have := H.out
    simpa [impl_sortedBy.sortO] using this
   clear hlen hi0
   go_wp2
   go_ret
   exact ⟨_, rfl, HR.out, HB.out⟩
  | cons x rest =>
   simp only [List.length_cons] at hlen
   have hl9 := HL.out
   have e3 : decide (i < (l0.length : Int)) = true := decide_eq_true (by omega)
   have p1 : 0 ≤ i := by omega
   have q1 : i < (l0.length : Int) := by omega
   have hx : rd l0 i = x := by
    rw [HA.out, hi0]
    show (pre ++ x :: rest).getD (pre.length : Int).toNat 0 = x
    simp
   obtain ⟨ad, ea, hxc⟩ := Kd.at_int (Kd.C_below HR0.out HB.out) i p1 q1
   rw [hx] at hxc
   cases ea
   have HX := Aside0.mk hx
   clear hx
   obtain ⟨kk, hkk, hrest⟩ := Option.bind_eq_some_iff.mp (show (impl_sortedBy.insK p x out out.length).bind _ = some r from H.out)
   have HK := Aside0.mk hkk
   have HS := Aside0.mk hrest
   clear hkk hrest
   obtain ⟨Ao, co, eo⟩ := Kd.R_slice HR.out
   subst eo
   have HOL := Aside0.mk (show out.length ≤ 1000000 from by have := HO.out; omega)
   have p1b := eq_true p1
   have q1b := eq_true q1
   have HLN := Aside0.mk hlen
   clear hlen hi0 hl9 p1 q1
   go_wp2
   go_loopg [8] out.length (fun kq v8 w' => ∃ (j : Int) (n : Nat), v8 = .int .i64 j ∧ Aside0 (j = (n : Int)) ∧ Aside0 (n = kq) ∧ Aside0 (n ≤ out.length) ∧ Aside0 (impl_sortedBy.insK p x out n = some kk) ∧ Aside0 (Kd.R (Kd.int .i64) 3 w' w.heap.size (fun _ => True) (.slice Ao out.length co) out) ∧ Aside0 (Below w.heap.size w w'))
   case atStart => exact ⟨_, out.length, rfl, ⟨rfl⟩, ⟨rfl⟩, ⟨Nat.le_refl _⟩, HK, HR, HB⟩
   case round =>
    clear HK HR HB hxc
    obtain ⟨j, n, rfl, HJ, HN2, HNL, HK, HR, HB⟩ := hrel
    by_cases hcont : ∃ m, n = m + 1 ∧ p x (rd out (m : Int)) = some true
    ·obtain ⟨m, rfl, hpx⟩ := hcont
     have hj := HJ.out
     have hnl := HNL.out
     have hol := HOL.out
     have HK2 : Aside0 (impl_sortedBy.insK p x out m = some kk) := ⟨by have := HK.out; rw [impl_sortedBy.insK, hpx] at this; exact this⟩
     have d1 : decide (0 < j) = true := decide_eq_true (by omega)
     have d2 : 0 ≤ j - 1 := by omega
     have d3 : j - 1 < (out.length : Int) := by omega
     have d6 : j ≤ 1000000 := by omega
     have d7 : 0 < j := by omega
     have hw : wrap64 (j - 1) = j - 1 := by unfold wrap64; omega
     have hw2 : IntKind.i64.wrap (j - 1) = j - 1 := (i64_w _).trans hw
     obtain ⟨ad2, ea2, hc2⟩ := Kd.at_int (Kd.R_reads' HR.out).2.2 (j - 1) d2 d3
     have e5 : rd out (j - 1) = rd out (m : Int) := by rw [hj]; congr 1; omega
     have e6 : (j - 1).toNat = j.toNat - 1 := by omega
     rw [e5, e6] at hc2
     cases ea2
     have HCALL := Aside0.mk (HP.out wr x (rd out (m : Int)) true HB.out hpx)
     have eg := HEG.out
     have HM := Aside0.mk (show j - 1 = (m : Int) by omega)
     have d2b := eq_true d2
     have d3b := eq_true d3
     have HPX := Aside0.mk hpx
     clear hj hnl hol hpx e5 e6
     go_wp2_with ((with_reducible refine (HCALL.out).mono ?_); rintro e w' ⟨rfl, hbc⟩; have n0 := Aside0.mk (Kd.R_below HR.out hbc); have n1 := Aside0.mk (below_step HB.out hbc); clear hbc HR HB; have HR := n0; have HB := n1; clear n0 n1 HCALL)
     go_roundg m
     case measure =>
      have := HN2.out
      omega
     case rel => exact ⟨_, m, rfl, HM, ⟨rfl⟩, ⟨by have := HNL.out; omega⟩, HK2, HR, HB⟩
    obtain ⟨hkn, hex⟩ := impl_sortedBy.insK_exit HK.out hcont
    clear hcont
    have hj := HJ.out
    have hnl := HNL.out
    have hol := HOL.out
    rcases hex with hn0 | ⟨m, hm, hpx⟩
    ·have d1 : decide (0 < j) = false := decide_eq_false (by omega)
     have HKK := Aside0.mk (show j = (kk : Int) by omega)
     have HKL := Aside0.mk (show kk ≤ out.length by omega)
     clear hn0 hj hnl hol hkn
     go_wp2_with (((with_reducible refine gate_builtin (b := .append) (xs := #[.tmp 31, .tmp 32]) rfl ?_); at_builtin; refine Kd.R_append (Kd.int .i64) (w0 := w) w.heap.size rfl (.tmp 31) (.tmp 32) 31 3 (.int .i64 0) 8 rfl Try.underlying31 (show (Try.prog.info? 3).map (fun i => (i.zero, i.size, i.bytes)) = some (some (.int .i64 0), 1, 8) from by kernel_rfl) rfl (by decide) (by omega) (.slice Ao out.length co) out 0 [.int .i64 0] (fun _ => True) (fun _ => False) rfl rfl ?aP (fun _ hk => hk.elim) ?aF ?aO ?aB ?aS ?aL ?_; (case aP => exact rfl); (case aB => exact bw HB.out); (case aF => exact (fun _ _ => trivial)); (case aO => exact (bR HR.out)); (case aS => exact (below_size (bw HB.out))); (case aL => have := HOL.out; omega); intro v8 w8 ho hb hg hat; have HR2 := Aside0.mk ho; have HB2 := Aside0.mk hb; clear ho hb hg hat HR HB; obtain ⟨A2, c2, e2⟩ := Kd.R_slice HR2.out; subst e2))
     cases HKK
     obtain ⟨go, c3, e3_, gb, gl, HG⟩ := Kd.R_form HR2.out (by simp)
     have ec_ : c2 = c3 := by injection e3_
     have eA_ : A2 = some ⟨go, 0, none⟩ := by injection e3_
     subst ec_ eA_
     clear e3_
     have HFC := Aside0.mk (show out.length + 1 ≤ c2 from by have := (Kd.R_reads' HR2.out).2.1; simpa using this)
     have HG_ := Aside0.mk HG
     have HGB := Aside0.mk gb
     clear HG gb gl
     have u1 : wrap64 ((kk : Int) + 1) = (kk : Int) + 1 := by have := HKL.out; have := HOL.out; unfold wrap64; omega
     have u2 : IntKind.i64.wrap ((kk : Int) + 1) = (kk : Int) + 1 := (i64_w _).trans u1
     have v1 : 0 ≤ (kk : Int) + 1 := by omega
     have v2 : (kk : Int) + 1 ≤ (out.length : Int) + 1 := by have := HKL.out; omega
     have v3 : (kk : Int) ≤ (out.length : Int) + 1 := by have := HKL.out; omega
     have v4 : 0 ≤ (kk : Int) := by omega
     have v5 : kk ≤ out.length := HKL.out
     have v6 : ¬ c2 = kk := by have := HKL.out; have := HFC.out; omega
     have v7 : ((kk : Int) + 1).toNat = kk + 1 := by omega
     go_still_tail 7, (show Try.prog.follows .mixedOrders = true from by rfl)
     obtain ⟨cur, hcur, hgo, hcl, hcopy⟩ := impl_sortedBy.sort_copied HR2.out (by simp)
     have HCP := Aside0.mk hcopy
     clear hcopy
     refine wpList_copy_splice rfl (.tmp 37) (.tmp 40) 31 31 rfl 3 Try.underlying31 (by kernel_rfl) (if c2 = kk + 1 then some ⟨go, 0, none⟩ else some ⟨go, kk + 1, none⟩) (some ⟨go, kk, none⟩) (out.length - kk) (c2 - (kk + 1)) (out.length + 1 - kk) (c2 - kk) rfl rfl go (kk + 1) cur 3 hcur ((out.drop kk).map (Value.int .i64)) ?cn ?cp ?cf ?c1 w.heap.size w ?cb hgo ?_
     case cn => rw [List.length_map, List.length_drop]; exact (Nat.min_eq_right (by omega)).symm
     case cp =>
      intro hpos
      have hpos' : kk < out.length := by simp at hpos; omega
      have := HFC.out
      refine ⟨if_neg (by omega), ⟨go, kk, none⟩, rfl, fun j v hj => ?_⟩
      rw [List.getElem?_map, List.getElem?_drop] at hj
      obtain ⟨y, hy, rfl⟩ := Option.map_eq_some_iff.mp hj
      have hlt := (List.getElem?_eq_some_iff.mp hy).1
      have hc8 := (Kd.R_celln 0 HR2.out ((kk + j : Nat) : Int) (by omega) (by rw [List.length_append, List.length_singleton]; omega)).1
      rw [Int.toNat_natCast, show rdOf 0 (out ++ [0]) ((kk + j : Nat) : Int) = y from by unfold rdOf; rw [Int.toNat_natCast, List.getD_eq_getElem?_getD, List.getElem?_append_left hlt, hy]; rfl] at hc8
      rw [show (⟨go, kk, none⟩ : Addr).add j = ⟨go, kk + j, none⟩ from by first | rfl | (simp only [add_plain]; done) | simp [Addr.add]]
      first | exact hc8 | (show (w8.drewN 1).cell? _ = _; simpa using hc8)
     case cf => simp; simp at hcl; omega
     case c1 => intro v hv; obtain ⟨y, _, rfl⟩ := List.mem_map.mp hv; rfl
     case cb => exact pw_below_drewN HB2.out 1
     intro w9 hg9 hb9
     have HR9 := Aside0.mk (HCP.out (out.drop kk) (kk + 1) w9 (by simp; omega) hg9)
     have HB9 := Aside0.mk hb9
     clear hg9 hb9 HCP hcur HR2 HB2 hcl
     generalize (if c2 = kk + 1 then some (⟨go, 0, none⟩ : Addr) else some ⟨go, kk + 1, none⟩) = A37
     have hkl := HKL.out
     have HR10 := Aside0.mk (show Kd.R (Kd.int .i64) 3 w9 w.heap.size (fun _ => True) (.slice (some ⟨go, 0, none⟩) (out.length + 1) c2) ((out ++ [0]).take (kk + 1) ++ out.drop kk) from by
      have := HR9.out
      rw [List.length_drop, show List.drop (kk + 1 + (out.length - kk)) (out ++ [0]) = [] from List.drop_of_length_le (by rw [List.length_append, List.length_singleton]; omega), List.append_nil, List.length_append, List.length_singleton] at this
      exact this)
     clear HR9
     obtain ⟨hy, hz⟩ := Kd.R_celln 0 HR10.out (kk : Int) v4 (by omega)
     have HP10 := Kd.R_putg HR10.out (kk : Int) x
     rw [Int.toNat_natCast] at hy hz HP10
     have w1_ : (kk : Int) < (out.length : Int) + 1 := by omega
     clear hkl
     go_wp2_with ((with_reducible refine gate_store (t := 3) (p := 45) rfl ?_); refine store_event (t := 3) (p := 45) (v := ?vo_w78) (w1 := (w9.setCell ⟨go, kk, none⟩ (.int .i64 x))) ?hg ?ho ?hn ?hr ?_; (case ho => rfl); (case hg => rfl); (case hn => rfl); (case hr => first | (go_simp; done) | (go_simp; rfl)); intro w10 hw; have HR11 := Aside0.mk (show Kd.R (Kd.int .i64) 3 w10 w.heap.size (fun _ => True) (.slice (some ⟨go, 0, none⟩) (out.length + 1) c2) (((out ++ [0]).take (kk + 1) ++ out.drop kk).set kk x) from (by rw [hw]; exact HP10.1)); have HB11 := Aside0.mk ((by rw [hw]; exact below_set HB9.out hgo : Below w.heap.size w w10)); clear HP10 hw HR10 HB9)
     clear hy hz
     go_roundg rest.length
     case measure =>
      have := HN.out
      simp only [List.length_cons] at this
      omega
     case rel =>
      have hi := HI.out
      have hl := HL.out
      have hw1 : wrap64 (i + 1) = i + 1 := by
       have := HLN.out
       unfold wrap64
       omega
      refine ⟨_, pre ++ [x], rest, impl_sortedBy.insL out kk x, rfl, ⟨?_⟩, ⟨?_⟩, ⟨rfl⟩, ⟨?_⟩, HS, ⟨?_⟩, HB11⟩
      ·rw [hw1, List.length_append, List.length_singleton]
       omega
      ·rw [HA.out, List.append_assoc]
       rfl
      ·have := HO.out
       simp only [impl_sortedBy.insL, List.length_append, List.length_take, List.length_cons, List.length_drop, List.length_nil]
       have := HKL.out
       omega
      ·rw [← impl_sortedBy.set_copied x HKL.out]
       exact HR11.out
    ·have d1 : decide (0 < j) = true := decide_eq_true (by omega)
     have d2 : 0 ≤ j - 1 := by omega
     have d3 : j - 1 < (out.length : Int) := by omega
     have d6 : j ≤ 1000000 := by omega
     have d7 : 0 < j := by omega
     have hw : wrap64 (j - 1) = j - 1 := by unfold wrap64; omega
     have hw2 : IntKind.i64.wrap (j - 1) = j - 1 := (i64_w _).trans hw
     obtain ⟨ad2, ea2, hc2⟩ := Kd.at_int (Kd.R_reads' HR.out).2.2 (j - 1) d2 d3
     have e5 : rd out (j - 1) = rd out (m : Int) := by rw [hj]; congr 1; omega
     have e6 : (j - 1).toNat = j.toNat - 1 := by omega
     rw [e5, e6] at hc2
     cases ea2
     have HCALL := Aside0.mk (HP.out wr x (rd out (m : Int)) false HB.out hpx)
     have eg := HEG.out
     have HKK := Aside0.mk (show j = (kk : Int) by omega)
     have HKL := Aside0.mk (show kk ≤ out.length by omega)
     have d2b := eq_true d2
     have d3b := eq_true d3
     clear hj hnl hol hpx e5 e6 hkn hm
     go_wp2_with (first | ((with_reducible refine (HCALL.out).mono ?_); rintro e w' ⟨rfl, hbc⟩; have n0 := Aside0.mk (Kd.R_below HR.out hbc); have n1 := Aside0.mk (below_step HB.out hbc); clear hbc HR HB; have HR := n0; have HB := n1; clear n0 n1 HCALL) | (((with_reducible refine gate_builtin (b := .append) (xs := #[.tmp 31, .tmp 32]) rfl ?_); at_builtin; refine Kd.R_append (Kd.int .i64) (w0 := w) w.heap.size rfl (.tmp 31) (.tmp 32) 31 3 (.int .i64 0) 8 rfl Try.underlying31 (show (Try.prog.info? 3).map (fun i => (i.zero, i.size, i.bytes)) = some (some (.int .i64 0), 1, 8) from by kernel_rfl) rfl (by decide) (by omega) (.slice (some ad2) out.length co) out 0 [.int .i64 0] (fun _ => True) (fun _ => False) rfl rfl ?aP (fun _ hk => hk.elim) ?aF ?aO ?aB ?aS ?aL ?_; (case aP => exact rfl); (case aB => exact bw HB.out); (case aF => exact (fun _ _ => trivial)); (case aO => exact (bR HR.out)); (case aS => exact (below_size (bw HB.out))); (case aL => have := HOL.out; omega); intro v8 w8 ho hb hg hat; have HR2 := Aside0.mk ho; have HB2 := Aside0.mk hb; clear ho hb hg hat HR HB; obtain ⟨A2, c2, e2⟩ := Kd.R_slice HR2.out; subst e2)))
     cases HKK
     obtain ⟨go, c3, e3_, gb, gl, HG⟩ := Kd.R_form HR2.out (by simp)
     have ec_ : c2 = c3 := by injection e3_
     have eA_ : A2 = some ⟨go, 0, none⟩ := by injection e3_
     subst ec_ eA_
     clear e3_
     have HFC := Aside0.mk (show out.length + 1 ≤ c2 from by have := (Kd.R_reads' HR2.out).2.1; simpa using this)
     have HG_ := Aside0.mk HG
     have HGB := Aside0.mk gb
     clear HG gb gl
     have u1 : wrap64 ((kk : Int) + 1) = (kk : Int) + 1 := by have := HKL.out; have := HOL.out; unfold wrap64; omega
     have u2 : IntKind.i64.wrap ((kk : Int) + 1) = (kk : Int) + 1 := (i64_w _).trans u1
     have v1 : 0 ≤ (kk : Int) + 1 := by omega
     have v2 : (kk : Int) + 1 ≤ (out.length : Int) + 1 := by have := HKL.out; omega
     have v3 : (kk : Int) ≤ (out.length : Int) + 1 := by have := HKL.out; omega
     have v4 : 0 ≤ (kk : Int) := by omega
     have v5 : kk ≤ out.length := HKL.out
     have v6 : ¬ c2 = kk := by have := HKL.out; have := HFC.out; omega
     have v7 : ((kk : Int) + 1).toNat = kk + 1 := by omega
     go_still_tail 7, (show Try.prog.follows .mixedOrders = true from by rfl)
     obtain ⟨cur, hcur, hgo, hcl, hcopy⟩ := impl_sortedBy.sort_copied HR2.out (by simp)
     have HCP := Aside0.mk hcopy
     clear hcopy
     refine wpList_copy_splice rfl (.tmp 37) (.tmp 40) 31 31 rfl 3 Try.underlying31 (by kernel_rfl) (if c2 = kk + 1 then some ⟨go, 0, none⟩ else some ⟨go, kk + 1, none⟩) (some ⟨go, kk, none⟩) (out.length - kk) (c2 - (kk + 1)) (out.length + 1 - kk) (c2 - kk) rfl rfl go (kk + 1) cur 3 hcur ((out.drop kk).map (Value.int .i64)) ?cn ?cp ?cf ?c1 w.heap.size w ?cb hgo ?_
     case cn => rw [List.length_map, List.length_drop]; exact (Nat.min_eq_right (by omega)).symm
     case cp =>
      intro hpos
      have hpos' : kk < out.length := by simp at hpos; omega
      have := HFC.out
      refine ⟨if_neg (by omega), ⟨go, kk, none⟩, rfl, fun j v hj => ?_⟩
      rw [List.getElem?_map, List.getElem?_drop] at hj
      obtain ⟨y, hy, rfl⟩ := Option.map_eq_some_iff.mp hj
      have hlt := (List.getElem?_eq_some_iff.mp hy).1
      have hc8 := (Kd.R_celln 0 HR2.out ((kk + j : Nat) : Int) (by omega) (by rw [List.length_append, List.length_singleton]; omega)).1
      rw [Int.toNat_natCast, show rdOf 0 (out ++ [0]) ((kk + j : Nat) : Int) = y from by unfold rdOf; rw [Int.toNat_natCast, List.getD_eq_getElem?_getD, List.getElem?_append_left hlt, hy]; rfl] at hc8
      rw [show (⟨go, kk, none⟩ : Addr).add j = ⟨go, kk + j, none⟩ from by first | rfl | (simp only [add_plain]; done) | simp [Addr.add]]
      first | exact hc8 | (show (w8.drewN 1).cell? _ = _; simpa using hc8)
     case cf => simp; simp at hcl; omega
     case c1 => intro v hv; obtain ⟨y, _, rfl⟩ := List.mem_map.mp hv; rfl
     case cb => exact pw_below_drewN HB2.out 1
     intro w9 hg9 hb9
     have HR9 := Aside0.mk (HCP.out (out.drop kk) (kk + 1) w9 (by simp; omega) hg9)
     have HB9 := Aside0.mk hb9
     clear hg9 hb9 HCP hcur HR2 HB2 hcl
     generalize (if c2 = kk + 1 then some (⟨go, 0, none⟩ : Addr) else some ⟨go, kk + 1, none⟩) = A37
     have hkl := HKL.out
     have HR10 := Aside0.mk (show Kd.R (Kd.int .i64) 3 w9 w.heap.size (fun _ => True) (.slice (some ⟨go, 0, none⟩) (out.length + 1) c2) ((out ++ [0]).take (kk + 1) ++ out.drop kk) from by
      have := HR9.out
      rw [List.length_drop, show List.drop (kk + 1 + (out.length - kk)) (out ++ [0]) = [] from List.drop_of_length_le (by rw [List.length_append, List.length_singleton]; omega), List.append_nil, List.length_append, List.length_singleton] at this
      exact this)
     clear HR9
     obtain ⟨hy, hz⟩ := Kd.R_celln 0 HR10.out (kk : Int) v4 (by omega)
     have HP10 := Kd.R_putg HR10.out (kk : Int) x
     rw [Int.toNat_natCast] at hy hz HP10
     have w1_ : (kk : Int) < (out.length : Int) + 1 := by omega
     clear hkl
     go_wp2_with ((with_reducible refine gate_store (t := 3) (p := 45) rfl ?_); refine store_event (t := 3) (p := 45) (v := ?vo_w78) (w1 := (w9.setCell ⟨go, kk, none⟩ (.int .i64 x))) ?hg ?ho ?hn ?hr ?_; (case ho => rfl); (case hg => rfl); (case hn => rfl); (case hr => first | (go_simp; done) | (go_simp; rfl)); intro w10 hw; have HR11 := Aside0.mk (show Kd.R (Kd.int .i64) 3 w10 w.heap.size (fun _ => True) (.slice (some ⟨go, 0, none⟩) (out.length + 1) c2) (((out ++ [0]).take (kk + 1) ++ out.drop kk).set kk x) from (by rw [hw]; exact HP10.1)); have HB11 := Aside0.mk ((by rw [hw]; exact below_set HB9.out hgo : Below w.heap.size w w10)); clear HP10 hw HR10 HB9)
     clear hy hz
     go_roundg rest.length
     case measure =>
      have := HN.out
      simp only [List.length_cons] at this
      omega
     case rel =>
      have hi := HI.out
      have hl := HL.out
      have hw1 : wrap64 (i + 1) = i + 1 := by
       have := HLN.out
       unfold wrap64
       omega
      refine ⟨_, pre ++ [x], rest, impl_sortedBy.insL out kk x, rfl, ⟨?_⟩, ⟨?_⟩, ⟨rfl⟩, ⟨?_⟩, HS, ⟨?_⟩, HB11⟩
      ·rw [hw1, List.length_append, List.length_singleton]
       omega
      ·rw [HA.out, List.append_assoc]
       rfl
      ·have := HO.out
       simp only [impl_sortedBy.insL, List.length_append, List.length_take, List.length_cons, List.length_drop, List.length_nil]
       have := HKL.out
       omega
      ·rw [← impl_sortedBy.set_copied x HKL.out]
       exact HR11.out

/-! ### laws_eqIntS: function 18 -/
def laws_eqIntS.l0 : Nat → List Int → List Int → Int → Option (Bool)
 | 0, _, _, _ => none
 | k + 1, x0, x1, x5 => if x5 < (x0.length : Int) then (if 0 ≤ x5 then (if x5 < (x1.length : Int) then (if (rd x0 x5) = (rd x1 x5) then (laws_eqIntS.l0 k x0 x1 (wrap64 (x5 + 1))) else (some false)) else (none)) else (none)) else (some true)
def laws_eqIntS.f (k : Nat) (l0 : List Int) (l1 : List Int) : Option (Bool) := if (l0.length : Int) = (l1.length : Int) then (laws_eqIntS.l0 k l0 l1 0) else (some false)
theorem laws_eqIntS.mono_l : ∀ k, (∀ y0 y1 y2, LeO (laws_eqIntS.l0 k y0 y1 y2) (laws_eqIntS.l0 (k + 1) y0 y1 y2))
 | 0 => fun _ _ _ r h => by simp [laws_eqIntS.l0] at h
 | k + 1 => by
  have ih0 := laws_eqIntS.mono_l k
  ·intro y0 y1 y2
   unfold laws_eqIntS.l0
   repeat' first
   | (with_reducible exact ih0 _ _ _)
   | (with_reducible exact LeO.refl _)
   | (with_reducible exact LeO.none _)
   | (with_reducible refine LeO.ite ?_ ?_)
   | (with_reducible refine LeO.bind ?_ (fun _ => ?_))
   | exact ih0 _ _ _
   | exact LeO.none _
   | refine LeO.ite ?_ ?_
   | refine LeO.bind ?_ (fun _ => ?_)
theorem laws_eqIntS.mono : ∀ a0 a1 k, LeO (laws_eqIntS.f k a0 a1) (laws_eqIntS.f (k + 1) a0 a1) := by
 intro a0 a1 k
 have ih0 := laws_eqIntS.mono_l k
 unfold laws_eqIntS.f
 repeat' first
   | (with_reducible exact ih0 _ _ _)
   | (with_reducible exact LeO.refl _)
   | (with_reducible exact LeO.none _)
   | (with_reducible refine LeO.ite ?_ ?_)
   | (with_reducible refine LeO.bind ?_ (fun _ => ?_))
   | exact ih0 _ _ _
   | exact LeO.none _
   | refine LeO.ite ?_ ?_
   | refine LeO.bind ?_ (fun _ => ?_)
set_option maxHeartbeats 8000000 in
set_option maxRecDepth 100000 in
theorem laws_eqIntS.calls (k : Nat) (A0 : Option Addr) (c0 : Nat) (l0 : List Int) (A1 : Option Addr) (c1 : Nat) (l1 : List Int) (r : Bool) (w : World) (hr0 : Kd.C (Kd.int .i64) w A0 l0.length l0) (hc0 : l0.length ≤ c0) (hr1 : Kd.C (Kd.int .i64) w A1 l1.length l1) (hc1 : l1.length ≤ c1) (h : laws_eqIntS.f k l0 l1 = some r) :
  Calls Try.prog 18 #[.slice A0 l0.length c0, .slice A1 l1.length c1] w fun e w' => e = .returned (.bool r) ∧ Drawn0 w w' := by
 have HR0 := Aside0.mk hr0
 have HC0 := Aside0.mk hc0
 clear hr0 hc0
 have HR1 := Aside0.mk hr1
 have HC1 := Aside0.mk hc1
 clear hr1 hc1
 have H : (if (l0.length : Int) = (l1.length : Int) then (laws_eqIntS.l0 k l0 l1 0) else (some false)) = some r := h
 clear h
 by_cases c3 : (l0.length : Int) = (l1.length : Int)
 rotate_left
 ·rw [if_neg c3] at H
  have c3b0 : ((l0.length : Int) == (l1.length : Int)) = false := beq_eq_false_iff_ne.mpr c3
  have c3b1 : ((l0.length : Int) != (l1.length : Int)) = true := bne_iff_ne.mpr c3
  have c3b2 : (l0.length == l1.length) = false := by first | simpa using c3 | (simp at c3 ⊢; omega)
  obtain rfl := Option.some.inj H
  go_enter Try.func18, Try.ntmps18
  go_wp2
  repeat (go_quiet (fail); try go_wp2)
  go_ret
  exact ⟨by first | rfl | (simp; done) | (simp [*]; done), by repeat (first | exact Drawn0.refl _ | apply Drawn0.step)⟩
 rw [if_pos c3] at H
 have c3b0 : ((l0.length : Int) == (l1.length : Int)) = true := beq_iff_eq.mpr c3
 have c3b1 : ((l0.length : Int) != (l1.length : Int)) = false := bne_eq_false_iff_eq.mpr c3
 have c3b2 : (l0.length == l1.length) = true := by first | simpa using c3 | (simp at c3 ⊢; omega)
 clear c3
 have H' := Aside0.mk H
 clear H
 go_enter Try.func18, Try.ntmps18
 go_wp2
 repeat (go_quiet (fail); try go_wp2)
 go_loopg [5] k (fun kq v5 w' => ∃ (x5_1 : Int), v5 = .int .i64 x5_1 ∧ Aside0 (laws_eqIntS.l0 kq l0 l1 x5_1 = some r) ∧ Aside0 (kq ≤ k) ∧ Drawn0 w w')
 case atStart => exact ⟨(0), (by first | rfl | (simp; done) | (simp [*]; done)), H', ⟨Nat.le_refl _⟩, by repeat (first | exact Drawn0.refl _ | apply Drawn0.step)⟩
 case round =>
  clear H'
  try clear c1
  try clear p2
  try clear c3
  try clear c3b0
  try clear c3b1
  try clear c3b2
  obtain ⟨x5_1, rfl, HA, HK1, ⟨m1, rfl⟩⟩ := hrel
  cases gk with
  | zero => exact absurd HA.out (by simp [laws_eqIntS.l0])
  | succ k1 =>
   have H := HA.out
   clear HA
   simp only [laws_eqIntS.l0] at H
   by_cases c4 : x5_1 < (l0.length : Int)
   rotate_left
   ·rw [if_neg c4] at H
    have c4b0 : decide (x5_1 < (l0.length : Int)) = false := decide_eq_false c4
    clear c4
    obtain rfl := Option.some.inj H
    go_wp2
    repeat (go_quiet (fail); try go_wp2)
    go_ret
    exact ⟨by first | rfl | (simp; done) | (simp [*]; done), by repeat (first | exact Drawn0.refl _ | apply Drawn0.step)⟩
   rw [if_pos c4] at H
   have c4b0 : decide (x5_1 < (l0.length : Int)) = true := decide_eq_true c4
   clear c4
   by_cases c5 : 0 ≤ x5_1
   rotate_left
   ·rw [if_neg c5] at H
    exact absurd H (by simp)
   rw [if_pos c5] at H
   have c5b0 : decide (0 ≤ x5_1) = true := decide_eq_true c5
   clear c5
   by_cases c6 : x5_1 < (l1.length : Int)
   rotate_left
   ·rw [if_neg c6] at H
    exact absurd H (by simp)
   rw [if_pos c6] at H
   have c6b0 : decide (x5_1 < (l1.length : Int)) = true := decide_eq_true c6
   clear c6
   by_cases c7 : (rd l0 x5_1) = (rd l1 x5_1)
   rotate_left
   ·rw [if_neg c7] at H
    have c7b0 : ((rd l0 x5_1) == (rd l1 x5_1)) = false := beq_eq_false_iff_ne.mpr c7
    have c7b1 : ((rd l0 x5_1) != (rd l1 x5_1)) = true := bne_iff_ne.mpr c7
    obtain rfl := Option.some.inj H
    have p374 : 0 ≤ (x5_1 : Int) := of_decide_eq_true (by first | (with_reducible assumption) | assumption)
    have q374 : x5_1 < (l0.length : Int) := of_decide_eq_true (by first | (with_reducible assumption) | assumption)
    obtain ⟨ad374, e374, hx374_0⟩ := Kd.at_int HR0.out x5_1 p374 q374
    cases e374
    replace p374 := eq_true p374
    replace q374 := eq_true q374
    have p375 : 0 ≤ (x5_1 : Int) := of_decide_eq_true (by first | (with_reducible assumption) | assumption)
    have q375 : x5_1 < (l1.length : Int) := of_decide_eq_true (by first | (with_reducible assumption) | assumption)
    obtain ⟨ad375, e375, hx375_0⟩ := Kd.at_int HR1.out x5_1 p375 q375
    cases e375
    replace p375 := eq_true p375
    replace q375 := eq_true q375
    go_wp2
    repeat (go_quiet (fail); try go_wp2)
    go_ret
    exact ⟨by first | rfl | (simp; done) | (simp [*]; done), by repeat (first | exact Drawn0.refl _ | apply Drawn0.step)⟩
   rw [if_pos c7] at H
   have c7b0 : ((rd l0 x5_1) == (rd l1 x5_1)) = true := beq_iff_eq.mpr c7
   have c7b1 : ((rd l0 x5_1) != (rd l1 x5_1)) = false := bne_eq_false_iff_eq.mpr c7
   clear c7
   have H' := Aside0.mk H
   clear H
   have p374 : 0 ≤ (x5_1 : Int) := of_decide_eq_true (by first | (with_reducible assumption) | assumption)
   have q374 : x5_1 < (l0.length : Int) := of_decide_eq_true (by first | (with_reducible assumption) | assumption)
   obtain ⟨ad374, e374, hx374_0⟩ := Kd.at_int HR0.out x5_1 p374 q374
   cases e374
   replace p374 := eq_true p374
   replace q374 := eq_true q374
   have p375 : 0 ≤ (x5_1 : Int) := of_decide_eq_true (by first | (with_reducible assumption) | assumption)
   have q375 : x5_1 < (l1.length : Int) := of_decide_eq_true (by first | (with_reducible assumption) | assumption)
   obtain ⟨ad375, e375, hx375_0⟩ := Kd.at_int HR1.out x5_1 p375 q375
   cases e375
   replace p375 := eq_true p375
   replace q375 := eq_true q375
   go_wp2
   repeat (go_quiet (fail); try go_wp2)
   go_roundg k1
   case measure => have := HK1.out; omega
   case rel => exact ⟨(wrap64 (x5_1 + 1)), (by first | rfl | (simp; done) | (simp [*]; done)), H', ⟨by have := HK1.out; omega⟩, by repeat (first | exact Drawn0.refl _ | apply Drawn0.step)⟩

end Go.Proofs.Ytpdjnbbikgkgpaa.X
