-- Written by a program of this session (wip/gen/xp.py, over the kit's printer). Not trusted: Lean checks it.
import Derived.Test.YtmfdbdpgfbpbpaaX0
import Derived.Test.YtmfdbdpgfbpbpaaXf5
namespace Go.Proofs.Ytmfdbdpgfbpbpaa.X
open Go.RowKit Go.Proofs.YtmfdbdpgfbpbpaaW.PrintWords Go.Proofs.YtmfdbdpgfbpbpaaW.PrintLast Go.Proofs.YtmfdbdpgfbpbpaaW.PrintMore
attribute [local go_sem] max2_int min2_int max_two min_two max_three min_three max_four min_four   -- for this text's walks alone
set_option linter.unusedVariables false
set_option linter.unusedSimpArgs false

/-! ### impl_isSet: function 22 -/
def impl_isSet.f (k : Nat) (a0 : Int) (l1 : List Int) : Option (Bool) := (impl_isRising.f k l1).bind fun t183 => (if t183 = true then ((impl_areDifferent.f k a0 l1).bind fun t184 => (some t184)) else (some false))
theorem impl_isSet.mono : ∀ a0 a1 k, LeO (impl_isSet.f k a0 a1) (impl_isSet.f (k + 1) a0 a1) := by
 intro a0 a1 k
 unfold impl_isSet.f
 repeat' first
   | (with_reducible exact impl_areDifferent.mono _ _ _)
   | (with_reducible exact impl_isRising.mono _ _)
   | (with_reducible exact LeO.refl _)
   | (with_reducible exact LeO.none _)
   | (with_reducible refine LeO.ite ?_ ?_)
   | (with_reducible refine LeO.bind ?_ (fun _ => ?_))
   | exact impl_areDifferent.mono _ _ _
   | exact impl_isRising.mono _ _
   | exact LeO.none _
   | refine LeO.ite ?_ ?_
   | refine LeO.bind ?_ (fun _ => ?_)
set_option maxHeartbeats 8000000 in
set_option maxRecDepth 100000 in
theorem impl_isSet.calls (k : Nat) (a0 : Int) (A1 : Option Addr) (c1 : Nat) (l1 : List Int) (r : Bool) (w : World) (hr1 : Kd.C (Kd.int .i64) w A1 l1.length l1) (hc1 : l1.length ≤ c1) (h : impl_isSet.f k a0 l1 = some r) :
  Calls Try.prog 22 #[.int .i64 a0, .slice A1 l1.length c1] w fun e w' => e = .returned (.bool r) ∧ Drawn0 w w' := by
 have HR1 := Aside0.mk hr1
 have HC1 := Aside0.mk hc1
 clear hr1 hc1
 have H : ((impl_isRising.f k l1).bind fun t183 => (if t183 = true then ((impl_areDifferent.f k a0 l1).bind fun t184 => (some t184)) else (some false))) = some r := h
 clear h
 replace H := Option.bind_eq_some_iff.mp H
 obtain ⟨t183, A30, H⟩ := H
 replace H : (if t183 = true then ((impl_areDifferent.f k a0 l1).bind fun t184 => (some t184)) else (some false)) = some r := H
 have A3 := Aside0.mk A30
 clear A30
 by_cases c4 : t183 = true
 rotate_left
 ·replace c4 := Bool.eq_false_iff.mpr c4
  subst c4
  have H1 : (some false) = some r := by rw [if_neg (show ¬ (false = true) by decide)] at H; exact H
  clear H
  have H := H1
  clear H1
  obtain rfl := Option.some.inj H
  go_enter Try.func22, Try.ntmps22
  go_wp2_with (first | ((with_reducible refine gate_callee (f := 37) rfl ?_); refine goesL_ (some 6) rfl rfl Try.func37 (by kernel_rfl) rfl #[.slice A1 l1.length c1] rfl (by (try simp only [mA_]); first | done | rfl | (simp only [List.length_drop, List.length_take]; rfl)) ?_; (with_reducible refine (impl_isRising.calls k _ _ l1 false _ ?side1 ?side2 A3.out).mono ?_); (case side1 => repeat (first | exact HR1.out | (with_reducible refine Kd.C_alloc ?_ _) | (with_reducible refine Kd.C_drewN ?_ _) | (with_reducible refine Kd.C_drew ?_))); (case side2 => exact HC1.out); rintro e w' ⟨rfl, ⟨nd, rfl⟩⟩; refine ⟨_, rfl, ?_⟩))
  go_ret
  exact ⟨by first | rfl | (simp; done) | (simp [*]; done), by repeat (first | exact Drawn0.refl _ | apply Drawn0.step)⟩
 subst c4
 have H1 : ((impl_areDifferent.f k a0 l1).bind fun t184 => (some t184)) = some r := by rw [if_pos rfl] at H; exact H
 clear H
 have H := H1
 clear H1
 replace H := Option.bind_eq_some_iff.mp H
 obtain ⟨t184, A50, H⟩ := H
 replace H : (some t184) = some r := H
 have A5 := Aside0.mk A50
 clear A50
 obtain rfl := Option.some.inj H
 go_enter Try.func22, Try.ntmps22
 go_wp2_with (first | ((with_reducible refine gate_callee (f := 37) rfl ?_); refine goesL_ (some 6) rfl rfl Try.func37 (by kernel_rfl) rfl #[.slice A1 l1.length c1] rfl (by (try simp only [mA_]); first | done | rfl | (simp only [List.length_drop, List.length_take]; rfl)) ?_; (with_reducible refine (impl_isRising.calls k _ _ l1 true _ ?side1 ?side2 A3.out).mono ?_); (case side1 => repeat (first | exact HR1.out | (with_reducible refine Kd.C_alloc ?_ _) | (with_reducible refine Kd.C_drewN ?_ _) | (with_reducible refine Kd.C_drew ?_))); (case side2 => exact HC1.out); rintro e w' ⟨rfl, ⟨nd, rfl⟩⟩; refine ⟨_, rfl, ?_⟩) | (go_at_call 38; (with_reducible refine (impl_areDifferent.calls k a0 _ _ l1 t184 _ ?side1 ?side2 A5.out).mono ?_); (case side1 => repeat (first | exact HR1.out | (with_reducible refine Kd.C_alloc ?_ _) | (with_reducible refine Kd.C_drewN ?_ _) | (with_reducible refine Kd.C_drew ?_))); (case side2 => exact HC1.out); rintro e w' ⟨rfl, ⟨nd, rfl⟩⟩))
 go_ret
 exact ⟨by first | rfl | (simp; done) | (simp [*]; done), by repeat (first | exact Drawn0.refl _ | apply Drawn0.step)⟩

/-! ### impl_sortedBy: function 29 -/
def impl_sortedBy.f (l0 : List (Int)) : Option (List Int) := none   -- (its closure is not in the printed shape: callers are written by hand)
/-- Where a number is put: behind all that it should not be ahead of. -/
def impl_sortedBy.insK (p : Int → Int → Option Bool) (i : Int) (out : List Int) : Nat → Option Nat
 | 0 => some 0
 | k + 1 => (p i (rd out (k : Int))).bind fun b => if b = true then impl_sortedBy.insK p i out k else some (k + 1)
def impl_sortedBy.insL (out : List Int) (k : Nat) (i : Int) : List Int := out.take k ++ i :: out.drop k
def impl_sortedBy.sortO (p : Int → Int → Option Bool) : List Int → List Int → Option (List Int)
 | [], out => some out
 | i :: r, out => (impl_sortedBy.insK p i out out.length).bind fun k => impl_sortedBy.sortO p r (impl_sortedBy.insL out k i)
theorem impl_sortedBy.insK_le {p : Int → Int → Option Bool} {i : Int} {out : List Int} : ∀ {n k : Nat}, impl_sortedBy.insK p i out n = some k → k ≤ n
 | 0, k, h => by
  simp only [impl_sortedBy.insK, Option.some.injEq] at h
  omega
 | n + 1, k, h => by
  rw [impl_sortedBy.insK] at h
  obtain ⟨b, hb, h⟩ := Option.bind_eq_some_iff.mp h
  cases b with
  | true => rw [if_pos rfl] at h; have := impl_sortedBy.insK_le h; omega
  | false => simp only [Bool.false_eq_true, if_false, Option.some.injEq] at h; omega
theorem impl_sortedBy.insK_exit {p : Int → Int → Option Bool} {i : Int} {out : List Int} {n k : Nat} (h : impl_sortedBy.insK p i out n = some k) (hc : ¬ ∃ m, n = m + 1 ∧ p i (rd out (m : Int)) = some true) : n = k ∧ (n = 0 ∨ ∃ m, n = m + 1 ∧ p i (rd out (m : Int)) = some false) := by
 cases n with
 | zero =>
  simp only [impl_sortedBy.insK, Option.some.injEq] at h
  exact ⟨h, .inl rfl⟩
 | succ m =>
  rw [impl_sortedBy.insK] at h
  obtain ⟨b, hb, h⟩ := Option.bind_eq_some_iff.mp h
  cases b with
  | true => exact absurd ⟨m, rfl, hb⟩ hc
  | false =>
   simp only [Bool.false_eq_true, if_false, Option.some.injEq] at h
   exact ⟨h, .inr ⟨m, rfl, hb⟩⟩
/-- What a function value answers for numbers that p answers, in every later world; it may draw and may lay new things. -/
def impl_sortedBy.AheadAt (g : Nat) (lb : Array Value) (p : Int → Int → Option Bool) (w : World) : Prop :=
 ∀ (W : World) (a b : Int) (r : Bool), Below w.heap.size w W → p a b = some r → Calls Try.prog g (#[.int .i64 a, .int .i64 b] ++ lb) W fun e w' => e = .returned (.bool r) ∧ Below W.heap.size W w'
theorem impl_sortedBy.sort_copied {W : World} {base go n c : Nat} {ok : Nat → Prop} {xs : List Int} (h : Kd.R (Kd.int .i64) 3 W base ok (.slice (some ⟨go, 0, none⟩) n c) xs) (hp : 0 < n) :
  ∃ cur : List Value, W.heap[go]? = some (.cells cur.toArray 3 (0, 0)) ∧ base ≤ go ∧ n ≤ cur.length ∧ ∀ (cs : List Int) (off : Nat) (W9 : World), off + cs.length ≤ n → W9.heap[go]? = some (.cells (splice cur off (cs.map (Value.int .i64))).toArray 3 (0, 0)) →
   Kd.R (Kd.int .i64) 3 W9 base ok (.slice (some ⟨go, 0, none⟩) n c) (xs.take off ++ (cs ++ xs.drop (off + cs.length))) := by
 have hown := Kd.own_of_R (show (Kd.scalar (Value.int .i64) (fun _ => rfl)).R 3 W base ok _ xs from h)
 obtain ⟨hl, hd⟩ := hown
 rcases hd with ⟨hv, _⟩ | ⟨g', cap', cur, hv, hb, hh, hnc, hcm, hcs, ht⟩
 ·cases hv
 ·injection hv with ha hn hc
  injection ha with ha
  injection ha with hg
  subst hg hc
  subst hn
  refine ⟨cur.toList, by simpa using hh, hb, by simp; omega, fun cs off W9 hfit h9 => ?_⟩
  refine Kd.R_of_own ⟨by simp [encs], .inr ⟨go, c, (splice cur.toList off (cs.map (Value.int .i64))).toArray, ?_, hb, h9, ?_, hcm, ?_, ?_⟩⟩ h.1
  ·simp; omega
  ·simp; omega
  ·have := length_splice cur.toList off (cs.map (Value.int .i64)) (by simp; omega)
   simpa [hcs] using this
  ·have e : (xs.take off ++ (cs ++ xs.drop (off + cs.length))).length = xs.length := by simp; omega
   rw [e, Nat.mul_one]
   rw [Nat.mul_one] at ht
   have e2 : cur.toList = encs (Value.int .i64) xs ++ cur.toList.drop xs.length := by
    rw [← ht]
    exact (List.take_append_drop _ _).symm
   generalize cur.toList.drop xs.length = s at e2
   have hE : (encs (Value.int .i64) xs).length = xs.length := encs_length xs
   show (splice cur.toList off (cs.map (Value.int .i64))).take xs.length = _
   rw [splice, e2, show (encs (Value.int .i64) xs ++ s).take off = (encs (Value.int .i64) xs).take off from List.take_append_of_le_length (by omega), show (encs (Value.int .i64) xs ++ s).drop (off + (cs.map (Value.int .i64)).length) = (encs (Value.int .i64) xs).drop (off + (cs.map (Value.int .i64)).length) ++ s from List.drop_append_of_le_length (by rw [List.length_map]; omega)]
   rw [show (encs (Value.int .i64) xs).take off ++ (cs.map (Value.int .i64) ++ ((encs (Value.int .i64) xs).drop (off + (cs.map (Value.int .i64)).length) ++ s)) = ((encs (Value.int .i64) xs).take off ++ (cs.map (Value.int .i64) ++ (encs (Value.int .i64) xs).drop (off + (cs.map (Value.int .i64)).length))) ++ s from by simp only [List.append_assoc]]
   rw [List.take_left' (by simp only [List.length_append, List.length_take, List.length_map, List.length_drop, hE]; omega)]
   simp only [encs, List.map_append, List.map_take, List.map_drop, List.length_map]
theorem impl_sortedBy.set_copied {out : List Int} {k : Nat} (x : Int) (h : k ≤ out.length) : ((out ++ [0]).take (k + 1) ++ out.drop k).set k x = impl_sortedBy.insL out k x := by
 have hA : ((out ++ [0]).take (k + 1)).length = k + 1 := by rw [List.length_take, List.length_append, List.length_singleton]; omega
 rw [List.set_eq_take_append_cons_drop, if_pos (by rw [List.length_append, hA]; omega), List.take_append_of_le_length (by omega), List.take_take, Nat.min_eq_left (by omega), List.take_append_of_le_length h, List.drop_left' hA]
 rfl
set_option maxHeartbeats 1600000 in
set_option maxRecDepth 100000 in
theorem impl_sortedBy.calls (g : Nat) (lb : Array Value) (p : Int → Int → Option Bool) (A0 : Option Addr) (c0 : Nat) (l0 r : List Int) (w : World) (hr0 : Kd.C (Kd.int .i64) w A0 l0.length l0) (hc0 : l0.length ≤ c0) (hl : l0.length ≤ 1000000)
  (heg : ∀ args w, (callFunc g args).run Try.prog w = .ok (.enter g args) w) (hp : impl_sortedBy.AheadAt g lb p w) (h : impl_sortedBy.sortO p l0 [] = some r) :
  Calls Try.prog 29 #[.slice A0 l0.length c0, .func (.func g) #[] lb] w fun e w' => ∃ v0_ : Value, e = .returned v0_ ∧ Kd.R (Kd.int .i64) 3 w' w.heap.size (fun _ => True) v0_ r ∧ Below w.heap.size w w' := by
 have HR0 := Aside0.mk hr0
 have HC0 := Aside0.mk hc0
 have HL := Aside0.mk hl
 have HP := Aside0.mk hp
 have HEG := Aside0.mk heg
 clear hr0 hc0 hp heg hl
 have HB := Aside0.mk (Below.refl w.heap.size w)
 have H' := Aside0.mk h
 clear h
 go_enter Try.func29, Try.ntmps29
 go_wp2
 go_loopg [5, 11] l0.length (fun kq v5 v11 w' => ∃ (i : Int) (pre rest out : List Int), v11 = .int .i64 i ∧ Aside0 (i = (pre.length : Int)) ∧ Aside0 (l0 = pre ++ rest) ∧ Aside0 (rest.length = kq) ∧ Aside0 (out.length = pre.length) ∧ Aside0 (impl_sortedBy.sortO p rest out = some r) ∧ Aside0 (Kd.R (Kd.int .i64) 3 w' w.heap.size (fun _ => True) v5 out) ∧ Aside0 (Below w.heap.size w w'))
 case atStart => exact ⟨0, [], l0, [], rfl, ⟨rfl⟩, ⟨rfl⟩, ⟨rfl⟩, ⟨rfl⟩, H', ⟨Kd.R_nil _ _ _ _ _⟩, HB⟩
 case round =>
  clear H' HB
  obtain ⟨i, pre, rest, out, rfl, HI, HA, HN, HO, H, HR, HB⟩ := hrel
  have hlen : l0.length = pre.length + rest.length := by rw [HA.out, List.length_append]
  have hi0 := HI.out
  cases rest with
  | nil =>
   simp only [List.length_nil, Nat.add_zero] at hlen
   have e3 : decide (i < (l0.length : Int)) = false := decide_eq_false (by omega)
   obtain rfl : out = r := by
    have := H.out
    simpa [impl_sortedBy.sortO] using this
   clear hlen hi0
   go_wp2
   go_ret
   exact ⟨_, rfl, HR.out, HB.out⟩
  | cons x rest =>
   simp only [List.length_cons] at hlen
   have hl9 := HL.out
   have e3 : decide (i < (l0.length : Int)) = true := decide_eq_true (by omega)
   have p1 : 0 ≤ i := by omega
   have q1 : i < (l0.length : Int) := by omega
   have hx : rd l0 i = x := by
    rw [HA.out, hi0]
    show (pre ++ x :: rest).getD (pre.length : Int).toNat 0 = x
    simp
   obtain ⟨ad, ea, hxc⟩ := Kd.at_int (Kd.C_below HR0.out HB.out) i p1 q1
   rw [hx] at hxc
   cases ea
   have HX := Aside0.mk hx
   clear hx
   obtain ⟨kk, hkk, hrest⟩ := Option.bind_eq_some_iff.mp (show (impl_sortedBy.insK p x out out.length).bind _ = some r from H.out)
   have HK := Aside0.mk hkk
   have HS := Aside0.mk hrest
   clear hkk hrest
   obtain ⟨Ao, co, eo⟩ := Kd.R_slice HR.out
   subst eo
   have HOL := Aside0.mk (show out.length ≤ 1000000 from by have := HO.out; omega)
   have p1b := eq_true p1
   have q1b := eq_true q1
   have HLN := Aside0.mk hlen
   clear hlen hi0 hl9 p1 q1
   go_wp2
   go_loopg [8] out.length (fun kq v8 w' => ∃ (j : Int) (n : Nat), v8 = .int .i64 j ∧ Aside0 (j = (n : Int)) ∧ Aside0 (n = kq) ∧ Aside0 (n ≤ out.length) ∧ Aside0 (impl_sortedBy.insK p x out n = some kk) ∧ Aside0 (Kd.R (Kd.int .i64) 3 w' w.heap.size (fun _ => True) (.slice Ao out.length co) out) ∧ Aside0 (Below w.heap.size w w'))
   case atStart => exact ⟨_, out.length, rfl, ⟨rfl⟩, ⟨rfl⟩, ⟨Nat.le_refl _⟩, HK, HR, HB⟩
   case round =>
    clear HK HR HB hxc
    obtain ⟨j, n, rfl, HJ, HN2, HNL, HK, HR, HB⟩ := hrel
    by_cases hcont : ∃ m, n = m + 1 ∧ p x (rd out (m : Int)) = some true
    ·obtain ⟨m, rfl, hpx⟩ := hcont
     have hj := HJ.out
     have hnl := HNL.out
     have hol := HOL.out
     have HK2 : Aside0 (impl_sortedBy.insK p x out m = some kk) := ⟨by have := HK.out; rw [impl_sortedBy.insK, hpx] at this; exact this⟩
     have d1 : decide (0 < j) = true := decide_eq_true (by omega)
     have d2 : 0 ≤ j - 1 := by omega
     have d3 : j - 1 < (out.length : Int) := by omega
     have d6 : j ≤ 1000000 := by omega
     have d7 : 0 < j := by omega
     have hw : wrap64 (j - 1) = j - 1 := by unfold wrap64; omega
     have hw2 : IntKind.i64.wrap (j - 1) = j - 1 := (i64_w _).trans hw
     obtain ⟨ad2, ea2, hc2⟩ := Kd.at_int (Kd.R_reads' HR.out).2.2 (j - 1) d2 d3
     have e5 : rd out (j - 1) = rd out (m : Int) := by rw [hj]; congr 1; omega
     have e6 : (j - 1).toNat = j.toNat - 1 := by omega
     rw [e5, e6] at hc2
     cases ea2
     have HCALL := Aside0.mk (HP.out wr x (rd out (m : Int)) true HB.out hpx)
     have eg := HEG.out
     have HM := Aside0.mk (show j - 1 = (m : Int) by omega)
     have d2b := eq_true d2
     have d3b := eq_true d3
     have HPX := Aside0.mk hpx
     clear hj hnl hol hpx e5 e6
     go_wp2_with ((with_reducible refine (HCALL.out).mono ?_); rintro e w' ⟨rfl, hbc⟩; have n0 := Aside0.mk (Kd.R_below HR.out hbc); have n1 := Aside0.mk (below_step HB.out hbc); clear hbc HR HB; have HR := n0; have HB := n1; clear n0 n1 HCALL)
     go_roundg m
     case measure =>
      have := HN2.out
      omega
     case rel => exact ⟨_, m, rfl, HM, ⟨rfl⟩, ⟨by have := HNL.out; omega⟩, HK2, HR, HB⟩
    obtain ⟨hkn, hex⟩ := impl_sortedBy.insK_exit HK.out hcont
    clear hcont
    have hj := HJ.out
    have hnl := HNL.out
    have hol := HOL.out
    rcases hex with hn0 | ⟨m, hm, hpx⟩
    ·have d1 : decide (0 < j) = false := decide_eq_false (by omega)
     have HKK := Aside0.mk (show j = (kk : Int) by omega)
     have HKL := Aside0.mk (show kk ≤ out.length by omega)
     clear hn0 hj hnl hol hkn
     go_wp2_with (((with_reducible refine gate_builtin (b := .append) (xs := #[.tmp 31, .tmp 32]) rfl ?_); at_builtin; refine Kd.R_append (Kd.int .i64) (w0 := w) w.heap.size rfl (.tmp 31) (.tmp 32) 23 3 (.int .i64 0) 8 rfl Try.underlying23 (show (Try.prog.info? 3).map (fun i => (i.zero, i.size, i.bytes)) = some (some (.int .i64 0), 1, 8) from by kernel_rfl) rfl (by decide) (by omega) (.slice Ao out.length co) out 0 [.int .i64 0] (fun _ => True) (fun _ => False) rfl rfl ?aP (fun _ hk => hk.elim) ?aF ?aO ?aB ?aS ?aL ?_; (case aP => exact rfl); (case aB => exact bw HB.out); (case aF => exact (fun _ _ => trivial)); (case aO => exact (bR HR.out)); (case aS => exact (below_size (bw HB.out))); (case aL => have := HOL.out; omega); intro v8 w8 ho hb hg hat; have HR2 := Aside0.mk ho; have HB2 := Aside0.mk hb; clear ho hb hg hat HR HB; obtain ⟨A2, c2, e2⟩ := Kd.R_slice HR2.out; subst e2))
     cases HKK
     obtain ⟨go, c3, e3_, gb, gl, HG⟩ := Kd.R_form HR2.out (by simp)
     have ec_ : c2 = c3 := by injection e3_
     have eA_ : A2 = some ⟨go, 0, none⟩ := by injection e3_
     subst ec_ eA_
     clear e3_
     have HFC := Aside0.mk (show out.length + 1 ≤ c2 from by have := (Kd.R_reads' HR2.out).2.1; simpa using this)
     have HG_ := Aside0.mk HG
     have HGB := Aside0.mk gb
     clear HG gb gl
     have u1 : wrap64 ((kk : Int) + 1) = (kk : Int) + 1 := by have := HKL.out; have := HOL.out; unfold wrap64; omega
     have u2 : IntKind.i64.wrap ((kk : Int) + 1) = (kk : Int) + 1 := (i64_w _).trans u1
     have v1 : 0 ≤ (kk : Int) + 1 := by omega
     have v2 : (kk : Int) + 1 ≤ (out.length : Int) + 1 := by have := HKL.out; omega
     have v3 : (kk : Int) ≤ (out.length : Int) + 1 := by have := HKL.out; omega
     have v4 : 0 ≤ (kk : Int) := by omega
     have v5 : kk ≤ out.length := HKL.out
     have v6 : ¬ c2 = kk := by have := HKL.out; have := HFC.out; omega
     have v7 : ((kk : Int) + 1).toNat = kk + 1 := by omega
     go_still_tail 7, (show Try.prog.follows .mixedOrders = true from by rfl)
     obtain ⟨cur, hcur, hgo, hcl, hcopy⟩ := impl_sortedBy.sort_copied HR2.out (by simp)
     have HCP := Aside0.mk hcopy
     clear hcopy
     refine wpList_copy_splice rfl (.tmp 37) (.tmp 40) 23 23 rfl 3 Try.underlying23 (by kernel_rfl) (if c2 = kk + 1 then some ⟨go, 0, none⟩ else some ⟨go, kk + 1, none⟩) (some ⟨go, kk, none⟩) (out.length - kk) (c2 - (kk + 1)) (out.length + 1 - kk) (c2 - kk) rfl rfl go (kk + 1) cur 3 hcur ((out.drop kk).map (Value.int .i64)) ?cn ?cp ?cf ?c1 w.heap.size w ?cb hgo ?_
     case cn => rw [List.length_map, List.length_drop]; exact (Nat.min_eq_right (by omega)).symm
     case cp =>
      intro hpos
      have hpos' : kk < out.length := by simp at hpos; omega
      have := HFC.out
      refine ⟨if_neg (by omega), ⟨go, kk, none⟩, rfl, fun j v hj => ?_⟩
      rw [List.getElem?_map, List.getElem?_drop] at hj
      obtain ⟨y, hy, rfl⟩ := Option.map_eq_some_iff.mp hj
      have hlt := (List.getElem?_eq_some_iff.mp hy).1
      have hc8 := (Kd.R_celln 0 HR2.out ((kk + j : Nat) : Int) (by omega) (by rw [List.length_append, List.length_singleton]; omega)).1
      rw [Int.toNat_natCast, show rdOf 0 (out ++ [0]) ((kk + j : Nat) : Int) = y from by unfold rdOf; rw [Int.toNat_natCast, List.getD_eq_getElem?_getD, List.getElem?_append_left hlt, hy]; rfl] at hc8
      rw [show (⟨go, kk, none⟩ : Addr).add j = ⟨go, kk + j, none⟩ from by first | rfl | (simp only [add_plain]; done) | simp [Addr.add]]
      first | exact hc8 | (show (w8.drewN 1).cell? _ = _; simpa using hc8)
     case cf => simp; simp at hcl; omega
     case c1 => intro v hv; obtain ⟨y, _, rfl⟩ := List.mem_map.mp hv; rfl
     case cb => exact pw_below_drewN HB2.out 1
     intro w9 hg9 hb9
     have HR9 := Aside0.mk (HCP.out (out.drop kk) (kk + 1) w9 (by simp; omega) hg9)
     have HB9 := Aside0.mk hb9
     clear hg9 hb9 HCP hcur HR2 HB2 hcl
     generalize (if c2 = kk + 1 then some (⟨go, 0, none⟩ : Addr) else some ⟨go, kk + 1, none⟩) = A37
     have hkl := HKL.out
     have HR10 := Aside0.mk (show Kd.R (Kd.int .i64) 3 w9 w.heap.size (fun _ => True) (.slice (some ⟨go, 0, none⟩) (out.length + 1) c2) ((out ++ [0]).take (kk + 1) ++ out.drop kk) from by
      have := HR9.out
      rw [List.length_drop, show List.drop (kk + 1 + (out.length - kk)) (out ++ [0]) = [] from List.drop_of_length_le (by rw [List.length_append, List.length_singleton]; omega), List.append_nil, List.length_append, List.length_singleton] at this
      exact this)
     clear HR9
     obtain ⟨hy, hz⟩ := Kd.R_celln 0 HR10.out (kk : Int) v4 (by omega)
     have HP10 := Kd.R_putg HR10.out (kk : Int) x
     rw [Int.toNat_natCast] at hy hz HP10
     have w1_ : (kk : Int) < (out.length : Int) + 1 := by omega
     clear hkl
     go_wp2_with ((with_reducible refine gate_store (t := 3) (p := 45) rfl ?_); refine store_event (t := 3) (p := 45) (v := ?vo_w78) (w1 := (w9.setCell ⟨go, kk, none⟩ (.int .i64 x))) ?hg ?ho ?hn ?hr ?_; (case ho => rfl); (case hg => rfl); (case hn => rfl); (case hr => first | (go_simp; done) | (go_simp; rfl)); intro w10 hw; have HR11 := Aside0.mk (show Kd.R (Kd.int .i64) 3 w10 w.heap.size (fun _ => True) (.slice (some ⟨go, 0, none⟩) (out.length + 1) c2) (((out ++ [0]).take (kk + 1) ++ out.drop kk).set kk x) from (by rw [hw]; exact HP10.1)); have HB11 := Aside0.mk ((by rw [hw]; exact below_set HB9.out hgo : Below w.heap.size w w10)); clear HP10 hw HR10 HB9)
     clear hy hz
     go_roundg rest.length
     case measure =>
      have := HN.out
      simp only [List.length_cons] at this
      omega
     case rel =>
      have hi := HI.out
      have hl := HL.out
      have hw1 : wrap64 (i + 1) = i + 1 := by
       have := HLN.out
       unfold wrap64
       omega
      refine ⟨_, pre ++ [x], rest, impl_sortedBy.insL out kk x, rfl, ⟨?_⟩, ⟨?_⟩, ⟨rfl⟩, ⟨?_⟩, HS, ⟨?_⟩, HB11⟩
      ·rw [hw1, List.length_append, List.length_singleton]
       omega
      ·rw [HA.out, List.append_assoc]
       rfl
      ·have := HO.out
       simp only [impl_sortedBy.insL, List.length_append, List.length_take, List.length_cons, List.length_drop, List.length_nil]
       have := HKL.out
       omega
      ·rw [← impl_sortedBy.set_copied x HKL.out]
       exact HR11.out
    ·have d1 : decide (0 < j) = true := decide_eq_true (by omega)
     have d2 : 0 ≤ j - 1 := by omega
     have d3 : j - 1 < (out.length : Int) := by omega
     have d6 : j ≤ 1000000 := by omega
     have d7 : 0 < j := by omega
     have hw : wrap64 (j - 1) = j - 1 := by unfold wrap64; omega
     have hw2 : IntKind.i64.wrap (j - 1) = j - 1 := (i64_w _).trans hw
     obtain ⟨ad2, ea2, hc2⟩ := Kd.at_int (Kd.R_reads' HR.out).2.2 (j - 1) d2 d3
     have e5 : rd out (j - 1) = rd out (m : Int) := by rw [hj]; congr 1; omega
     have e6 : (j - 1).toNat = j.toNat - 1 := by omega
     rw [e5, e6] at hc2
     cases ea2
     have HCALL := Aside0.mk (HP.out wr x (rd out (m : Int)) false HB.out hpx)
     have eg := HEG.out
     have HKK := Aside0.mk (show j = (kk : Int) by omega)
     have HKL := Aside0.mk (show kk ≤ out.length by omega)
     have d2b := eq_true d2
     have d3b := eq_true d3
     clear hj hnl hol hpx e5 e6 hkn hm
     go_wp2_with (first | ((with_reducible refine (HCALL.out).mono ?_); rintro e w' ⟨rfl, hbc⟩; have n0 := Aside0.mk (Kd.R_below HR.out hbc); have n1 := Aside0.mk (below_step HB.out hbc); clear hbc HR HB; have HR := n0; have HB := n1; clear n0 n1 HCALL) | (((with_reducible refine gate_builtin (b := .append) (xs := #[.tmp 31, .tmp 32]) rfl ?_); at_builtin; refine Kd.R_append (Kd.int .i64) (w0 := w) w.heap.size rfl (.tmp 31) (.tmp 32) 23 3 (.int .i64 0) 8 rfl Try.underlying23 (show (Try.prog.info? 3).map (fun i => (i.zero, i.size, i.bytes)) = some (some (.int .i64 0), 1, 8) from by kernel_rfl) rfl (by decide) (by omega) (.slice (some ad2) out.length co) out 0 [.int .i64 0] (fun _ => True) (fun _ => False) rfl rfl ?aP (fun _ hk => hk.elim) ?aF ?aO ?aB ?aS ?aL ?_; (case aP => exact rfl); (case aB => exact bw HB.out); (case aF => exact (fun _ _ => trivial)); (case aO => exact (bR HR.out)); (case aS => exact (below_size (bw HB.out))); (case aL => have := HOL.out; omega); intro v8 w8 ho hb hg hat; have HR2 := Aside0.mk ho; have HB2 := Aside0.mk hb; clear ho hb hg hat HR HB; obtain ⟨A2, c2, e2⟩ := Kd.R_slice HR2.out; subst e2)))
     cases HKK
     obtain ⟨go, c3, e3_, gb, gl, HG⟩ := Kd.R_form HR2.out (by simp)
     have ec_ : c2 = c3 := by injection e3_
     have eA_ : A2 = some ⟨go, 0, none⟩ := by injection e3_
     subst ec_ eA_
     clear e3_
     have HFC := Aside0.mk (show out.length + 1 ≤ c2 from by have := (Kd.R_reads' HR2.out).2.1; simpa using this)
     have HG_ := Aside0.mk HG
     have HGB := Aside0.mk gb
     clear HG gb gl
     have u1 : wrap64 ((kk : Int) + 1) = (kk : Int) + 1 := by have := HKL.out; have := HOL.out; unfold wrap64; omega
     have u2 : IntKind.i64.wrap ((kk : Int) + 1) = (kk : Int) + 1 := (i64_w _).trans u1
     have v1 : 0 ≤ (kk : Int) + 1 := by omega
     have v2 : (kk : Int) + 1 ≤ (out.length : Int) + 1 := by have := HKL.out; omega
     have v3 : (kk : Int) ≤ (out.length : Int) + 1 := by have := HKL.out; omega
     have v4 : 0 ≤ (kk : Int) := by omega
     have v5 : kk ≤ out.length := HKL.out
     have v6 : ¬ c2 = kk := by have := HKL.out; have := HFC.out; omega
     have v7 : ((kk : Int) + 1).toNat = kk + 1 := by omega
     go_still_tail 7, (show Try.prog.follows .mixedOrders = true from by rfl)
     obtain ⟨cur, hcur, hgo, hcl, hcopy⟩ := impl_sortedBy.sort_copied HR2.out (by simp)
     have HCP := Aside0.mk hcopy
     clear hcopy
     refine wpList_copy_splice rfl (.tmp 37) (.tmp 40) 23 23 rfl 3 Try.underlying23 (by kernel_rfl) (if c2 = kk + 1 then some ⟨go, 0, none⟩ else some ⟨go, kk + 1, none⟩) (some ⟨go, kk, none⟩) (out.length - kk) (c2 - (kk + 1)) (out.length + 1 - kk) (c2 - kk) rfl rfl go (kk + 1) cur 3 hcur ((out.drop kk).map (Value.int .i64)) ?cn ?cp ?cf ?c1 w.heap.size w ?cb hgo ?_
     case cn => rw [List.length_map, List.length_drop]; exact (Nat.min_eq_right (by omega)).symm
     case cp =>
      intro hpos
      have hpos' : kk < out.length := by simp at hpos; omega
      have := HFC.out
      refine ⟨if_neg (by omega), ⟨go, kk, none⟩, rfl, fun j v hj => ?_⟩
      rw [List.getElem?_map, List.getElem?_drop] at hj
      obtain ⟨y, hy, rfl⟩ := Option.map_eq_some_iff.mp hj
      have hlt := (List.getElem?_eq_some_iff.mp hy).1
      have hc8 := (Kd.R_celln 0 HR2.out ((kk + j : Nat) : Int) (by omega) (by rw [List.length_append, List.length_singleton]; omega)).1
      rw [Int.toNat_natCast, show rdOf 0 (out ++ [0]) ((kk + j : Nat) : Int) = y from by unfold rdOf; rw [Int.toNat_natCast, List.getD_eq_getElem?_getD, List.getElem?_append_left hlt, hy]; rfl] at hc8
      rw [show (⟨go, kk, none⟩ : Addr).add j = ⟨go, kk + j, none⟩ from by first | rfl | (simp only [add_plain]; done) | simp [Addr.add]]
      first | exact hc8 | (show (w8.drewN 1).cell? _ = _; simpa using hc8)
     case cf => simp; simp at hcl; omega
     case c1 => intro v hv; obtain ⟨y, _, rfl⟩ := List.mem_map.mp hv; rfl
     case cb => exact pw_below_drewN HB2.out 1
     intro w9 hg9 hb9
     have HR9 := Aside0.mk (HCP.out (out.drop kk) (kk + 1) w9 (by simp; omega) hg9)
     have HB9 := Aside0.mk hb9
     clear hg9 hb9 HCP hcur HR2 HB2 hcl
     generalize (if c2 = kk + 1 then some (⟨go, 0, none⟩ : Addr) else some ⟨go, kk + 1, none⟩) = A37
     have hkl := HKL.out
     have HR10 := Aside0.mk (show Kd.R (Kd.int .i64) 3 w9 w.heap.size (fun _ => True) (.slice (some ⟨go, 0, none⟩) (out.length + 1) c2) ((out ++ [0]).take (kk + 1) ++ out.drop kk) from by
      have := HR9.out
      rw [List.length_drop, show List.drop (kk + 1 + (out.length - kk)) (out ++ [0]) = [] from List.drop_of_length_le (by rw [List.length_append, List.length_singleton]; omega), List.append_nil, List.length_append, List.length_singleton] at this
      exact this)
     clear HR9
     obtain ⟨hy, hz⟩ := Kd.R_celln 0 HR10.out (kk : Int) v4 (by omega)
     have HP10 := Kd.R_putg HR10.out (kk : Int) x
     rw [Int.toNat_natCast] at hy hz HP10
     have w1_ : (kk : Int) < (out.length : Int) + 1 := by omega
     clear hkl
     go_wp2_with ((with_reducible refine gate_store (t := 3) (p := 45) rfl ?_); refine store_event (t := 3) (p := 45) (v := ?vo_w78) (w1 := (w9.setCell ⟨go, kk, none⟩ (.int .i64 x))) ?hg ?ho ?hn ?hr ?_; (case ho => rfl); (case hg => rfl); (case hn => rfl); (case hr => first | (go_simp; done) | (go_simp; rfl)); intro w10 hw; have HR11 := Aside0.mk (show Kd.R (Kd.int .i64) 3 w10 w.heap.size (fun _ => True) (.slice (some ⟨go, 0, none⟩) (out.length + 1) c2) (((out ++ [0]).take (kk + 1) ++ out.drop kk).set kk x) from (by rw [hw]; exact HP10.1)); have HB11 := Aside0.mk ((by rw [hw]; exact below_set HB9.out hgo : Below w.heap.size w w10)); clear HP10 hw HR10 HB9)
     clear hy hz
     go_roundg rest.length
     case measure =>
      have := HN.out
      simp only [List.length_cons] at this
      omega
     case rel =>
      have hi := HI.out
      have hl := HL.out
      have hw1 : wrap64 (i + 1) = i + 1 := by
       have := HLN.out
       unfold wrap64
       omega
      refine ⟨_, pre ++ [x], rest, impl_sortedBy.insL out kk x, rfl, ⟨?_⟩, ⟨?_⟩, ⟨rfl⟩, ⟨?_⟩, HS, ⟨?_⟩, HB11⟩
      ·rw [hw1, List.length_append, List.length_singleton]
       omega
      ·rw [HA.out, List.append_assoc]
       rfl
      ·have := HO.out
       simp only [impl_sortedBy.insL, List.length_append, List.length_take, List.length_cons, List.length_drop, List.length_nil]
       have := HKL.out
       omega
      ·rw [← impl_sortedBy.set_copied x HKL.out]
       exact HR11.out

/-! ### impl_onTime_1: function 39 -/
def impl_onTime_1.f (a b : Int) : Option Bool := none   -- (it has a captured variable: not in the printed shape)
def impl_onTime_1.p (l0 : List S41) (a b : Int) : Option Bool := if 0 ≤ a ∧ a < l0.length ∧ 0 ≤ b ∧ b < l0.length then some (decide ((rd_T41 l0 a).f3 < (rd_T41 l0 b).f3)) else none
set_option maxRecDepth 100000 in
theorem impl_onTime_1.heg (args : Array Value) (w : World) : (callFunc 39 args).run Try.prog w = .ok (.enter 39 args) w := by
 first | (unfold callFunc; go_simp; done) | (unfold callFunc; go_simp; rfl) | rfl
set_option maxHeartbeats 1600000 in
set_option maxRecDepth 100000 in
theorem impl_onTime_1.ahead (A0 : Option Addr) (c0 : Nat) (l0 : List S41) (w W0 : World) (b1 : Nat)
  (hr0 : Kd.C k41 w A0 l0.length l0) (hW0 : Below w.heap.size w W0) (h1 : W0.cell? ⟨b1, 0, none⟩ = some (.slice A0 l0.length c0)) (hb1 : b1 < W0.heap.size) :
  impl_sortedBy.AheadAt 39 #[.pointer (some ⟨b1, 0, none⟩)] (impl_onTime_1.p l0) W0 := by
 intro W a b r hB hpr
 unfold impl_onTime_1.p at hpr
 split at hpr
 case isFalse => cases hpr
 case isTrue hin =>
 obtain ⟨p1, q1, p2, q2⟩ := hin
 have hpr2 := Option.some.inj hpr
 clear hpr
 have hr := Kd.C_below (Kd.C_below hr0 hW0) hB
 have e1 : W.cell? ⟨b1, 0, none⟩ = some (.slice A0 l0.length c0) := by rw [hB.cell hb1]; exact h1
 obtain ⟨ad, ea, hx0, hx1, hx2, hx3⟩ := at_T41 hr a p1 q1
 obtain ⟨ad', ea', hy0, hy1, hy2, hy3⟩ := at_T41 hr b p2 q2
 cases ea
 cases ea'
 replace p1 := eq_true p1
 replace q1 := eq_true q1
 replace p2 := eq_true p2
 replace q2 := eq_true q2
 clear hr hr0 hW0 h1 hb1 hB
 generalize (rd_T41 l0 a).f0 = ta at hx0 hpr2
 generalize (rd_T41 l0 a).f1 = wa at hx1 hpr2
 generalize (rd_T41 l0 a).f3 = da at hx3 hpr2
 generalize (rd_T41 l0 b).f0 = tb at hy0 hpr2
 generalize (rd_T41 l0 b).f1 = wb at hy1 hpr2
 generalize (rd_T41 l0 b).f3 = db at hy3 hpr2
 show Calls Try.prog 39 #[.int .i64 a, .int .i64 b, .pointer (some ⟨b1, 0, none⟩)] W _
 have HP := Aside0.mk hpr2
 clear hpr2
 go_enter Try.func39, Try.ntmps39
 go_wp2
 go_quiet (fail)
 go_wp2
 go_ret
 exact ⟨by rw [← HP.out]; rfl, bw (Below.refl W.heap.size W)⟩

/-! ### impl_onTime: function 25 -/
def impl_onTime.go (l0 : List S41) : List Int → Int → Option Bool
 | [], _ => some true
 | x :: r, t => if 0 ≤ x ∧ x < (l0.length : Int) then (if wrap64 (t + (rd_T41 l0 x).f0) > (rd_T41 l0 x).f3 then some false else impl_onTime.go l0 r (wrap64 (t + (rd_T41 l0 x).f0))) else none
def impl_onTime.f (l0 : List S41) (l1 : List Int) : Option Bool := if l1.length ≤ 1000000 then (impl_sortedBy.sortO (impl_onTime_1.p l0) l1 []).bind fun o => impl_onTime.go l0 o 0 else none
theorem impl_onTime.sortO_len (p : Int → Int → Option Bool) : ∀ (l out r : List Int), impl_sortedBy.sortO p l out = some r → r.length = out.length + l.length
 | [], out, r, h => by
  simp only [impl_sortedBy.sortO, Option.some.injEq] at h
  subst h
  simp
 | x :: l, out, r, h => by
  obtain ⟨k, hk, h⟩ := Option.bind_eq_some_iff.mp (show (impl_sortedBy.insK p x out out.length).bind _ = some r from h)
  have h1 := impl_onTime.sortO_len p l _ r h
  have h2 := impl_sortedBy.insK_le hk
  rw [h1]
  unfold impl_sortedBy.insL
  simp only [List.length_append, List.length_take, List.length_cons, List.length_drop]
  omega
set_option maxHeartbeats 1600000 in
set_option maxRecDepth 100000 in
theorem impl_onTime.calls (A0 : Option Addr) (c0 : Nat) (l0 : List (S41)) (A1 : Option Addr) (c1 : Nat) (l1 : List Int) (r : Bool) (w : World) (hr0 : Kd.C k41 w A0 l0.length l0) (hc0 : l0.length ≤ c0) (hr1 : Kd.C (Kd.int .i64) w A1 l1.length l1) (hc1 : l1.length ≤ c1) (h : impl_onTime.f l0 l1 = some r) :
  Calls Try.prog 25 #[.slice A0 l0.length c0, .slice A1 l1.length c1] w fun e w' => e = .returned (.bool r) ∧ Below w.heap.size w w' := by
 unfold impl_onTime.f at h
 split at h
 case isFalse => cases h
 case isTrue hn6 =>
 obtain ⟨o, ho, h⟩ := Option.bind_eq_some_iff.mp h
 have HR0 := Aside0.mk hr0
 have HC0 := Aside0.mk hc0
 have HR1 := Aside0.mk hr1
 have HC1 := Aside0.mk hc1
 have HO := Aside0.mk ho
 have HLO := Aside0.mk (impl_onTime.sortO_len _ _ _ _ ho)
 have HN6 := Aside0.mk hn6
 have H' := Aside0.mk h
 have HB := Aside0.mk (Below.refl w.heap.size w)
 clear hn6 h ho hr0 hc0 hr1 hc1
 go_enter Try.func25, Try.ntmps25
 go_wp2_with ((with_reducible refine gate_dst (N := 2) rfl ?_); refine box_event ?hg (N := 2) ?hd (cs := #[.slice A0 l0.length c0]) (t := 27) ?hr ?_; (case hd => rfl); (case hg => rfl); (case hr => first | (go_simp; done) | (go_simp; rfl)); intro gb hg w5 hbox hb; have n0_ := Aside0.mk (below_step (bw HB.out) hb); have n1_ := Aside0.mk hbox; replace HB := n0_; have BK := n1_; clear n0_ n1_ hb hbox hg; obtain ⟨hcz0, hfz0⟩ := bz1 BK.out)
 have hp := impl_onTime_1.ahead A0 c0 l0 w w5 gb HR0.out HB.out hcz0 (blk_lt BK.out)
 refine (impl_sortedBy.calls 39 _ (impl_onTime_1.p l0) A1 c1 l1 o w5 (Kd.C_below HR1.out HB.out) HC1.out HN6.out impl_onTime_1.heg hp HO.out).mono ?_
 rintro e w2 ⟨v2, rfl, hR2, hB2⟩
 have HR := Aside0.mk (Kd.R_lower hR2 (below_size HB.out))
 have n0 := Aside0.mk (below_step HB.out hB2)
 have n1 := Aside0.mk (blk_below BK.out hB2)
 replace HB := n0
 replace BK := n1
 clear hR2 hB2 hp hcz0 hfz0 n0 n1 HO
 obtain ⟨A2, c2, e2⟩ := Kd.R_slice HR.out
 subst e2
 go_wp2
 go_loopg [5, 12] o.length (fun kq v5 v12 w' => ∃ (i t : Int) (pre rest : List Int), v12 = .int .i64 i ∧ v5 = .int .i64 t ∧ Aside0 (i = (pre.length : Int)) ∧ Aside0 (o = pre ++ rest) ∧ Aside0 (rest.length = kq) ∧ Aside0 (impl_onTime.go l0 rest t = some r) ∧ Aside0 (w'.heap[gb]? = some (.cells #[.slice A0 l0.length c0] 27 (0, 0))) ∧ Aside0 (Kd.R (Kd.int .i64) 3 w' w.heap.size (fun _ => True) (.slice A2 o.length c2) o) ∧ Aside0 (Below w.heap.size w w'))
 case atStart => exact ⟨0, 0, [], o, rfl, rfl, ⟨rfl⟩, ⟨rfl⟩, ⟨rfl⟩, H', BK, HR, HB⟩
 case round =>
  clear H' HB HR BK
  obtain ⟨i, t, pre, rest, rfl, rfl, HI, HA, HN, H, BK, HR, HB⟩ := hrel
  have hlen : o.length = pre.length + rest.length := by rw [HA.out, List.length_append]
  have hi0 := HI.out
  cases rest with
  | nil =>
   simp only [List.length_nil, Nat.add_zero] at hlen
   have e3 : decide (i < (o.length : Int)) = false := decide_eq_false (by omega)
   obtain rfl : true = r := by
    have := H.out
    simpa [impl_onTime.go] using this
   clear hlen hi0
   go_wp2
   go_ret
   exact ⟨rfl, HB.out⟩
  | cons x rest =>
   simp only [List.length_cons] at hlen
   have e3 : decide (i < (o.length : Int)) = true := decide_eq_true (by omega)
   have p1 : 0 ≤ i := by omega
   have q1 : i < (o.length : Int) := by omega
   have hx : rd o i = x := by
    rw [HA.out, hi0]
    show (pre ++ x :: rest).getD (pre.length : Int).toNat 0 = x
    simp
   obtain ⟨ad1, ea, hxc⟩ := Kd.at_int (Kd.R_reads' HR.out).2.2 i p1 q1
   rw [hx] at hxc
   cases ea
   clear hx
   obtain ⟨kq, rfl⟩ : ∃ kq, gk = kq + 1 := ⟨rest.length, by have := HN.out; simpa using this.symm⟩
   have h2 := H.out
   rw [impl_onTime.go] at h2
   split at h2
   case isFalse => cases h2
   case isTrue hin =>
   obtain ⟨p2, q2⟩ := hin
   obtain ⟨ad2, ea2, hy0, hy1, hy2, hy3⟩ := at_T41 (Kd.C_below HR0.out HB.out) x p2 q2
   cases ea2
   obtain ⟨hcz0, hfz0⟩ := bz1 BK.out
   have HW := Aside0.mk (show wrap64 (i + 1) = i + 1 from by have h1 := HLO.out; have h2 := HN6.out; simp only [List.length_nil, Nat.zero_add] at h1; unfold wrap64; omega)
   have hw0 := HW.out
   have hw02 : IntKind.i64.wrap (i + 1) = i + 1 := (i64_w _).trans hw0
   replace p1 := eq_true p1
   replace q1 := eq_true q1
   replace p2 := eq_true p2
   replace q2 := eq_true q2
   have H3 := Aside0.mk h2
   clear h2 hi0 hlen
   generalize (rd_T41 l0 x).f0 = tx at hy0 H3
   generalize (rd_T41 l0 x).f3 = dx at hy3 H3
   by_cases hgt : wrap64 (t + tx) > dx
   ·have d1 : decide (dx < wrap64 (t + tx)) = true := decide_eq_true hgt
    have HE : Aside0 (false = r) := ⟨by have := H3.out; rw [if_pos hgt] at this; exact Option.some.inj this⟩
    clear hgt H3 H
    go_wp2
    go_ret
    exact ⟨by rw [← HE.out]; rfl, HB.out⟩
   have d1 : decide (dx < wrap64 (t + tx)) = false := decide_eq_false hgt
   have HE : Aside0 (impl_onTime.go l0 rest (wrap64 (t + tx)) = some r) := ⟨by have := H3.out; rw [if_neg hgt] at this; exact this⟩
   clear hgt H3 H
   go_wp2
   go_roundg kq
   case measure => omega
   case rel => exact ⟨i + 1, wrap64 (t + tx), pre ++ [x], rest, (by first | rfl | rw [HW.out]), (by first | rfl | simp), ⟨by have := HI.out; simp; omega⟩, ⟨by rw [HA.out]; simp⟩, ⟨by have := HN.out; simp at this; omega⟩, HE, BK, HR, HB⟩

/-! ### laws_eqJob: function 26 -/
def laws_eqJob.f (a0_0 : Int) (a0_1 : Int) (a0_2 : Int) (a0_3 : Int) (a1_0 : Int) (a1_1 : Int) (a1_2 : Int) (a1_3 : Int) : Option (Bool) := if a0_0 = a1_0 then (if a0_1 = a1_1 then (if a0_2 = a1_2 then (if a0_3 = a1_3 then (some true) else (some false)) else (some false)) else (some false)) else (some false)
set_option maxHeartbeats 8000000 in
set_option maxRecDepth 100000 in
theorem laws_eqJob.calls (a0_0 : Int) (a0_1 : Int) (a0_2 : Int) (a0_3 : Int) (a1_0 : Int) (a1_1 : Int) (a1_2 : Int) (a1_3 : Int) (r : Bool) (w : World) (h : laws_eqJob.f a0_0 a0_1 a0_2 a0_3 a1_0 a1_1 a1_2 a1_3 = some r) :
  Calls Try.prog 26 #[.agg #[.int .i64 a0_0, .int .i64 a0_1, .int .i64 a0_2, .int .i64 a0_3], .agg #[.int .i64 a1_0, .int .i64 a1_1, .int .i64 a1_2, .int .i64 a1_3]] w fun e w' => e = .returned (.bool r) ∧ Below w.heap.size w w' := by
 have hu41 := Try.underlying41
 have HB := Aside0.mk (Below.refl w.heap.size w)
 have H : (if a0_0 = a1_0 then (if a0_1 = a1_1 then (if a0_2 = a1_2 then (if a0_3 = a1_3 then (some true) else (some false)) else (some false)) else (some false)) else (some false)) = some r := h
 clear h
 by_cases c3 : a0_0 = a1_0
 rotate_left
 ·rw [if_neg c3] at H
  have c3b0 : (a0_0 == a1_0) = false := beq_eq_false_iff_ne.mpr c3
  have c3b1 : (a0_0 != a1_0) = true := bne_iff_ne.mpr c3
  obtain rfl := Option.some.inj H
  go_enter Try.func26, Try.ntmps26
  go_wp2_with (first | ((with_reducible refine gate_dst (N := 2) rfl ?_); refine box_event ?hg (N := 2) ?hd (cs := #[.int .i64 a0_0, .int .i64 a0_1, .int .i64 a0_2, .int .i64 a0_3]) (t := 41) ?hr ?_; (case hd => rfl); (case hg => rfl); (case hr => first | (go_simp; done) | (go_simp; rfl)); intro gb196 hg w27 hbox hb; have n0_ := Aside0.mk (below_step (bw HB.out) hb); have n1_ := Aside0.mk (hbox); have n2_ := ge_ hg HB.out; have n3_ := ge_ hg HB.out; replace HB := n0_; have BK196 := n1_; have GW196 := n2_; have GE196 := n3_; clear n0_ n1_ n2_ n3_; clear hb hbox hg) | ((with_reducible refine gate_dst (N := 3) rfl ?_); refine box_event ?hg (N := 3) ?hd (cs := #[.int .i64 a1_0, .int .i64 a1_1, .int .i64 a1_2, .int .i64 a1_3]) (t := 41) ?hr ?_; (case hd => rfl); (case hg => rfl); (case hr => first | (go_simp; done) | (go_simp; rfl)); intro gb197 hg w28 hbox hb; have n0_ := Aside0.mk (blk_below (bs BK196.out) hb); have n1_ := Aside0.mk (below_step (by repeat (first | (with_reducible first | exact bw HB.out | refine bset ?_ | apply bA | apply bN | apply bD) | exact HB.out)) hb); have n2_ := Aside0.mk (hbox); have n3_ := Aside0.mk ((by rw [hg]; exact (below_size (by repeat (first | (with_reducible first | exact bw HB.out | refine bset ?_ | apply bA | apply bN | apply bD) | exact HB.out))) : w.heap.size ≤ gb197)); have n4_ := Aside0.mk ((by rw [hg]; exact (below_size (by repeat (first | (with_reducible first | exact bw HB.out | refine bset ?_ | apply bA | apply bN | apply bD) | exact HB.out))) : w.heap.size ≤ gb197)); have n5_ := ne_ hg BK196.out; have n6_ := en_ hg BK196.out; replace BK196 := n0_; replace HB := n1_; have BK197 := n2_; have GW197 := n3_; have GE197 := n4_; have NB196_197 := n5_; have NB197_196 := n6_; clear n0_ n1_ n2_ n3_ n4_ n5_ n6_; clear hb hbox hg; have hnb29 := NB196_197.out; have hnc29 := NB197_196.out; obtain ⟨hcz30_0, hcz30_1, hcz30_2, hcz30_3, hfz30_0, hfz30_1, hfz30_2, hfz30_3⟩ := bz4 BK196.out; obtain ⟨hcz31_0, hcz31_1, hcz31_2, hcz31_3, hfz31_0, hfz31_1, hfz31_2, hfz31_3⟩ := bz4 BK197.out))
  go_ret
  exact ⟨by first | rfl | (simp [errW_none, errW_some] <;> rfl) | (simp [*, errW_none, errW_some] <;> rfl), by repeat (first | (with_reducible first | exact bw HB.out | refine bset ?_ | apply bA | apply bN | apply bD) | exact HB.out)⟩
 rw [if_pos c3] at H
 have c3b0 : (a0_0 == a1_0) = true := beq_iff_eq.mpr c3
 have c3b1 : (a0_0 != a1_0) = false := bne_eq_false_iff_eq.mpr c3
 clear c3
 by_cases c4 : a0_1 = a1_1
 rotate_left
 ·rw [if_neg c4] at H
  have c4b0 : (a0_1 == a1_1) = false := beq_eq_false_iff_ne.mpr c4
  have c4b1 : (a0_1 != a1_1) = true := bne_iff_ne.mpr c4
  obtain rfl := Option.some.inj H
  go_enter Try.func26, Try.ntmps26
  go_wp2_with (first | ((with_reducible refine gate_dst (N := 2) rfl ?_); refine box_event ?hg (N := 2) ?hd (cs := #[.int .i64 a0_0, .int .i64 a0_1, .int .i64 a0_2, .int .i64 a0_3]) (t := 41) ?hr ?_; (case hd => rfl); (case hg => rfl); (case hr => first | (go_simp; done) | (go_simp; rfl)); intro gb196 hg w22 hbox hb; have n0_ := Aside0.mk (below_step (bw HB.out) hb); have n1_ := Aside0.mk (hbox); have n2_ := ge_ hg HB.out; have n3_ := ge_ hg HB.out; replace HB := n0_; have BK196 := n1_; have GW196 := n2_; have GE196 := n3_; clear n0_ n1_ n2_ n3_; clear hb hbox hg) | ((with_reducible refine gate_dst (N := 3) rfl ?_); refine box_event ?hg (N := 3) ?hd (cs := #[.int .i64 a1_0, .int .i64 a1_1, .int .i64 a1_2, .int .i64 a1_3]) (t := 41) ?hr ?_; (case hd => rfl); (case hg => rfl); (case hr => first | (go_simp; done) | (go_simp; rfl)); intro gb197 hg w23 hbox hb; have n0_ := Aside0.mk (blk_below (bs BK196.out) hb); have n1_ := Aside0.mk (below_step (by repeat (first | (with_reducible first | exact bw HB.out | refine bset ?_ | apply bA | apply bN | apply bD) | exact HB.out)) hb); have n2_ := Aside0.mk (hbox); have n3_ := Aside0.mk ((by rw [hg]; exact (below_size (by repeat (first | (with_reducible first | exact bw HB.out | refine bset ?_ | apply bA | apply bN | apply bD) | exact HB.out))) : w.heap.size ≤ gb197)); have n4_ := Aside0.mk ((by rw [hg]; exact (below_size (by repeat (first | (with_reducible first | exact bw HB.out | refine bset ?_ | apply bA | apply bN | apply bD) | exact HB.out))) : w.heap.size ≤ gb197)); have n5_ := ne_ hg BK196.out; have n6_ := en_ hg BK196.out; replace BK196 := n0_; replace HB := n1_; have BK197 := n2_; have GW197 := n3_; have GE197 := n4_; have NB196_197 := n5_; have NB197_196 := n6_; clear n0_ n1_ n2_ n3_ n4_ n5_ n6_; clear hb hbox hg; have hnb24 := NB196_197.out; have hnc24 := NB197_196.out; obtain ⟨hcz25_0, hcz25_1, hcz25_2, hcz25_3, hfz25_0, hfz25_1, hfz25_2, hfz25_3⟩ := bz4 BK196.out; obtain ⟨hcz26_0, hcz26_1, hcz26_2, hcz26_3, hfz26_0, hfz26_1, hfz26_2, hfz26_3⟩ := bz4 BK197.out))
  go_ret
  exact ⟨by first | rfl | (simp [errW_none, errW_some] <;> rfl) | (simp [*, errW_none, errW_some] <;> rfl), by repeat (first | (with_reducible first | exact bw HB.out | refine bset ?_ | apply bA | apply bN | apply bD) | exact HB.out)⟩
 rw [if_pos c4] at H
 have c4b0 : (a0_1 == a1_1) = true := beq_iff_eq.mpr c4
 have c4b1 : (a0_1 != a1_1) = false := bne_eq_false_iff_eq.mpr c4
 clear c4
 by_cases c5 : a0_2 = a1_2
 rotate_left
 ·rw [if_neg c5] at H
  have c5b0 : (a0_2 == a1_2) = false := beq_eq_false_iff_ne.mpr c5
  have c5b1 : (a0_2 != a1_2) = true := bne_iff_ne.mpr c5
  obtain rfl := Option.some.inj H
  go_enter Try.func26, Try.ntmps26
  go_wp2_with (first | ((with_reducible refine gate_dst (N := 2) rfl ?_); refine box_event ?hg (N := 2) ?hd (cs := #[.int .i64 a0_0, .int .i64 a0_1, .int .i64 a0_2, .int .i64 a0_3]) (t := 41) ?hr ?_; (case hd => rfl); (case hg => rfl); (case hr => first | (go_simp; done) | (go_simp; rfl)); intro gb196 hg w17 hbox hb; have n0_ := Aside0.mk (below_step (bw HB.out) hb); have n1_ := Aside0.mk (hbox); have n2_ := ge_ hg HB.out; have n3_ := ge_ hg HB.out; replace HB := n0_; have BK196 := n1_; have GW196 := n2_; have GE196 := n3_; clear n0_ n1_ n2_ n3_; clear hb hbox hg) | ((with_reducible refine gate_dst (N := 3) rfl ?_); refine box_event ?hg (N := 3) ?hd (cs := #[.int .i64 a1_0, .int .i64 a1_1, .int .i64 a1_2, .int .i64 a1_3]) (t := 41) ?hr ?_; (case hd => rfl); (case hg => rfl); (case hr => first | (go_simp; done) | (go_simp; rfl)); intro gb197 hg w18 hbox hb; have n0_ := Aside0.mk (blk_below (bs BK196.out) hb); have n1_ := Aside0.mk (below_step (by repeat (first | (with_reducible first | exact bw HB.out | refine bset ?_ | apply bA | apply bN | apply bD) | exact HB.out)) hb); have n2_ := Aside0.mk (hbox); have n3_ := Aside0.mk ((by rw [hg]; exact (below_size (by repeat (first | (with_reducible first | exact bw HB.out | refine bset ?_ | apply bA | apply bN | apply bD) | exact HB.out))) : w.heap.size ≤ gb197)); have n4_ := Aside0.mk ((by rw [hg]; exact (below_size (by repeat (first | (with_reducible first | exact bw HB.out | refine bset ?_ | apply bA | apply bN | apply bD) | exact HB.out))) : w.heap.size ≤ gb197)); have n5_ := ne_ hg BK196.out; have n6_ := en_ hg BK196.out; replace BK196 := n0_; replace HB := n1_; have BK197 := n2_; have GW197 := n3_; have GE197 := n4_; have NB196_197 := n5_; have NB197_196 := n6_; clear n0_ n1_ n2_ n3_ n4_ n5_ n6_; clear hb hbox hg; have hnb19 := NB196_197.out; have hnc19 := NB197_196.out; obtain ⟨hcz20_0, hcz20_1, hcz20_2, hcz20_3, hfz20_0, hfz20_1, hfz20_2, hfz20_3⟩ := bz4 BK196.out; obtain ⟨hcz21_0, hcz21_1, hcz21_2, hcz21_3, hfz21_0, hfz21_1, hfz21_2, hfz21_3⟩ := bz4 BK197.out))
  go_ret
  exact ⟨by first | rfl | (simp [errW_none, errW_some] <;> rfl) | (simp [*, errW_none, errW_some] <;> rfl), by repeat (first | (with_reducible first | exact bw HB.out | refine bset ?_ | apply bA | apply bN | apply bD) | exact HB.out)⟩
 rw [if_pos c5] at H
 have c5b0 : (a0_2 == a1_2) = true := beq_iff_eq.mpr c5
 have c5b1 : (a0_2 != a1_2) = false := bne_eq_false_iff_eq.mpr c5
 clear c5
 by_cases c6 : a0_3 = a1_3
 rotate_left
 ·rw [if_neg c6] at H
  have c6b0 : (a0_3 == a1_3) = false := beq_eq_false_iff_ne.mpr c6
  have c6b1 : (a0_3 != a1_3) = true := bne_iff_ne.mpr c6
  obtain rfl := Option.some.inj H
  go_enter Try.func26, Try.ntmps26
  go_wp2_with (first | ((with_reducible refine gate_dst (N := 2) rfl ?_); refine box_event ?hg (N := 2) ?hd (cs := #[.int .i64 a0_0, .int .i64 a0_1, .int .i64 a0_2, .int .i64 a0_3]) (t := 41) ?hr ?_; (case hd => rfl); (case hg => rfl); (case hr => first | (go_simp; done) | (go_simp; rfl)); intro gb196 hg w12 hbox hb; have n0_ := Aside0.mk (below_step (bw HB.out) hb); have n1_ := Aside0.mk (hbox); have n2_ := ge_ hg HB.out; have n3_ := ge_ hg HB.out; replace HB := n0_; have BK196 := n1_; have GW196 := n2_; have GE196 := n3_; clear n0_ n1_ n2_ n3_; clear hb hbox hg) | ((with_reducible refine gate_dst (N := 3) rfl ?_); refine box_event ?hg (N := 3) ?hd (cs := #[.int .i64 a1_0, .int .i64 a1_1, .int .i64 a1_2, .int .i64 a1_3]) (t := 41) ?hr ?_; (case hd => rfl); (case hg => rfl); (case hr => first | (go_simp; done) | (go_simp; rfl)); intro gb197 hg w13 hbox hb; have n0_ := Aside0.mk (blk_below (bs BK196.out) hb); have n1_ := Aside0.mk (below_step (by repeat (first | (with_reducible first | exact bw HB.out | refine bset ?_ | apply bA | apply bN | apply bD) | exact HB.out)) hb); have n2_ := Aside0.mk (hbox); have n3_ := Aside0.mk ((by rw [hg]; exact (below_size (by repeat (first | (with_reducible first | exact bw HB.out | refine bset ?_ | apply bA | apply bN | apply bD) | exact HB.out))) : w.heap.size ≤ gb197)); have n4_ := Aside0.mk ((by rw [hg]; exact (below_size (by repeat (first | (with_reducible first | exact bw HB.out | refine bset ?_ | apply bA | apply bN | apply bD) | exact HB.out))) : w.heap.size ≤ gb197)); have n5_ := ne_ hg BK196.out; have n6_ := en_ hg BK196.out; replace BK196 := n0_; replace HB := n1_; have BK197 := n2_; have GW197 := n3_; have GE197 := n4_; have NB196_197 := n5_; have NB197_196 := n6_; clear n0_ n1_ n2_ n3_ n4_ n5_ n6_; clear hb hbox hg; have hnb14 := NB196_197.out; have hnc14 := NB197_196.out; obtain ⟨hcz15_0, hcz15_1, hcz15_2, hcz15_3, hfz15_0, hfz15_1, hfz15_2, hfz15_3⟩ := bz4 BK196.out; obtain ⟨hcz16_0, hcz16_1, hcz16_2, hcz16_3, hfz16_0, hfz16_1, hfz16_2, hfz16_3⟩ := bz4 BK197.out))
  go_ret
  exact ⟨by first | rfl | (simp [errW_none, errW_some] <;> rfl) | (simp [*, errW_none, errW_some] <;> rfl), by repeat (first | (with_reducible first | exact bw HB.out | refine bset ?_ | apply bA | apply bN | apply bD) | exact HB.out)⟩
 rw [if_pos c6] at H
 have c6b0 : (a0_3 == a1_3) = true := beq_iff_eq.mpr c6
 have c6b1 : (a0_3 != a1_3) = false := bne_eq_false_iff_eq.mpr c6
 clear c6
 obtain rfl := Option.some.inj H
 go_enter Try.func26, Try.ntmps26
 go_wp2_with (first | ((with_reducible refine gate_dst (N := 2) rfl ?_); refine box_event ?hg (N := 2) ?hd (cs := #[.int .i64 a0_0, .int .i64 a0_1, .int .i64 a0_2, .int .i64 a0_3]) (t := 41) ?hr ?_; (case hd => rfl); (case hg => rfl); (case hr => first | (go_simp; done) | (go_simp; rfl)); intro gb196 hg w7 hbox hb; have n0_ := Aside0.mk (below_step (bw HB.out) hb); have n1_ := Aside0.mk (hbox); have n2_ := ge_ hg HB.out; have n3_ := ge_ hg HB.out; replace HB := n0_; have BK196 := n1_; have GW196 := n2_; have GE196 := n3_; clear n0_ n1_ n2_ n3_; clear hb hbox hg) | ((with_reducible refine gate_dst (N := 3) rfl ?_); refine box_event ?hg (N := 3) ?hd (cs := #[.int .i64 a1_0, .int .i64 a1_1, .int .i64 a1_2, .int .i64 a1_3]) (t := 41) ?hr ?_; (case hd => rfl); (case hg => rfl); (case hr => first | (go_simp; done) | (go_simp; rfl)); intro gb197 hg w8 hbox hb; have n0_ := Aside0.mk (blk_below (bs BK196.out) hb); have n1_ := Aside0.mk (below_step (by repeat (first | (with_reducible first | exact bw HB.out | refine bset ?_ | apply bA | apply bN | apply bD) | exact HB.out)) hb); have n2_ := Aside0.mk (hbox); have n3_ := Aside0.mk ((by rw [hg]; exact (below_size (by repeat (first | (with_reducible first | exact bw HB.out | refine bset ?_ | apply bA | apply bN | apply bD) | exact HB.out))) : w.heap.size ≤ gb197)); have n4_ := Aside0.mk ((by rw [hg]; exact (below_size (by repeat (first | (with_reducible first | exact bw HB.out | refine bset ?_ | apply bA | apply bN | apply bD) | exact HB.out))) : w.heap.size ≤ gb197)); have n5_ := ne_ hg BK196.out; have n6_ := en_ hg BK196.out; replace BK196 := n0_; replace HB := n1_; have BK197 := n2_; have GW197 := n3_; have GE197 := n4_; have NB196_197 := n5_; have NB197_196 := n6_; clear n0_ n1_ n2_ n3_ n4_ n5_ n6_; clear hb hbox hg; have hnb9 := NB196_197.out; have hnc9 := NB197_196.out; obtain ⟨hcz10_0, hcz10_1, hcz10_2, hcz10_3, hfz10_0, hfz10_1, hfz10_2, hfz10_3⟩ := bz4 BK196.out; obtain ⟨hcz11_0, hcz11_1, hcz11_2, hcz11_3, hfz11_0, hfz11_1, hfz11_2, hfz11_3⟩ := bz4 BK197.out))
 go_ret
 exact ⟨by first | rfl | (simp [errW_none, errW_some] <;> rfl) | (simp [*, errW_none, errW_some] <;> rfl), by repeat (first | (with_reducible first | exact bw HB.out | refine bset ?_ | apply bA | apply bN | apply bD) | exact HB.out)⟩

/-! ### laws_eqJobS: function 10 -/
abbrev q10_0 : Array Bool := ⟨rl_ [10] false⟩
abbrev q10_7 : Array Bool := ⟨rl_ [7, 3] true⟩
abbrev q10_8 : Array Bool := ⟨rl_ [8, 2] true⟩
abbrev q10_9 : Array Bool := ⟨rl_ [9, 1] true⟩
def laws_eqJobS.l0 : Nat → List (S41) → List (S41) → Int → Option (Bool)
 | 0, _, _, _ => none
 | k + 1, x0, x1, x5 => if x5 < (x0.length : Int) then (if 0 ≤ x5 then (if x5 < (x1.length : Int) then ((laws_eqJob.f ((rd_T41 x0 x5).f0) ((rd_T41 x0 x5).f1) ((rd_T41 x0 x5).f2) ((rd_T41 x0 x5).f3) ((rd_T41 x1 x5).f0) ((rd_T41 x1 x5).f1) ((rd_T41 x1 x5).f2) ((rd_T41 x1 x5).f3)).bind fun t200 => (if t200 = true then (laws_eqJobS.l0 k x0 x1 (wrap64 (x5 + 1))) else (some false))) else (none)) else (none)) else (some true)
def laws_eqJobS.f (k : Nat) (l0 : List (S41)) (l1 : List (S41)) : Option (Bool) := if (l0.length : Int) = (l1.length : Int) then (laws_eqJobS.l0 k l0 l1 0) else (some false)
theorem laws_eqJobS.mono_l : ∀ k, (∀ y0 y1 y2, LeO (laws_eqJobS.l0 k y0 y1 y2) (laws_eqJobS.l0 (k + 1) y0 y1 y2))
 | 0 => fun _ _ _ r h => by simp [laws_eqJobS.l0] at h
 | k + 1 => by
  have ih0 := laws_eqJobS.mono_l k
  ·intro y0 y1 y2
   unfold laws_eqJobS.l0
   repeat' first
   | (with_reducible exact ih0 _ _ _)
   | (with_reducible exact LeO.refl _)
   | (with_reducible exact LeO.none _)
   | (with_reducible refine LeO.ite ?_ ?_)
   | (with_reducible refine LeO.bind ?_ (fun _ => ?_))
   | exact ih0 _ _ _
   | exact LeO.none _
   | refine LeO.ite ?_ ?_
   | refine LeO.bind ?_ (fun _ => ?_)
theorem laws_eqJobS.mono : ∀ a0 a1 k, LeO (laws_eqJobS.f k a0 a1) (laws_eqJobS.f (k + 1) a0 a1) := by
 intro a0 a1 k
 have ih0 := laws_eqJobS.mono_l k
 unfold laws_eqJobS.f
 repeat' first
   | (with_reducible exact ih0 _ _ _)
   | (with_reducible exact LeO.refl _)
   | (with_reducible exact LeO.none _)
   | (with_reducible refine LeO.ite ?_ ?_)
   | (with_reducible refine LeO.bind ?_ (fun _ => ?_))
   | exact ih0 _ _ _
   | exact LeO.none _
   | refine LeO.ite ?_ ?_
   | refine LeO.bind ?_ (fun _ => ?_)
def laws_eqJobS.T6 : Bool × List (List Nat × List Nat) := (true, [([], []), ([], []), ([0, 1], [0, 1]), ([2], [2]), ([], []), ([], []), ([4, 5], [4, 5]), ([6], [6]), ([3, 7], [3, 7]), ([8], [8])])
def laws_eqJobS.B6 : List Nat := [0, 0, 3, 7, 0, 0, 48, 112, 255, 511]
theorem laws_eqJobS.tab6 : rtab .any (opsOf Try.f10 6) = laws_eqJobS.T6 := by kernel_rfl
theorem laws_eqJobS.bits6 : waitsOk laws_eqJobS.T6.2 laws_eqJobS.B6 = true := by kernel_rfl
set_option maxHeartbeats 8000000 in
set_option maxRecDepth 100000 in
theorem laws_eqJobS.calls (k : Nat) (A0 : Option Addr) (c0 : Nat) (l0 : List (S41)) (A1 : Option Addr) (c1 : Nat) (l1 : List (S41)) (r : Bool) (w : World) (hr0 : Kd.C k41 w A0 l0.length l0) (hc0 : l0.length ≤ c0) (hr1 : Kd.C k41 w A1 l1.length l1) (hc1 : l1.length ≤ c1) (h : laws_eqJobS.f k l0 l1 = some r) :
  Calls Try.prog 10 #[.slice A0 l0.length c0, .slice A1 l1.length c1] w fun e w' => e = .returned (.bool r) ∧ Below w.heap.size w w' := by
 have hu41 := Try.underlying41
 have HR0 := Aside0.mk hr0
 have HC0 := Aside0.mk hc0
 clear hr0 hc0
 have HR1 := Aside0.mk hr1
 have HC1 := Aside0.mk hc1
 clear hr1 hc1
 have HB := Aside0.mk (Below.refl w.heap.size w)
 have H : (if (l0.length : Int) = (l1.length : Int) then (laws_eqJobS.l0 k l0 l1 0) else (some false)) = some r := h
 clear h
 by_cases c3 : (l0.length : Int) = (l1.length : Int)
 rotate_left
 ·rw [if_neg c3] at H
  have c3b0 : ((l0.length : Int) == (l1.length : Int)) = false := beq_eq_false_iff_ne.mpr c3
  have c3b1 : ((l0.length : Int) != (l1.length : Int)) = true := bne_iff_ne.mpr c3
  have c3b2 : (l0.length == l1.length) = false := by first | simpa using c3 | (simp at c3 ⊢; omega)
  obtain rfl := Option.some.inj H
  go_enter Try.func10, Try.ntmps10
  go_wp2
  go_ret
  exact ⟨by first | rfl | (simp [errW_none, errW_some] <;> rfl) | (simp [*, errW_none, errW_some] <;> rfl), bw HB.out⟩
 rw [if_pos c3] at H
 have c3b0 : ((l0.length : Int) == (l1.length : Int)) = true := beq_iff_eq.mpr c3
 have c3b1 : ((l0.length : Int) != (l1.length : Int)) = false := bne_eq_false_iff_eq.mpr c3
 have c3b2 : (l0.length == l1.length) = true := by first | simpa using c3 | (simp at c3 ⊢; omega)
 clear c3
 have H' := Aside0.mk H
 clear H
 go_enter Try.func10, Try.ntmps10
 go_wp2
 go_loopg [5] k (fun kq v5 w' => ∃ (x5_1 : Int), v5 = .int .i64 x5_1 ∧ Aside0 (laws_eqJobS.l0 kq l0 l1 x5_1 = some r) ∧ Aside0 (kq ≤ k) ∧ Aside0 (Below w.heap.size w w'))
 case atStart => exact ⟨(0), (by first | rfl | (simp; done) | (simp [*]; done)), H', ⟨Nat.le_refl _⟩, ⟨bw HB.out⟩⟩
 case round =>
  clear H'
  try clear c1
  try clear p2
  try clear c3
  try clear c3b0
  try clear c3b1
  try clear c3b2
  obtain ⟨x5_1, rfl, HA, HK1, HB⟩ := hrel
  cases gk with
  | zero => exact absurd HA.out (by simp [laws_eqJobS.l0])
  | succ k1 =>
   have H := HA.out
   clear HA
   simp only [laws_eqJobS.l0] at H
   by_cases c4 : x5_1 < (l0.length : Int)
   rotate_left
   ·rw [if_neg c4] at H
    have c4b0 : decide (x5_1 < (l0.length : Int)) = false := decide_eq_false c4
    clear c4
    obtain rfl := Option.some.inj H
    go_wp2
    go_ret
    exact ⟨by first | rfl | (simp [errW_none, errW_some] <;> rfl) | (simp [*, errW_none, errW_some] <;> rfl), bw HB.out⟩
   rw [if_pos c4] at H
   have c4b0 : decide (x5_1 < (l0.length : Int)) = true := decide_eq_true c4
   clear c4
   by_cases c5 : 0 ≤ x5_1
   rotate_left
   ·rw [if_neg c5] at H
    exact absurd H (by simp)
   rw [if_pos c5] at H
   have c5b0 : decide (0 ≤ x5_1) = true := decide_eq_true c5
   clear c5
   by_cases c6 : x5_1 < (l1.length : Int)
   rotate_left
   ·rw [if_neg c6] at H
    exact absurd H (by simp)
   rw [if_pos c6] at H
   have c6b0 : decide (x5_1 < (l1.length : Int)) = true := decide_eq_true c6
   clear c6
   replace H := Option.bind_eq_some_iff.mp H
   obtain ⟨t200, A70, H⟩ := H
   replace H : (if t200 = true then (laws_eqJobS.l0 k1 l0 l1 (wrap64 (x5_1 + 1))) else (some false)) = some r := H
   have A7 := Aside0.mk A70
   clear A70
   by_cases c8 : t200 = true
   rotate_left
   ·replace c8 := Bool.eq_false_iff.mpr c8
    subst c8
    have H1 : (some false) = some r := by rw [if_neg (show ¬ (false = true) by decide)] at H; exact H
    clear H
    have H := H1
    clear H1
    obtain rfl := Option.some.inj H
    try go_wp2
    have n0_ := Aside0.mk (below_drew1 HB.out)
    replace HB := n0_
    clear n0_
    have p198 : 0 ≤ (x5_1 : Int) := of_decide_eq_true (by first | (with_reducible assumption) | assumption)
    have q198 : x5_1 < (l0.length : Int) := of_decide_eq_true (by first | (with_reducible assumption) | assumption)
    obtain ⟨ad198, e198, hx198_0, hx198_1, hx198_2, hx198_3⟩ := at_T41 HR0.out x5_1 p198 q198
    have hw198_3 := hx198_3
    have hw198_2 := hx198_2
    have hw198_1 := hx198_1
    have hw198_0 := hx198_0
    cases e198
    replace hx198_0 := (HB.out.cell (World.block_lt_of_cell? w _ hx198_0)).trans hx198_0
    replace hx198_1 := (HB.out.cell (World.block_lt_of_cell? w _ hx198_1)).trans hx198_1
    replace hx198_2 := (HB.out.cell (World.block_lt_of_cell? w _ hx198_2)).trans hx198_2
    replace hx198_3 := (HB.out.cell (World.block_lt_of_cell? w _ hx198_3)).trans hx198_3
    replace p198 := eq_true p198
    replace q198 := eq_true q198
    have p199 : 0 ≤ (x5_1 : Int) := of_decide_eq_true (by first | (with_reducible assumption) | assumption)
    have q199 : x5_1 < (l1.length : Int) := of_decide_eq_true (by first | (with_reducible assumption) | assumption)
    obtain ⟨ad199, e199, hx199_0, hx199_1, hx199_2, hx199_3⟩ := at_T41 HR1.out x5_1 p199 q199
    have hw199_3 := hx199_3
    have hw199_2 := hx199_2
    have hw199_1 := hx199_1
    have hw199_0 := hx199_0
    cases e199
    replace hx199_0 := (HB.out.cell (World.block_lt_of_cell? w _ hx199_0)).trans hx199_0
    replace hx199_1 := (HB.out.cell (World.block_lt_of_cell? w _ hx199_1)).trans hx199_1
    replace hx199_2 := (HB.out.cell (World.block_lt_of_cell? w _ hx199_2)).trans hx199_2
    replace hx199_3 := (HB.out.cell (World.block_lt_of_cell? w _ hx199_3)).trans hx199_3
    replace p199 := eq_true p199
    replace q199 := eq_true q199
    refine start_ (n := 10) (S := fun w' => w'.cell? (ad198.add ((x5_1).toNat * 4)) = some (.int .i64 ((rd_T41 l0 x5_1).f0)) ∧ w'.cell? ⟨(ad198.add ((x5_1).toNat * 4)).block, (ad198.add ((x5_1).toNat * 4)).off + 1, none⟩ = some (.int .i64 ((rd_T41 l0 x5_1).f1)) ∧ w'.cell? ⟨(ad198.add ((x5_1).toNat * 4)).block, (ad198.add ((x5_1).toNat * 4)).off + 2, none⟩ = some (.int .i64 ((rd_T41 l0 x5_1).f2)) ∧ w'.cell? ⟨(ad198.add ((x5_1).toNat * 4)).block, (ad198.add ((x5_1).toNat * 4)).off + 3, none⟩ = some (.int .i64 ((rd_T41 l0 x5_1).f3)) ∧ w'.cell? (ad199.add ((x5_1).toNat * 4)) = some (.int .i64 ((rd_T41 l1 x5_1).f0)) ∧ w'.cell? ⟨(ad199.add ((x5_1).toNat * 4)).block, (ad199.add ((x5_1).toNat * 4)).off + 1, none⟩ = some (.int .i64 ((rd_T41 l1 x5_1).f1)) ∧ w'.cell? ⟨(ad199.add ((x5_1).toNat * 4)).block, (ad199.add ((x5_1).toNat * 4)).off + 2, none⟩ = some (.int .i64 ((rd_T41 l1 x5_1).f2)) ∧ w'.cell? ⟨(ad199.add ((x5_1).toNat * 4)).block, (ad199.add ((x5_1).toNat * 4)).off + 3, none⟩ = some (.int .i64 ((rd_T41 l1 x5_1).f3))) (ds := []) q10_0 (by kernel_rfl) rfl rfl ⟨(bcl_ HB.out hw198_0 :), (bcl_ HB.out hw198_1 :), (bcl_ HB.out hw198_2 :), (bcl_ HB.out hw198_3 :), (bcl_ HB.out hw199_0 :), (bcl_ HB.out hw199_1 :), (bcl_ HB.out hw199_2 :), (bcl_ HB.out hw199_3 :)⟩ (fun hHeld => ?_); refine with_tabW laws_eqJobS.tab6 laws_eqJobS.bits6 (fun HT_ HW_ => ?_)
    generalize wr.drew = w11 at HB hx198_0 hx198_1 hx198_2 hx198_3 hx199_0 hx199_1 hx199_2 hx199_3 hHeld ⊢
    refine pup_ (i := 0) (N := some 17) HT_ rfl rfl (by kernel_rfl) (fun _ _ _ h => h) (Or.inl ⟨by rfl, by intro w'; go_simp; with_reducible rfl⟩) (by simp only [aq_]; rfl) ?_
    refine pup_ (i := 1) (N := some 18) HT_ rfl rfl (by kernel_rfl) (fun _ _ _ h => h) (Or.inl ⟨by rfl, by intro w'; go_simp; with_reducible rfl⟩) (by simp only [aq_]; rfl) ?_
    refine pup_ (i := 2) (N := some 19) HT_ rfl rfl (by kernel_rfl) (fun _ _ _ h => h) (Or.inl ⟨by rfl, by intro w'; go_simp; with_reducible rfl⟩) (by simp only [aq_]; rfl) ?_
    refine pup_ (i := 4) (N := some 21) HT_ rfl rfl (by kernel_rfl) (fun _ _ _ h => h) (Or.inl ⟨by rfl, by intro w'; go_simp; with_reducible rfl⟩) (by simp only [aq_]; rfl) ?_
    refine pup_ (i := 5) (N := some 22) HT_ rfl rfl (by kernel_rfl) (fun _ _ _ h => h) (Or.inl ⟨by rfl, by intro w'; go_simp; with_reducible rfl⟩) (by simp only [aq_]; rfl) ?_
    refine pup_ (i := 6) (N := some 23) HT_ rfl rfl (by kernel_rfl) (fun _ _ _ h => h) (Or.inl ⟨by rfl, by intro w'; go_simp; with_reducible rfl⟩) (by simp only [aq_]; rfl) ?_
    refine take_ (i := 3) (N := some 20) (v := ?_) (a' := ?_) q10_7 rfl rfl (take_ofW HT_.out HW_.out (by kernel_rfl)) (fun _ _ _ h => h) (Or.inl ⟨by rfl, ?_⟩) hHeld ?_ ?_
    rotate_left
    ·rintro w' ⟨s0, s1, s2, s3, s4, s5, s6, s7⟩
     go_simp
     with_reducible rfl
    rotate_left
    ·simp only [aq_]
     rfl
    refine take_ (i := 7) (N := some 24) (v := ?_) (a' := ?_) q10_8 rfl rfl (take_ofW HT_.out HW_.out (by kernel_rfl)) (fun _ _ _ h => h) (Or.inl ⟨by rfl, ?_⟩) hHeld ?_ ?_
    rotate_left
    ·rintro w' ⟨s0, s1, s2, s3, s4, s5, s6, s7⟩
     go_simp
     with_reducible rfl
    rotate_left
    ·simp only [aq_]
     rfl
    refine one_ (i := 8) (N := some 25) q10_9 rfl rfl (one_of HT_.out (by kernel_rfl)) (by decide) (fun K hK => ?_)
    refine goes_ Try.func26 (by kernel_rfl) rfl #[.agg #[.int .i64 ((rd_T41 l0 x5_1).f0), .int .i64 ((rd_T41 l0 x5_1).f1), .int .i64 ((rd_T41 l0 x5_1).f2), .int .i64 ((rd_T41 l0 x5_1).f3)], .agg #[.int .i64 ((rd_T41 l1 x5_1).f0), .int .i64 ((rd_T41 l1 x5_1).f1), .int .i64 ((rd_T41 l1 x5_1).f2), .int .i64 ((rd_T41 l1 x5_1).f3)]] (by rfl) rfl rfl (by (try simp only [mA_]); first | done | rfl | (simp only [List.length_drop, List.length_take]; rfl)) ?_
    with_reducible refine (laws_eqJob.calls ((rd_T41 l0 x5_1).f0) ((rd_T41 l0 x5_1).f1) ((rd_T41 l0 x5_1).f2) ((rd_T41 l0 x5_1).f3) ((rd_T41 l1 x5_1).f0) ((rd_T41 l1 x5_1).f1) ((rd_T41 l1 x5_1).f2) ((rd_T41 l1 x5_1).f3) false _ A7.out).mono ?_
    rintro e w12 ⟨rfl, hb⟩
    refine ⟨_, rfl, ?_⟩
    have n0_ := Aside0.mk (below_step (bw HB.out) hb)
    replace HB := n0_
    clear n0_
    (try clear hb)
    (try clear hb2)
    (try clear hk)
    (try clear hi)
    refine hK.out _ _ ⟨(bcl_ HB.out hw198_0 :), (bcl_ HB.out hw198_1 :), (bcl_ HB.out hw198_2 :), (bcl_ HB.out hw198_3 :), (bcl_ HB.out hw199_0 :), (bcl_ HB.out hw199_1 :), (bcl_ HB.out hw199_2 :), (bcl_ HB.out hw199_3 :)⟩ (fun hHeld => ?_)
    clear hK K
    refine norm_ (a' := ?_) ?_ ?_
    rotate_left
    ·show Act.put _ (some 25) _ = _
     simp only [aq_]
     rfl
    refine pup_ (i := 9) (N := some 26) HT_ rfl rfl (by kernel_rfl) (fun _ _ _ h => h) (Or.inl ⟨by rfl, by intro w'; go_simp; with_reducible rfl⟩) (by simp only [aq_]; rfl) ?_
    refine done_ (done_of HT_.out (by kernel_rfl)) ?_
    try go_wp2
    go_ret
    exact ⟨by first | rfl | (simp [errW_none, errW_some] <;> rfl) | (simp [*, errW_none, errW_some] <;> rfl), bw HB.out⟩
   subst c8
   have H1 : (laws_eqJobS.l0 k1 l0 l1 (wrap64 (x5_1 + 1))) = some r := by rw [if_pos rfl] at H; exact H
   clear H
   have H := H1
   clear H1
   have H' := Aside0.mk H
   clear H
   try go_wp2
   have n0_ := Aside0.mk (below_drew1 HB.out)
   replace HB := n0_
   clear n0_
   have p198 : 0 ≤ (x5_1 : Int) := of_decide_eq_true (by first | (with_reducible assumption) | assumption)
   have q198 : x5_1 < (l0.length : Int) := of_decide_eq_true (by first | (with_reducible assumption) | assumption)
   obtain ⟨ad198, e198, hx198_0, hx198_1, hx198_2, hx198_3⟩ := at_T41 HR0.out x5_1 p198 q198
   have hw198_3 := hx198_3
   have hw198_2 := hx198_2
   have hw198_1 := hx198_1
   have hw198_0 := hx198_0
   cases e198
   replace hx198_0 := (HB.out.cell (World.block_lt_of_cell? w _ hx198_0)).trans hx198_0
   replace hx198_1 := (HB.out.cell (World.block_lt_of_cell? w _ hx198_1)).trans hx198_1
   replace hx198_2 := (HB.out.cell (World.block_lt_of_cell? w _ hx198_2)).trans hx198_2
   replace hx198_3 := (HB.out.cell (World.block_lt_of_cell? w _ hx198_3)).trans hx198_3
   replace p198 := eq_true p198
   replace q198 := eq_true q198
   have p199 : 0 ≤ (x5_1 : Int) := of_decide_eq_true (by first | (with_reducible assumption) | assumption)
   have q199 : x5_1 < (l1.length : Int) := of_decide_eq_true (by first | (with_reducible assumption) | assumption)
   obtain ⟨ad199, e199, hx199_0, hx199_1, hx199_2, hx199_3⟩ := at_T41 HR1.out x5_1 p199 q199
   have hw199_3 := hx199_3
   have hw199_2 := hx199_2
   have hw199_1 := hx199_1
   have hw199_0 := hx199_0
   cases e199
   replace hx199_0 := (HB.out.cell (World.block_lt_of_cell? w _ hx199_0)).trans hx199_0
   replace hx199_1 := (HB.out.cell (World.block_lt_of_cell? w _ hx199_1)).trans hx199_1
   replace hx199_2 := (HB.out.cell (World.block_lt_of_cell? w _ hx199_2)).trans hx199_2
   replace hx199_3 := (HB.out.cell (World.block_lt_of_cell? w _ hx199_3)).trans hx199_3
   replace p199 := eq_true p199
   replace q199 := eq_true q199
   refine start_ (n := 10) (S := fun w' => w'.cell? (ad198.add ((x5_1).toNat * 4)) = some (.int .i64 ((rd_T41 l0 x5_1).f0)) ∧ w'.cell? ⟨(ad198.add ((x5_1).toNat * 4)).block, (ad198.add ((x5_1).toNat * 4)).off + 1, none⟩ = some (.int .i64 ((rd_T41 l0 x5_1).f1)) ∧ w'.cell? ⟨(ad198.add ((x5_1).toNat * 4)).block, (ad198.add ((x5_1).toNat * 4)).off + 2, none⟩ = some (.int .i64 ((rd_T41 l0 x5_1).f2)) ∧ w'.cell? ⟨(ad198.add ((x5_1).toNat * 4)).block, (ad198.add ((x5_1).toNat * 4)).off + 3, none⟩ = some (.int .i64 ((rd_T41 l0 x5_1).f3)) ∧ w'.cell? (ad199.add ((x5_1).toNat * 4)) = some (.int .i64 ((rd_T41 l1 x5_1).f0)) ∧ w'.cell? ⟨(ad199.add ((x5_1).toNat * 4)).block, (ad199.add ((x5_1).toNat * 4)).off + 1, none⟩ = some (.int .i64 ((rd_T41 l1 x5_1).f1)) ∧ w'.cell? ⟨(ad199.add ((x5_1).toNat * 4)).block, (ad199.add ((x5_1).toNat * 4)).off + 2, none⟩ = some (.int .i64 ((rd_T41 l1 x5_1).f2)) ∧ w'.cell? ⟨(ad199.add ((x5_1).toNat * 4)).block, (ad199.add ((x5_1).toNat * 4)).off + 3, none⟩ = some (.int .i64 ((rd_T41 l1 x5_1).f3))) (ds := []) q10_0 (by kernel_rfl) rfl rfl ⟨(bcl_ HB.out hw198_0 :), (bcl_ HB.out hw198_1 :), (bcl_ HB.out hw198_2 :), (bcl_ HB.out hw198_3 :), (bcl_ HB.out hw199_0 :), (bcl_ HB.out hw199_1 :), (bcl_ HB.out hw199_2 :), (bcl_ HB.out hw199_3 :)⟩ (fun hHeld => ?_); refine with_tabW laws_eqJobS.tab6 laws_eqJobS.bits6 (fun HT_ HW_ => ?_)
   generalize wr.drew = w9 at HB hx198_0 hx198_1 hx198_2 hx198_3 hx199_0 hx199_1 hx199_2 hx199_3 hHeld ⊢
   refine pup_ (i := 0) (N := some 17) HT_ rfl rfl (by kernel_rfl) (fun _ _ _ h => h) (Or.inl ⟨by rfl, by intro w'; go_simp; with_reducible rfl⟩) (by simp only [aq_]; rfl) ?_
   refine pup_ (i := 1) (N := some 18) HT_ rfl rfl (by kernel_rfl) (fun _ _ _ h => h) (Or.inl ⟨by rfl, by intro w'; go_simp; with_reducible rfl⟩) (by simp only [aq_]; rfl) ?_
   refine pup_ (i := 2) (N := some 19) HT_ rfl rfl (by kernel_rfl) (fun _ _ _ h => h) (Or.inl ⟨by rfl, by intro w'; go_simp; with_reducible rfl⟩) (by simp only [aq_]; rfl) ?_
   refine pup_ (i := 4) (N := some 21) HT_ rfl rfl (by kernel_rfl) (fun _ _ _ h => h) (Or.inl ⟨by rfl, by intro w'; go_simp; with_reducible rfl⟩) (by simp only [aq_]; rfl) ?_
   refine pup_ (i := 5) (N := some 22) HT_ rfl rfl (by kernel_rfl) (fun _ _ _ h => h) (Or.inl ⟨by rfl, by intro w'; go_simp; with_reducible rfl⟩) (by simp only [aq_]; rfl) ?_
   refine pup_ (i := 6) (N := some 23) HT_ rfl rfl (by kernel_rfl) (fun _ _ _ h => h) (Or.inl ⟨by rfl, by intro w'; go_simp; with_reducible rfl⟩) (by simp only [aq_]; rfl) ?_
   refine take_ (i := 3) (N := some 20) (v := ?_) (a' := ?_) q10_7 rfl rfl (take_ofW HT_.out HW_.out (by kernel_rfl)) (fun _ _ _ h => h) (Or.inl ⟨by rfl, ?_⟩) hHeld ?_ ?_
   rotate_left
   ·rintro w' ⟨s0, s1, s2, s3, s4, s5, s6, s7⟩
    go_simp
    with_reducible rfl
   rotate_left
   ·simp only [aq_]
    rfl
   refine take_ (i := 7) (N := some 24) (v := ?_) (a' := ?_) q10_8 rfl rfl (take_ofW HT_.out HW_.out (by kernel_rfl)) (fun _ _ _ h => h) (Or.inl ⟨by rfl, ?_⟩) hHeld ?_ ?_
   rotate_left
   ·rintro w' ⟨s0, s1, s2, s3, s4, s5, s6, s7⟩
    go_simp
    with_reducible rfl
   rotate_left
   ·simp only [aq_]
    rfl
   refine one_ (i := 8) (N := some 25) q10_9 rfl rfl (one_of HT_.out (by kernel_rfl)) (by decide) (fun K hK => ?_)
   refine goes_ Try.func26 (by kernel_rfl) rfl #[.agg #[.int .i64 ((rd_T41 l0 x5_1).f0), .int .i64 ((rd_T41 l0 x5_1).f1), .int .i64 ((rd_T41 l0 x5_1).f2), .int .i64 ((rd_T41 l0 x5_1).f3)], .agg #[.int .i64 ((rd_T41 l1 x5_1).f0), .int .i64 ((rd_T41 l1 x5_1).f1), .int .i64 ((rd_T41 l1 x5_1).f2), .int .i64 ((rd_T41 l1 x5_1).f3)]] (by rfl) rfl rfl (by (try simp only [mA_]); first | done | rfl | (simp only [List.length_drop, List.length_take]; rfl)) ?_
   with_reducible refine (laws_eqJob.calls ((rd_T41 l0 x5_1).f0) ((rd_T41 l0 x5_1).f1) ((rd_T41 l0 x5_1).f2) ((rd_T41 l0 x5_1).f3) ((rd_T41 l1 x5_1).f0) ((rd_T41 l1 x5_1).f1) ((rd_T41 l1 x5_1).f2) ((rd_T41 l1 x5_1).f3) true _ A7.out).mono ?_
   rintro e w10 ⟨rfl, hb⟩
   refine ⟨_, rfl, ?_⟩
   have n0_ := Aside0.mk (below_step (bw HB.out) hb)
   replace HB := n0_
   clear n0_
   (try clear hb)
   (try clear hb2)
   (try clear hk)
   (try clear hi)
   refine hK.out _ _ ⟨(bcl_ HB.out hw198_0 :), (bcl_ HB.out hw198_1 :), (bcl_ HB.out hw198_2 :), (bcl_ HB.out hw198_3 :), (bcl_ HB.out hw199_0 :), (bcl_ HB.out hw199_1 :), (bcl_ HB.out hw199_2 :), (bcl_ HB.out hw199_3 :)⟩ (fun hHeld => ?_)
   clear hK K
   refine norm_ (a' := ?_) ?_ ?_
   rotate_left
   ·show Act.put _ (some 25) _ = _
    simp only [aq_]
    rfl
   refine pup_ (i := 9) (N := some 26) HT_ rfl rfl (by kernel_rfl) (fun _ _ _ h => h) (Or.inl ⟨by rfl, by intro w'; go_simp; with_reducible rfl⟩) (by simp only [aq_]; rfl) ?_
   refine done_ (done_of HT_.out (by kernel_rfl)) ?_
   try go_wp2
   go_roundg k1
   case measure => have := HK1.out; omega
   case rel => exact ⟨(wrap64 (x5_1 + 1)), (by first | rfl | (simp; done) | (simp [*]; done)), H', ⟨by have := HK1.out; omega⟩, ⟨bw HB.out⟩⟩

/-! ### laws_eqIntS: function 11 -/
def laws_eqIntS.l0 : Nat → List Int → List Int → Int → Option (Bool)
 | 0, _, _, _ => none
 | k + 1, x0, x1, x5 => if x5 < (x0.length : Int) then (if 0 ≤ x5 then (if x5 < (x1.length : Int) then (if (rd x0 x5) = (rd x1 x5) then (laws_eqIntS.l0 k x0 x1 (wrap64 (x5 + 1))) else (some false)) else (none)) else (none)) else (some true)
def laws_eqIntS.f (k : Nat) (l0 : List Int) (l1 : List Int) : Option (Bool) := if (l0.length : Int) = (l1.length : Int) then (laws_eqIntS.l0 k l0 l1 0) else (some false)
theorem laws_eqIntS.mono_l : ∀ k, (∀ y0 y1 y2, LeO (laws_eqIntS.l0 k y0 y1 y2) (laws_eqIntS.l0 (k + 1) y0 y1 y2))
 | 0 => fun _ _ _ r h => by simp [laws_eqIntS.l0] at h
 | k + 1 => by
  have ih0 := laws_eqIntS.mono_l k
  ·intro y0 y1 y2
   unfold laws_eqIntS.l0
   repeat' first
   | (with_reducible exact ih0 _ _ _)
   | (with_reducible exact LeO.refl _)
   | (with_reducible exact LeO.none _)
   | (with_reducible refine LeO.ite ?_ ?_)
   | (with_reducible refine LeO.bind ?_ (fun _ => ?_))
   | exact ih0 _ _ _
   | exact LeO.none _
   | refine LeO.ite ?_ ?_
   | refine LeO.bind ?_ (fun _ => ?_)
theorem laws_eqIntS.mono : ∀ a0 a1 k, LeO (laws_eqIntS.f k a0 a1) (laws_eqIntS.f (k + 1) a0 a1) := by
 intro a0 a1 k
 have ih0 := laws_eqIntS.mono_l k
 unfold laws_eqIntS.f
 repeat' first
   | (with_reducible exact ih0 _ _ _)
   | (with_reducible exact LeO.refl _)
   | (with_reducible exact LeO.none _)
   | (with_reducible refine LeO.ite ?_ ?_)
   | (with_reducible refine LeO.bind ?_ (fun _ => ?_))
   | exact ih0 _ _ _
   | exact LeO.none _
   | refine LeO.ite ?_ ?_
   | refine LeO.bind ?_ (fun _ => ?_)
set_option maxHeartbeats 8000000 in
set_option maxRecDepth 100000 in
theorem laws_eqIntS.calls (k : Nat) (A0 : Option Addr) (c0 : Nat) (l0 : List Int) (A1 : Option Addr) (c1 : Nat) (l1 : List Int) (r : Bool) (w : World) (hr0 : Kd.C (Kd.int .i64) w A0 l0.length l0) (hc0 : l0.length ≤ c0) (hr1 : Kd.C (Kd.int .i64) w A1 l1.length l1) (hc1 : l1.length ≤ c1) (h : laws_eqIntS.f k l0 l1 = some r) :
  Calls Try.prog 11 #[.slice A0 l0.length c0, .slice A1 l1.length c1] w fun e w' => e = .returned (.bool r) ∧ Drawn0 w w' := by
 have HR0 := Aside0.mk hr0
 have HC0 := Aside0.mk hc0
 clear hr0 hc0
 have HR1 := Aside0.mk hr1
 have HC1 := Aside0.mk hc1
 clear hr1 hc1
 have H : (if (l0.length : Int) = (l1.length : Int) then (laws_eqIntS.l0 k l0 l1 0) else (some false)) = some r := h
 clear h
 by_cases c3 : (l0.length : Int) = (l1.length : Int)
 rotate_left
 ·rw [if_neg c3] at H
  have c3b0 : ((l0.length : Int) == (l1.length : Int)) = false := beq_eq_false_iff_ne.mpr c3
  have c3b1 : ((l0.length : Int) != (l1.length : Int)) = true := bne_iff_ne.mpr c3
  have c3b2 : (l0.length == l1.length) = false := by first | simpa using c3 | (simp at c3 ⊢; omega)
  obtain rfl := Option.some.inj H
  go_enter Try.func11, Try.ntmps11
  go_wp2
  repeat (go_quiet (fail); try go_wp2)
  go_ret
  exact ⟨by first | rfl | (simp; done) | (simp [*]; done), by repeat (first | exact Drawn0.refl _ | apply Drawn0.step)⟩
 rw [if_pos c3] at H
 have c3b0 : ((l0.length : Int) == (l1.length : Int)) = true := beq_iff_eq.mpr c3
 have c3b1 : ((l0.length : Int) != (l1.length : Int)) = false := bne_eq_false_iff_eq.mpr c3
 have c3b2 : (l0.length == l1.length) = true := by first | simpa using c3 | (simp at c3 ⊢; omega)
 clear c3
 have H' := Aside0.mk H
 clear H
 go_enter Try.func11, Try.ntmps11
 go_wp2
 repeat (go_quiet (fail); try go_wp2)
 go_loopg [5] k (fun kq v5 w' => ∃ (x5_1 : Int), v5 = .int .i64 x5_1 ∧ Aside0 (laws_eqIntS.l0 kq l0 l1 x5_1 = some r) ∧ Aside0 (kq ≤ k) ∧ Drawn0 w w')
 case atStart => exact ⟨(0), (by first | rfl | (simp; done) | (simp [*]; done)), H', ⟨Nat.le_refl _⟩, by repeat (first | exact Drawn0.refl _ | apply Drawn0.step)⟩
 case round =>
  clear H'
  try clear c1
  try clear p2
  try clear c3
  try clear c3b0
  try clear c3b1
  try clear c3b2
  obtain ⟨x5_1, rfl, HA, HK1, ⟨m1, rfl⟩⟩ := hrel
  cases gk with
  | zero => exact absurd HA.out (by simp [laws_eqIntS.l0])
  | succ k1 =>
   have H := HA.out
   clear HA
   simp only [laws_eqIntS.l0] at H
   by_cases c4 : x5_1 < (l0.length : Int)
   rotate_left
   ·rw [if_neg c4] at H
    have c4b0 : decide (x5_1 < (l0.length : Int)) = false := decide_eq_false c4
    clear c4
    obtain rfl := Option.some.inj H
    go_wp2
    repeat (go_quiet (fail); try go_wp2)
    go_ret
    exact ⟨by first | rfl | (simp; done) | (simp [*]; done), by repeat (first | exact Drawn0.refl _ | apply Drawn0.step)⟩
   rw [if_pos c4] at H
   have c4b0 : decide (x5_1 < (l0.length : Int)) = true := decide_eq_true c4
   clear c4
   by_cases c5 : 0 ≤ x5_1
   rotate_left
   ·rw [if_neg c5] at H
    exact absurd H (by simp)
   rw [if_pos c5] at H
   have c5b0 : decide (0 ≤ x5_1) = true := decide_eq_true c5
   clear c5
   by_cases c6 : x5_1 < (l1.length : Int)
   rotate_left
   ·rw [if_neg c6] at H
    exact absurd H (by simp)
   rw [if_pos c6] at H
   have c6b0 : decide (x5_1 < (l1.length : Int)) = true := decide_eq_true c6
   clear c6
   by_cases c7 : (rd l0 x5_1) = (rd l1 x5_1)
   rotate_left
   ·rw [if_neg c7] at H
    have c7b0 : ((rd l0 x5_1) == (rd l1 x5_1)) = false := beq_eq_false_iff_ne.mpr c7
    have c7b1 : ((rd l0 x5_1) != (rd l1 x5_1)) = true := bne_iff_ne.mpr c7
    obtain rfl := Option.some.inj H
    have p201 : 0 ≤ (x5_1 : Int) := of_decide_eq_true (by first | (with_reducible assumption) | assumption)
    have q201 : x5_1 < (l0.length : Int) := of_decide_eq_true (by first | (with_reducible assumption) | assumption)
    obtain ⟨ad201, e201, hx201_0⟩ := Kd.at_int HR0.out x5_1 p201 q201
    cases e201
    replace p201 := eq_true p201
    replace q201 := eq_true q201
    have p202 : 0 ≤ (x5_1 : Int) := of_decide_eq_true (by first | (with_reducible assumption) | assumption)
    have q202 : x5_1 < (l1.length : Int) := of_decide_eq_true (by first | (with_reducible assumption) | assumption)
    obtain ⟨ad202, e202, hx202_0⟩ := Kd.at_int HR1.out x5_1 p202 q202
    cases e202
    replace p202 := eq_true p202
    replace q202 := eq_true q202
    go_wp2
    repeat (go_quiet (fail); try go_wp2)
    go_ret
    exact ⟨by first | rfl | (simp; done) | (simp [*]; done), by repeat (first | exact Drawn0.refl _ | apply Drawn0.step)⟩
   rw [if_pos c7] at H
   have c7b0 : ((rd l0 x5_1) == (rd l1 x5_1)) = true := beq_iff_eq.mpr c7
   have c7b1 : ((rd l0 x5_1) != (rd l1 x5_1)) = false := bne_eq_false_iff_eq.mpr c7
   clear c7
   have H' := Aside0.mk H
   clear H
   have p201 : 0 ≤ (x5_1 : Int) := of_decide_eq_true (by first | (with_reducible assumption) | assumption)
   have q201 : x5_1 < (l0.length : Int) := of_decide_eq_true (by first | (with_reducible assumption) | assumption)
   obtain ⟨ad201, e201, hx201_0⟩ := Kd.at_int HR0.out x5_1 p201 q201
   cases e201
   replace p201 := eq_true p201
   replace q201 := eq_true q201
   have p202 : 0 ≤ (x5_1 : Int) := of_decide_eq_true (by first | (with_reducible assumption) | assumption)
   have q202 : x5_1 < (l1.length : Int) := of_decide_eq_true (by first | (with_reducible assumption) | assumption)
   obtain ⟨ad202, e202, hx202_0⟩ := Kd.at_int HR1.out x5_1 p202 q202
   cases e202
   replace p202 := eq_true p202
   replace q202 := eq_true q202
   go_wp2
   repeat (go_quiet (fail); try go_wp2)
   go_roundg k1
   case measure => have := HK1.out; omega
   case rel => exact ⟨(wrap64 (x5_1 + 1)), (by first | rfl | (simp; done) | (simp [*]; done)), H', ⟨by have := HK1.out; omega⟩, by repeat (first | exact Drawn0.refl _ | apply Drawn0.step)⟩

end Go.Proofs.Ytmfdbdpgfbpbpaa.X
