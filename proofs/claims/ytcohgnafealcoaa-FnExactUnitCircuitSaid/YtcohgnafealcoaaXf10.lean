-- Written by a program of this session (wip/gen/xp.py, over the kit's printer). Not trusted: Lean checks it.
import Derived.Test.YtcohgnafealcoaaX0
namespace Go.Proofs.Ytcohgnafealcoaa.X
open Go.RowKit Go.Proofs.YtcohgnafealcoaaW.PrintWords Go.Proofs.YtcohgnafealcoaaW.PrintLast Go.Proofs.YtcohgnafealcoaaW.PrintMore
attribute [local go_sem] max2_int min2_int max_two min_two max_three min_three max_four min_four   -- for this text's walks alone
set_option linter.unusedVariables false
set_option linter.unusedSimpArgs false

/-! ### impl_sortedBy: function 49 -/
def impl_sortedBy.f (l0 : List (Int)) : Option (List Int) := none   -- (its closure is not in the printed shape: callers are written by hand)
/-- Where a number is put: behind all that it should not be ahead of. -/
def impl_sortedBy.insK (p : Int → Int → Option Bool) (i : Int) (out : List Int) : Nat → Option Nat
 | 0 => some 0
 | k + 1 => (p i (rd out (k : Int))).bind fun b => if b = true then impl_sortedBy.insK p i out k else some (k + 1)
def impl_sortedBy.insL (out : List Int) (k : Nat) (i : Int) : List Int := out.take k ++ i :: out.drop k
def impl_sortedBy.sortO (p : Int → Int → Option Bool) : List Int → List Int → Option (List Int)
 | [], out => some out
 | i :: r, out => (impl_sortedBy.insK p i out out.length).bind fun k => impl_sortedBy.sortO p r (impl_sortedBy.insL out k i)
theorem impl_sortedBy.insK_le {p : Int → Int → Option Bool} {i : Int} {out : List Int} : ∀ {n k : Nat}, impl_sortedBy.insK p i out n = some k → k ≤ n
 | 0, k, h => by
  simp only [impl_sortedBy.insK, Option.some.injEq] at h
  omega
 | n + 1, k, h => by
  rw [impl_sortedBy.insK] at h
  obtain ⟨b, hb, h⟩ := Option.bind_eq_some_iff.mp h
  cases b with
  | true => rw [if_pos rfl] at h; have := impl_sortedBy.insK_le h; omega
  | false => simp only [Bool.false_eq_true, if_false, Option.some.injEq] at h; omega
theorem impl_sortedBy.insK_exit {p : Int → Int → Option Bool} {i : Int} {out : List Int} {n k : Nat} (h : impl_sortedBy.insK p i out n = some k) (hc : ¬ ∃ m, n = m + 1 ∧ p i (rd out (m : Int)) = some true) : n = k ∧ (n = 0 ∨ ∃ m, n = m + 1 ∧ p i (rd out (m : Int)) = some false) := by
 cases n with
 | zero =>
  simp only [impl_sortedBy.insK, Option.some.injEq] at h
  exact ⟨h, .inl rfl⟩
 | succ m =>
  rw [impl_sortedBy.insK] at h
  obtain ⟨b, hb, h⟩ := Option.bind_eq_some_iff.mp h
  cases b with
  | true => exact absurd ⟨m, rfl, hb⟩ hc
  | false =>
   simp only [Bool.false_eq_true, if_false, Option.some.injEq] at h
   exact ⟨h, .inr ⟨m, rfl, hb⟩⟩
/-- What a function value answers for numbers that p answers, in every later world; it may draw and may lay new things. -/
def impl_sortedBy.AheadAt (g : Nat) (lb : Array Value) (p : Int → Int → Option Bool) (w : World) : Prop :=
 ∀ (W : World) (a b : Int) (r : Bool), Below w.heap.size w W → p a b = some r → Calls Try.prog g (#[.int .i64 a, .int .i64 b] ++ lb) W fun e w' => e = .returned (.bool r) ∧ Below W.heap.size W w'
theorem impl_sortedBy.sort_copied {W : World} {base go n c : Nat} {ok : Nat → Prop} {xs : List Int} (h : Kd.R (Kd.int .i64) 3 W base ok (.slice (some ⟨go, 0, none⟩) n c) xs) (hp : 0 < n) :
  ∃ cur : List Value, W.heap[go]? = some (.cells cur.toArray 3 (0, 0)) ∧ base ≤ go ∧ n ≤ cur.length ∧ ∀ (cs : List Int) (off : Nat) (W9 : World), off + cs.length ≤ n → W9.heap[go]? = some (.cells (splice cur off (cs.map (Value.int .i64))).toArray 3 (0, 0)) →
   Kd.R (Kd.int .i64) 3 W9 base ok (.slice (some ⟨go, 0, none⟩) n c) (xs.take off ++ (cs ++ xs.drop (off + cs.length))) := by
 have hown := Kd.own_of_R (show (Kd.scalar (Value.int .i64) (fun _ => rfl)).R 3 W base ok _ xs from h)
 obtain ⟨hl, hd⟩ := hown
 rcases hd with ⟨hv, _⟩ | ⟨g', cap', cur, hv, hb, hh, hnc, hcm, hcs, ht⟩
 ·cases hv
 ·injection hv with ha hn hc
  injection ha with ha
  injection ha with hg
  subst hg hc
  subst hn
  refine ⟨cur.toList, by simpa using hh, hb, by simp; omega, fun cs off W9 hfit h9 => ?_⟩
  refine Kd.R_of_own ⟨by simp [encs], .inr ⟨go, c, (splice cur.toList off (cs.map (Value.int .i64))).toArray, ?_, hb, h9, ?_, hcm, ?_, ?_⟩⟩ h.1
  ·simp; omega
  ·simp; omega
  ·have := length_splice cur.toList off (cs.map (Value.int .i64)) (by simp; omega)
   simpa [hcs] using this
  ·have e : (xs.take off ++ (cs ++ xs.drop (off + cs.length))).length = xs.length := by simp; omega
   rw [e, Nat.mul_one]
   rw [Nat.mul_one] at ht
   have e2 : cur.toList = encs (Value.int .i64) xs ++ cur.toList.drop xs.length := by
    rw [← ht]
    exact (List.take_append_drop _ _).symm
   generalize cur.toList.drop xs.length = s at e2
   have hE : (encs (Value.int .i64) xs).length = xs.length := encs_length xs
   show (splice cur.toList off (cs.map (Value.int .i64))).take xs.length = _
   rw [splice, e2, show (encs (Value.int .i64) xs ++ s).take off = (encs (Value.int .i64) xs).take off from List.take_append_of_le_length (by omega), show (encs (Value.int .i64) xs ++ s).drop (off + (cs.map (Value.int .i64)).length) = (encs (Value.int .i64) xs).drop (off + (cs.map (Value.int .i64)).length) ++ s from List.drop_append_of_le_length (by rw [List.length_map]; omega)]
   rw [show (encs (Value.int .i64) xs).take off ++ (cs.map (Value.int .i64) ++ ((encs (Value.int .i64) xs).drop (off + (cs.map (Value.int .i64)).length) ++ s)) = ((encs (Value.int .i64) xs).take off ++ (cs.map (Value.int .i64) ++ (encs (Value.int .i64) xs).drop (off + (cs.map (Value.int .i64)).length))) ++ s from by simp only [List.append_assoc]]
   rw [List.take_left' (by simp only [List.length_append, List.length_take, List.length_map, List.length_drop, hE]; omega)]
   simp only [encs, List.map_append, List.map_take, List.map_drop, List.length_map]
theorem impl_sortedBy.set_copied {out : List Int} {k : Nat} (x : Int) (h : k ≤ out.length) : ((out ++ [0]).take (k + 1) ++ out.drop k).set k x = impl_sortedBy.insL out k x := by
 have hA : ((out ++ [0]).take (k + 1)).length = k + 1 := by rw [List.length_take, List.length_append, List.length_singleton]; omega
 rw [List.set_eq_take_append_cons_drop, if_pos (by rw [List.length_append, hA]; omega), List.take_append_of_le_length (by omega), List.take_take, Nat.min_eq_left (by omega), List.take_append_of_le_length h, List.drop_left' hA]
 rfl
set_option maxHeartbeats 1600000 in
set_option maxRecDepth 100000 in
theorem impl_sortedBy.calls (g : Nat) (lb : Array Value) (p : Int → Int → Option Bool) (A0 : Option Addr) (c0 : Nat) (l0 r : List Int) (w : World) (hr0 : Kd.C (Kd.int .i64) w A0 l0.length l0) (hc0 : l0.length ≤ c0) (hl : l0.length ≤ 1000000)
  (heg : ∀ args w, (callFunc g args).run Try.prog w = .ok (.enter g args) w) (hp : impl_sortedBy.AheadAt g lb p w) (h : impl_sortedBy.sortO p l0 [] = some r) :
  Calls Try.prog 49 #[.slice A0 l0.length c0, .func (.func g) #[] lb] w fun e w' => ∃ v0_ : Value, e = .returned v0_ ∧ Kd.R (Kd.int .i64) 3 w' w.heap.size (fun _ => True) v0_ r ∧ Below w.heap.size w w' := by
 have HR0 := Aside0.mk hr0
 have HC0 := Aside0.mk hc0
 have HL := Aside0.mk hl
 have HP := Aside0.mk hp
 have HEG := Aside0.mk heg
 clear hr0 hc0 hp heg hl
 have HB := Aside0.mk (Below.refl w.heap.size w)
 have H' := Aside0.mk h
 clear h
 go_enter Try.func49, Try.ntmps49
 go_wp2
 go_loopg [5, 11] l0.length (fun kq v5 v11 w' => ∃ (i : Int) (pre rest out : List Int), v11 = .int .i64 i ∧ Aside0 (i = (pre.length : Int)) ∧ Aside0 (l0 = pre ++ rest) ∧ Aside0 (rest.length = kq) ∧ Aside0 (out.length = pre.length) ∧ Aside0 (impl_sortedBy.sortO p rest out = some r) ∧ Aside0 (Kd.R (Kd.int .i64) 3 w' w.heap.size (fun _ => True) v5 out) ∧ Aside0 (Below w.heap.size w w'))
 case atStart => exact ⟨0, [], l0, [], rfl, ⟨rfl⟩, ⟨rfl⟩, ⟨rfl⟩, ⟨rfl⟩, H', ⟨Kd.R_nil _ _ _ _ _⟩, HB⟩
 case round =>
  clear H' HB
  obtain ⟨i, pre, rest, out, rfl, HI, HA, HN, HO, H, HR, HB⟩ := hrel
  have hlen : l0.length = pre.length + rest.length := by rw [HA.out, List.length_append]
  have hi0 := HI.out
  cases rest with
  | nil =>
   simp only [List.length_nil, Nat.add_zero] at hlen
   have e3 : decide (i < (l0.length : Int)) = false := decide_eq_false (by omega)
   obtain rfl : out = r := by
    have := H.out
    simpa [impl_sortedBy.sortO] using this
   clear hlen hi0
   go_wp2
   go_ret
   exact ⟨_, rfl, HR.out, HB.out⟩
  | cons x rest =>
   simp only [List.length_cons] at hlen
   have hl9 := HL.out
   have e3 : decide (i < (l0.length : Int)) = true := decide_eq_true (by omega)
   have p1 : 0 ≤ i := by omega
   have q1 : i < (l0.length : Int) := by omega
   have hx : rd l0 i = x := by
    rw [HA.out, hi0]
    show (pre ++ x :: rest).getD (pre.length : Int).toNat 0 = x
    simp
   obtain ⟨ad, ea, hxc⟩ := Kd.at_int (Kd.C_below HR0.out HB.out) i p1 q1
   rw [hx] at hxc
   cases ea
   have HX := Aside0.mk hx
   clear hx
   obtain ⟨kk, hkk, hrest⟩ := Option.bind_eq_some_iff.mp (show (impl_sortedBy.insK p x out out.length).bind _ = some r from H.out)
   have HK := Aside0.mk hkk
   have HS := Aside0.mk hrest
   clear hkk hrest
   obtain ⟨Ao, co, eo⟩ := Kd.R_slice HR.out
   subst eo
   have HOL := Aside0.mk (show out.length ≤ 1000000 from by have := HO.out; omega)
   have p1b := eq_true p1
   have q1b := eq_true q1
   have HLN := Aside0.mk hlen
   clear hlen hi0 hl9 p1 q1
   go_wp2
   go_loopg [8] out.length (fun kq v8 w' => ∃ (j : Int) (n : Nat), v8 = .int .i64 j ∧ Aside0 (j = (n : Int)) ∧ Aside0 (n = kq) ∧ Aside0 (n ≤ out.length) ∧ Aside0 (impl_sortedBy.insK p x out n = some kk) ∧ Aside0 (Kd.R (Kd.int .i64) 3 w' w.heap.size (fun _ => True) (.slice Ao out.length co) out) ∧ Aside0 (Below w.heap.size w w'))
   case atStart => exact ⟨_, out.length, rfl, ⟨rfl⟩, ⟨rfl⟩, ⟨Nat.le_refl _⟩, HK, HR, HB⟩
   case round =>
    clear HK HR HB hxc
    obtain ⟨j, n, rfl, HJ, HN2, HNL, HK, HR, HB⟩ := hrel
    by_cases hcont : ∃ m, n = m + 1 ∧ p x (rd out (m : Int)) = some true
    ·obtain ⟨m, rfl, hpx⟩ := hcont
     have hj := HJ.out
     have hnl := HNL.out
     have hol := HOL.out
     have HK2 : Aside0 (impl_sortedBy.insK p x out m = some kk) := ⟨by have := HK.out; rw [impl_sortedBy.insK, hpx] at this; exact this⟩
     have d1 : decide (0 < j) = true := decide_eq_true (by omega)
     have d2 : 0 ≤ j - 1 := by omega
     have d3 : j - 1 < (out.length : Int) := by omega
     have d6 : j ≤ 1000000 := by omega
     have d7 : 0 < j := by omega
     have hw : wrap64 (j - 1) = j - 1 := by unfold wrap64; omega
     have hw2 : IntKind.i64.wrap (j - 1) = j - 1 := (i64_w _).trans hw
     obtain ⟨ad2, ea2, hc2⟩ := Kd.at_int (Kd.R_reads' HR.out).2.2 (j - 1) d2 d3
     have e5 : rd out (j - 1) = rd out (m : Int) := by rw [hj]; congr 1; omega
     have e6 : (j - 1).toNat = j.toNat - 1 := by omega
     rw [e5, e6] at hc2
     cases ea2
     have HCALL := Aside0.mk (HP.out wr x (rd out (m : Int)) true HB.out hpx)
     have eg := HEG.out
     have HM := Aside0.mk (show j - 1 = (m : Int) by omega)
     have d2b := eq_true d2
     have d3b := eq_true d3
     have HPX := Aside0.mk hpx
     clear hj hnl hol hpx e5 e6
     go_wp2_with ((with_reducible refine (HCALL.out).mono ?_); rintro e w' ⟨rfl, hbc⟩; have n0 := Aside0.mk (Kd.R_below HR.out hbc); have n1 := Aside0.mk (below_step HB.out hbc); clear hbc HR HB; have HR := n0; have HB := n1; clear n0 n1 HCALL)
     go_roundg m
     case measure =>
      have := HN2.out
      omega
     case rel => exact ⟨_, m, rfl, HM, ⟨rfl⟩, ⟨by have := HNL.out; omega⟩, HK2, HR, HB⟩
    obtain ⟨hkn, hex⟩ := impl_sortedBy.insK_exit HK.out hcont
    clear hcont
    have hj := HJ.out
    have hnl := HNL.out
    have hol := HOL.out
    rcases hex with hn0 | ⟨m, hm, hpx⟩
    ·have d1 : decide (0 < j) = false := decide_eq_false (by omega)
     have HKK := Aside0.mk (show j = (kk : Int) by omega)
     have HKL := Aside0.mk (show kk ≤ out.length by omega)
     clear hn0 hj hnl hol hkn
     go_wp2_with (((with_reducible refine gate_builtin (b := .append) (xs := #[.tmp 31, .tmp 32]) rfl ?_); at_builtin; refine Kd.R_append (Kd.int .i64) (w0 := w) w.heap.size rfl (.tmp 31) (.tmp 32) 23 3 (.int .i64 0) 8 rfl Try.underlying23 (show (Try.prog.info? 3).map (fun i => (i.zero, i.size, i.bytes)) = some (some (.int .i64 0), 1, 8) from by kernel_rfl) rfl (by decide) (by omega) (.slice Ao out.length co) out 0 [.int .i64 0] (fun _ => True) (fun _ => False) rfl rfl ?aP (fun _ hk => hk.elim) ?aF ?aO ?aB ?aS ?aL ?_; (case aP => exact rfl); (case aB => exact bw HB.out); (case aF => exact (fun _ _ => trivial)); (case aO => exact (bR HR.out)); (case aS => exact (below_size (bw HB.out))); (case aL => have := HOL.out; omega); intro v8 w8 ho hb hg hat; have HR2 := Aside0.mk ho; have HB2 := Aside0.mk hb; clear ho hb hg hat HR HB; obtain ⟨A2, c2, e2⟩ := Kd.R_slice HR2.out; subst e2))
     cases HKK
     obtain ⟨go, c3, e3_, gb, gl, HG⟩ := Kd.R_form HR2.out (by simp)
     have ec_ : c2 = c3 := by injection e3_
     have eA_ : A2 = some ⟨go, 0, none⟩ := by injection e3_
     subst ec_ eA_
     clear e3_
     have HFC := Aside0.mk (show out.length + 1 ≤ c2 from by have := (Kd.R_reads' HR2.out).2.1; simpa using this)
     have HG_ := Aside0.mk HG
     have HGB := Aside0.mk gb
     clear HG gb gl
     have u1 : wrap64 ((kk : Int) + 1) = (kk : Int) + 1 := by have := HKL.out; have := HOL.out; unfold wrap64; omega
     have u2 : IntKind.i64.wrap ((kk : Int) + 1) = (kk : Int) + 1 := (i64_w _).trans u1
     have v1 : 0 ≤ (kk : Int) + 1 := by omega
     have v2 : (kk : Int) + 1 ≤ (out.length : Int) + 1 := by have := HKL.out; omega
     have v3 : (kk : Int) ≤ (out.length : Int) + 1 := by have := HKL.out; omega
     have v4 : 0 ≤ (kk : Int) := by omega
     have v5 : kk ≤ out.length := HKL.out
     have v6 : ¬ c2 = kk := by have := HKL.out; have := HFC.out; omega
     have v7 : ((kk : Int) + 1).toNat = kk + 1 := by omega
     go_still_tail 7, (show Try.prog.follows .mixedOrders = true from by rfl)
     obtain ⟨cur, hcur, hgo, hcl, hcopy⟩ := impl_sortedBy.sort_copied HR2.out (by simp)
     have HCP := Aside0.mk hcopy
     clear hcopy
     refine wpList_copy_splice rfl (.tmp 37) (.tmp 40) 23 23 rfl 3 Try.underlying23 (by kernel_rfl) (if c2 = kk + 1 then some ⟨go, 0, none⟩ else some ⟨go, kk + 1, none⟩) (some ⟨go, kk, none⟩) (out.length - kk) (c2 - (kk + 1)) (out.length + 1 - kk) (c2 - kk) rfl rfl go (kk + 1) cur 3 hcur ((out.drop kk).map (Value.int .i64)) ?cn ?cp ?cf ?c1 w.heap.size w ?cb hgo ?_
     case cn => rw [List.length_map, List.length_drop]; exact (Nat.min_eq_right (by omega)).symm
     case cp =>
      intro hpos
      have hpos' : kk < out.length := by simp at hpos; omega
      have := HFC.out
      refine ⟨if_neg (by omega), ⟨go, kk, none⟩, rfl, fun j v hj => ?_⟩
      rw [List.getElem?_map, List.getElem?_drop] at hj
      obtain ⟨y, hy, rfl⟩ := Option.map_eq_some_iff.mp hj
      have hlt := (List.getElem?_eq_some_iff.mp hy).1
      have hc8 := (Kd.R_celln 0 HR2.out ((kk + j : Nat) : Int) (by omega) (by rw [List.length_append, List.length_singleton]; omega)).1
      rw [Int.toNat_natCast, show rdOf 0 (out ++ [0]) ((kk + j : Nat) : Int) = y from by unfold rdOf; rw [Int.toNat_natCast, List.getD_eq_getElem?_getD, List.getElem?_append_left hlt, hy]; rfl] at hc8
      rw [show (⟨go, kk, none⟩ : Addr).add j = ⟨go, kk + j, none⟩ from by first | rfl | (simp only [add_plain]; done) | simp [Addr.add]]
      first | exact hc8 | (show (w8.drewN 1).cell? _ = _; simpa using hc8)
     case cf => simp; simp at hcl; omega
     case c1 => intro v hv; obtain ⟨y, _, rfl⟩ := List.mem_map.mp hv; rfl
     case cb => exact pw_below_drewN HB2.out 1
     intro w9 hg9 hb9
     have HR9 := Aside0.mk (HCP.out (out.drop kk) (kk + 1) w9 (by simp; omega) hg9)
     have HB9 := Aside0.mk hb9
     clear hg9 hb9 HCP hcur HR2 HB2 hcl
     generalize (if c2 = kk + 1 then some (⟨go, 0, none⟩ : Addr) else some ⟨go, kk + 1, none⟩) = A37
     have hkl := HKL.out
     have HR10 := Aside0.mk (show Kd.R (Kd.int .i64) 3 w9 w.heap.size (fun _ => True) (.slice (some ⟨go, 0, none⟩) (out.length + 1) c2) ((out ++ [0]).take (kk + 1) ++ out.drop kk) from by
      have := HR9.out
      rw [List.length_drop, show List.drop (kk + 1 + (out.length - kk)) (out ++ [0]) = [] from List.drop_of_length_le (by rw [List.length_append, List.length_singleton]; omega), List.append_nil, List.length_append, List.length_singleton] at this
      exact this)
     clear HR9
     obtain ⟨hy, hz⟩ := Kd.R_celln 0 HR10.out (kk : Int) v4 (by omega)
     have HP10 := Kd.R_putg HR10.out (kk : Int) x
     rw [Int.toNat_natCast] at hy hz HP10
     have w1_ : (kk : Int) < (out.length : Int) + 1 := by omega
     clear hkl
     go_wp2_with ((with_reducible refine gate_store (t := 3) (p := 45) rfl ?_); refine store_event (t := 3) (p := 45) (v := ?vo_w78) (w1 := (w9.setCell ⟨go, kk, none⟩ (.int .i64 x))) ?hg ?ho ?hn ?hr ?_; (case ho => rfl); (case hg => rfl); (case hn => rfl); (case hr => first | (go_simp; done) | (go_simp; rfl)); intro w10 hw; have HR11 := Aside0.mk (show Kd.R (Kd.int .i64) 3 w10 w.heap.size (fun _ => True) (.slice (some ⟨go, 0, none⟩) (out.length + 1) c2) (((out ++ [0]).take (kk + 1) ++ out.drop kk).set kk x) from (by rw [hw]; exact HP10.1)); have HB11 := Aside0.mk ((by rw [hw]; exact below_set HB9.out hgo : Below w.heap.size w w10)); clear HP10 hw HR10 HB9)
     clear hy hz
     go_roundg rest.length
     case measure =>
      have := HN.out
      simp only [List.length_cons] at this
      omega
     case rel =>
      have hi := HI.out
      have hl := HL.out
      have hw1 : wrap64 (i + 1) = i + 1 := by
       have := HLN.out
       unfold wrap64
       omega
      refine ⟨_, pre ++ [x], rest, impl_sortedBy.insL out kk x, rfl, ⟨?_⟩, ⟨?_⟩, ⟨rfl⟩, ⟨?_⟩, HS, ⟨?_⟩, HB11⟩
      ·rw [hw1, List.length_append, List.length_singleton]
       omega
      ·rw [HA.out, List.append_assoc]
       rfl
      ·have := HO.out
       simp only [impl_sortedBy.insL, List.length_append, List.length_take, List.length_cons, List.length_drop, List.length_nil]
       have := HKL.out
       omega
      ·rw [← impl_sortedBy.set_copied x HKL.out]
       exact HR11.out
    ·have d1 : decide (0 < j) = true := decide_eq_true (by omega)
     have d2 : 0 ≤ j - 1 := by omega
     have d3 : j - 1 < (out.length : Int) := by omega
     have d6 : j ≤ 1000000 := by omega
     have d7 : 0 < j := by omega
     have hw : wrap64 (j - 1) = j - 1 := by unfold wrap64; omega
     have hw2 : IntKind.i64.wrap (j - 1) = j - 1 := (i64_w _).trans hw
     obtain ⟨ad2, ea2, hc2⟩ := Kd.at_int (Kd.R_reads' HR.out).2.2 (j - 1) d2 d3
     have e5 : rd out (j - 1) = rd out (m : Int) := by rw [hj]; congr 1; omega
     have e6 : (j - 1).toNat = j.toNat - 1 := by omega
     rw [e5, e6] at hc2
     cases ea2
     have HCALL := Aside0.mk (HP.out wr x (rd out (m : Int)) false HB.out hpx)
     have eg := HEG.out
     have HKK := Aside0.mk (show j = (kk : Int) by omega)
     have HKL := Aside0.mk (show kk ≤ out.length by omega)
     have d2b := eq_true d2
     have d3b := eq_true d3
     clear hj hnl hol hpx e5 e6 hkn hm
     go_wp2_with (first | ((with_reducible refine (HCALL.out).mono ?_); rintro e w' ⟨rfl, hbc⟩; have n0 := Aside0.mk (Kd.R_below HR.out hbc); have n1 := Aside0.mk (below_step HB.out hbc); clear hbc HR HB; have HR := n0; have HB := n1; clear n0 n1 HCALL) | (((with_reducible refine gate_builtin (b := .append) (xs := #[.tmp 31, .tmp 32]) rfl ?_); at_builtin; refine Kd.R_append (Kd.int .i64) (w0 := w) w.heap.size rfl (.tmp 31) (.tmp 32) 23 3 (.int .i64 0) 8 rfl Try.underlying23 (show (Try.prog.info? 3).map (fun i => (i.zero, i.size, i.bytes)) = some (some (.int .i64 0), 1, 8) from by kernel_rfl) rfl (by decide) (by omega) (.slice (some ad2) out.length co) out 0 [.int .i64 0] (fun _ => True) (fun _ => False) rfl rfl ?aP (fun _ hk => hk.elim) ?aF ?aO ?aB ?aS ?aL ?_; (case aP => exact rfl); (case aB => exact bw HB.out); (case aF => exact (fun _ _ => trivial)); (case aO => exact (bR HR.out)); (case aS => exact (below_size (bw HB.out))); (case aL => have := HOL.out; omega); intro v8 w8 ho hb hg hat; have HR2 := Aside0.mk ho; have HB2 := Aside0.mk hb; clear ho hb hg hat HR HB; obtain ⟨A2, c2, e2⟩ := Kd.R_slice HR2.out; subst e2)))
     cases HKK
     obtain ⟨go, c3, e3_, gb, gl, HG⟩ := Kd.R_form HR2.out (by simp)
     have ec_ : c2 = c3 := by injection e3_
     have eA_ : A2 = some ⟨go, 0, none⟩ := by injection e3_
     subst ec_ eA_
     clear e3_
     have HFC := Aside0.mk (show out.length + 1 ≤ c2 from by have := (Kd.R_reads' HR2.out).2.1; simpa using this)
     have HG_ := Aside0.mk HG
     have HGB := Aside0.mk gb
     clear HG gb gl
     have u1 : wrap64 ((kk : Int) + 1) = (kk : Int) + 1 := by have := HKL.out; have := HOL.out; unfold wrap64; omega
     have u2 : IntKind.i64.wrap ((kk : Int) + 1) = (kk : Int) + 1 := (i64_w _).trans u1
     have v1 : 0 ≤ (kk : Int) + 1 := by omega
     have v2 : (kk : Int) + 1 ≤ (out.length : Int) + 1 := by have := HKL.out; omega
     have v3 : (kk : Int) ≤ (out.length : Int) + 1 := by have := HKL.out; omega
     have v4 : 0 ≤ (kk : Int) := by omega
     have v5 : kk ≤ out.length := HKL.out
     have v6 : ¬ c2 = kk := by have := HKL.out; have := HFC.out; omega
     have v7 : ((kk : Int) + 1).toNat = kk + 1 := by omega
     go_still_tail 7, (show Try.prog.follows .mixedOrders = true from by rfl)
     obtain ⟨cur, hcur, hgo, hcl, hcopy⟩ := impl_sortedBy.sort_copied HR2.out (by simp)
     have HCP := Aside0.mk hcopy
     clear hcopy
     refine wpList_copy_splice rfl (.tmp 37) (.tmp 40) 23 23 rfl 3 Try.underlying23 (by kernel_rfl) (if c2 = kk + 1 then some ⟨go, 0, none⟩ else some ⟨go, kk + 1, none⟩) (some ⟨go, kk, none⟩) (out.length - kk) (c2 - (kk + 1)) (out.length + 1 - kk) (c2 - kk) rfl rfl go (kk + 1) cur 3 hcur ((out.drop kk).map (Value.int .i64)) ?cn ?cp ?cf ?c1 w.heap.size w ?cb hgo ?_
     case cn => rw [List.length_map, List.length_drop]; exact (Nat.min_eq_right (by omega)).symm
     case cp =>
      intro hpos
      have hpos' : kk < out.length := by simp at hpos; omega
      have := HFC.out
      refine ⟨if_neg (by omega), ⟨go, kk, none⟩, rfl, fun j v hj => ?_⟩
      rw [List.getElem?_map, List.getElem?_drop] at hj
      obtain ⟨y, hy, rfl⟩ := Option.map_eq_some_iff.mp hj
      have hlt := (List.getElem?_eq_some_iff.mp hy).1
      have hc8 := (Kd.R_celln 0 HR2.out ((kk + j : Nat) : Int) (by omega) (by rw [List.length_append, List.length_singleton]; omega)).1
      rw [Int.toNat_natCast, show rdOf 0 (out ++ [0]) ((kk + j : Nat) : Int) = y from by unfold rdOf; rw [Int.toNat_natCast, List.getD_eq_getElem?_getD, List.getElem?_append_left hlt, hy]; rfl] at hc8
      rw [show (⟨go, kk, none⟩ : Addr).add j = ⟨go, kk + j, none⟩ from by first | rfl | (simp only [add_plain]; done) | simp [Addr.add]]
      first | exact hc8 | (show (w8.drewN 1).cell? _ = _; simpa using hc8)
     case cf => simp; simp at hcl; omega
     case c1 => intro v hv; obtain ⟨y, _, rfl⟩ := List.mem_map.mp hv; rfl
     case cb => exact pw_below_drewN HB2.out 1
     intro w9 hg9 hb9
     have HR9 := Aside0.mk (HCP.out (out.drop kk) (kk + 1) w9 (by simp; omega) hg9)
     have HB9 := Aside0.mk hb9
     clear hg9 hb9 HCP hcur HR2 HB2 hcl
     generalize (if c2 = kk + 1 then some (⟨go, 0, none⟩ : Addr) else some ⟨go, kk + 1, none⟩) = A37
     have hkl := HKL.out
     have HR10 := Aside0.mk (show Kd.R (Kd.int .i64) 3 w9 w.heap.size (fun _ => True) (.slice (some ⟨go, 0, none⟩) (out.length + 1) c2) ((out ++ [0]).take (kk + 1) ++ out.drop kk) from by
      have := HR9.out
      rw [List.length_drop, show List.drop (kk + 1 + (out.length - kk)) (out ++ [0]) = [] from List.drop_of_length_le (by rw [List.length_append, List.length_singleton]; omega), List.append_nil, List.length_append, List.length_singleton] at this
      exact this)
     clear HR9
     obtain ⟨hy, hz⟩ := Kd.R_celln 0 HR10.out (kk : Int) v4 (by omega)
     have HP10 := Kd.R_putg HR10.out (kk : Int) x
     rw [Int.toNat_natCast] at hy hz HP10
     have w1_ : (kk : Int) < (out.length : Int) + 1 := by omega
     clear hkl
     go_wp2_with ((with_reducible refine gate_store (t := 3) (p := 45) rfl ?_); refine store_event (t := 3) (p := 45) (v := ?vo_w78) (w1 := (w9.setCell ⟨go, kk, none⟩ (.int .i64 x))) ?hg ?ho ?hn ?hr ?_; (case ho => rfl); (case hg => rfl); (case hn => rfl); (case hr => first | (go_simp; done) | (go_simp; rfl)); intro w10 hw; have HR11 := Aside0.mk (show Kd.R (Kd.int .i64) 3 w10 w.heap.size (fun _ => True) (.slice (some ⟨go, 0, none⟩) (out.length + 1) c2) (((out ++ [0]).take (kk + 1) ++ out.drop kk).set kk x) from (by rw [hw]; exact HP10.1)); have HB11 := Aside0.mk ((by rw [hw]; exact below_set HB9.out hgo : Below w.heap.size w w10)); clear HP10 hw HR10 HB9)
     clear hy hz
     go_roundg rest.length
     case measure =>
      have := HN.out
      simp only [List.length_cons] at this
      omega
     case rel =>
      have hi := HI.out
      have hl := HL.out
      have hw1 : wrap64 (i + 1) = i + 1 := by
       have := HLN.out
       unfold wrap64
       omega
      refine ⟨_, pre ++ [x], rest, impl_sortedBy.insL out kk x, rfl, ⟨?_⟩, ⟨?_⟩, ⟨rfl⟩, ⟨?_⟩, HS, ⟨?_⟩, HB11⟩
      ·rw [hw1, List.length_append, List.length_singleton]
       omega
      ·rw [HA.out, List.append_assoc]
       rfl
      ·have := HO.out
       simp only [impl_sortedBy.insL, List.length_append, List.length_take, List.length_cons, List.length_drop, List.length_nil]
       have := HKL.out
       omega
      ·rw [← impl_sortedBy.set_copied x HKL.out]
       exact HR11.out

/-! ### impl_onTime_1: function 50 -/
def impl_onTime_1.f (a b : Int) : Option Bool := none   -- (it has a captured variable: not in the printed shape)
def impl_onTime_1.p (l0 : List S43) (a b : Int) : Option Bool := if 0 ≤ a ∧ a < l0.length ∧ 0 ≤ b ∧ b < l0.length then some (decide ((rd_T43 l0 a).f3 < (rd_T43 l0 b).f3)) else none
set_option maxRecDepth 100000 in
theorem impl_onTime_1.heg (args : Array Value) (w : World) : (callFunc 50 args).run Try.prog w = .ok (.enter 50 args) w := by
 first | (unfold callFunc; go_simp; done) | (unfold callFunc; go_simp; rfl) | rfl
set_option maxHeartbeats 1600000 in
set_option maxRecDepth 100000 in
theorem impl_onTime_1.ahead (A0 : Option Addr) (c0 : Nat) (l0 : List S43) (w W0 : World) (b1 : Nat)
  (hr0 : Kd.C k43 w A0 l0.length l0) (hW0 : Below w.heap.size w W0) (h1 : W0.cell? ⟨b1, 0, none⟩ = some (.slice A0 l0.length c0)) (hb1 : b1 < W0.heap.size) :
  impl_sortedBy.AheadAt 50 #[.pointer (some ⟨b1, 0, none⟩)] (impl_onTime_1.p l0) W0 := by
 intro W a b r hB hpr
 unfold impl_onTime_1.p at hpr
 split at hpr
 case isFalse => cases hpr
 case isTrue hin =>
 obtain ⟨p1, q1, p2, q2⟩ := hin
 have hpr2 := Option.some.inj hpr
 clear hpr
 have hr := Kd.C_below (Kd.C_below hr0 hW0) hB
 have e1 : W.cell? ⟨b1, 0, none⟩ = some (.slice A0 l0.length c0) := by rw [hB.cell hb1]; exact h1
 obtain ⟨ad, ea, hx0, hx1, hx2, hx3⟩ := at_T43 hr a p1 q1
 obtain ⟨ad', ea', hy0, hy1, hy2, hy3⟩ := at_T43 hr b p2 q2
 cases ea
 cases ea'
 replace p1 := eq_true p1
 replace q1 := eq_true q1
 replace p2 := eq_true p2
 replace q2 := eq_true q2
 clear hr hr0 hW0 h1 hb1 hB
 generalize (rd_T43 l0 a).f0 = ta at hx0 hpr2
 generalize (rd_T43 l0 a).f1 = wa at hx1 hpr2
 generalize (rd_T43 l0 a).f3 = da at hx3 hpr2
 generalize (rd_T43 l0 b).f0 = tb at hy0 hpr2
 generalize (rd_T43 l0 b).f1 = wb at hy1 hpr2
 generalize (rd_T43 l0 b).f3 = db at hy3 hpr2
 show Calls Try.prog 50 #[.int .i64 a, .int .i64 b, .pointer (some ⟨b1, 0, none⟩)] W _
 have HP := Aside0.mk hpr2
 clear hpr2
 go_enter Try.func50, Try.ntmps50
 go_wp2
 go_quiet (fail)
 go_wp2
 go_ret
 exact ⟨by rw [← HP.out]; rfl, bw (Below.refl W.heap.size W)⟩

/-! ### impl_onTime: function 26 -/
def impl_onTime.go (l0 : List S43) : List Int → Int → Option Bool
 | [], _ => some true
 | x :: r, t => if 0 ≤ x ∧ x < (l0.length : Int) then (if wrap64 (t + (rd_T43 l0 x).f0) > (rd_T43 l0 x).f3 then some false else impl_onTime.go l0 r (wrap64 (t + (rd_T43 l0 x).f0))) else none
def impl_onTime.f (l0 : List S43) (l1 : List Int) : Option Bool := if l1.length ≤ 1000000 then (impl_sortedBy.sortO (impl_onTime_1.p l0) l1 []).bind fun o => impl_onTime.go l0 o 0 else none
theorem impl_onTime.sortO_len (p : Int → Int → Option Bool) : ∀ (l out r : List Int), impl_sortedBy.sortO p l out = some r → r.length = out.length + l.length
 | [], out, r, h => by
  simp only [impl_sortedBy.sortO, Option.some.injEq] at h
  subst h
  simp
 | x :: l, out, r, h => by
  obtain ⟨k, hk, h⟩ := Option.bind_eq_some_iff.mp (show (impl_sortedBy.insK p x out out.length).bind _ = some r from h)
  have h1 := impl_onTime.sortO_len p l _ r h
  have h2 := impl_sortedBy.insK_le hk
  rw [h1]
  unfold impl_sortedBy.insL
  simp only [List.length_append, List.length_take, List.length_cons, List.length_drop]
  omega
set_option maxHeartbeats 1600000 in
set_option maxRecDepth 100000 in
theorem impl_onTime.calls (A0 : Option Addr) (c0 : Nat) (l0 : List (S43)) (A1 : Option Addr) (c1 : Nat) (l1 : List Int) (r : Bool) (w : World) (hr0 : Kd.C k43 w A0 l0.length l0) (hc0 : l0.length ≤ c0) (hr1 : Kd.C (Kd.int .i64) w A1 l1.length l1) (hc1 : l1.length ≤ c1) (h : impl_onTime.f l0 l1 = some r) :
  Calls Try.prog 26 #[.slice A0 l0.length c0, .slice A1 l1.length c1] w fun e w' => e = .returned (.bool r) ∧ Below w.heap.size w w' := by
 unfold impl_onTime.f at h
 split at h
 case isFalse => cases h
 case isTrue hn6 =>
 obtain ⟨o, ho, h⟩ := Option.bind_eq_some_iff.mp h
 have HR0 := Aside0.mk hr0
 have HC0 := Aside0.mk hc0
 have HR1 := Aside0.mk hr1
 have HC1 := Aside0.mk hc1
 have HO := Aside0.mk ho
 have HLO := Aside0.mk (impl_onTime.sortO_len _ _ _ _ ho)
 have HN6 := Aside0.mk hn6
 have H' := Aside0.mk h
 have HB := Aside0.mk (Below.refl w.heap.size w)
 clear hn6 h ho hr0 hc0 hr1 hc1
 go_enter Try.func26, Try.ntmps26
 go_wp2_with ((with_reducible refine gate_dst (N := 2) rfl ?_); refine box_event ?hg (N := 2) ?hd (cs := #[.slice A0 l0.length c0]) (t := 27) ?hr ?_; (case hd => rfl); (case hg => rfl); (case hr => first | (go_simp; done) | (go_simp; rfl)); intro gb hg w5 hbox hb; have n0_ := Aside0.mk (below_step (bw HB.out) hb); have n1_ := Aside0.mk hbox; replace HB := n0_; have BK := n1_; clear n0_ n1_ hb hbox hg; obtain ⟨hcz0, hfz0⟩ := bz1 BK.out)
 have hp := impl_onTime_1.ahead A0 c0 l0 w w5 gb HR0.out HB.out hcz0 (blk_lt BK.out)
 refine (impl_sortedBy.calls 50 _ (impl_onTime_1.p l0) A1 c1 l1 o w5 (Kd.C_below HR1.out HB.out) HC1.out HN6.out impl_onTime_1.heg hp HO.out).mono ?_
 rintro e w2 ⟨v2, rfl, hR2, hB2⟩
 have HR := Aside0.mk (Kd.R_lower hR2 (below_size HB.out))
 have n0 := Aside0.mk (below_step HB.out hB2)
 have n1 := Aside0.mk (blk_below BK.out hB2)
 replace HB := n0
 replace BK := n1
 clear hR2 hB2 hp hcz0 hfz0 n0 n1 HO
 obtain ⟨A2, c2, e2⟩ := Kd.R_slice HR.out
 subst e2
 go_wp2
 go_loopg [5, 12] o.length (fun kq v5 v12 w' => ∃ (i t : Int) (pre rest : List Int), v12 = .int .i64 i ∧ v5 = .int .i64 t ∧ Aside0 (i = (pre.length : Int)) ∧ Aside0 (o = pre ++ rest) ∧ Aside0 (rest.length = kq) ∧ Aside0 (impl_onTime.go l0 rest t = some r) ∧ Aside0 (w'.heap[gb]? = some (.cells #[.slice A0 l0.length c0] 27 (0, 0))) ∧ Aside0 (Kd.R (Kd.int .i64) 3 w' w.heap.size (fun _ => True) (.slice A2 o.length c2) o) ∧ Aside0 (Below w.heap.size w w'))
 case atStart => exact ⟨0, 0, [], o, rfl, rfl, ⟨rfl⟩, ⟨rfl⟩, ⟨rfl⟩, H', BK, HR, HB⟩
 case round =>
  clear H' HB HR BK
  obtain ⟨i, t, pre, rest, rfl, rfl, HI, HA, HN, H, BK, HR, HB⟩ := hrel
  have hlen : o.length = pre.length + rest.length := by rw [HA.out, List.length_append]
  have hi0 := HI.out
  cases rest with
  | nil =>
   simp only [List.length_nil, Nat.add_zero] at hlen
   have e3 : decide (i < (o.length : Int)) = false := decide_eq_false (by omega)
   obtain rfl : true = r := by
    have := H.out
    simpa [impl_onTime.go] using this
   clear hlen hi0
   go_wp2
   go_ret
   exact ⟨rfl, HB.out⟩
  | cons x rest =>
   simp only [List.length_cons] at hlen
   have e3 : decide (i < (o.length : Int)) = true := decide_eq_true (by omega)
   have p1 : 0 ≤ i := by omega
   have q1 : i < (o.length : Int) := by omega
   have hx : rd o i = x := by
    rw [HA.out, hi0]
    show (pre ++ x :: rest).getD (pre.length : Int).toNat 0 = x
    simp
   obtain ⟨ad1, ea, hxc⟩ := Kd.at_int (Kd.R_reads' HR.out).2.2 i p1 q1
   rw [hx] at hxc
   cases ea
   clear hx
   obtain ⟨kq, rfl⟩ : ∃ kq, gk = kq + 1 := ⟨rest.length, by have := HN.out; simpa using this.symm⟩
   have h2 := H.out
   rw [impl_onTime.go] at h2
   split at h2
   case isFalse => cases h2
   case isTrue hin =>
   obtain ⟨p2, q2⟩ := hin
   obtain ⟨ad2, ea2, hy0, hy1, hy2, hy3⟩ := at_T43 (Kd.C_below HR0.out HB.out) x p2 q2
   cases ea2
   obtain ⟨hcz0, hfz0⟩ := bz1 BK.out
   have HW := Aside0.mk (show wrap64 (i + 1) = i + 1 from by have h1 := HLO.out; have h2 := HN6.out; simp only [List.length_nil, Nat.zero_add] at h1; unfold wrap64; omega)
   have hw0 := HW.out
   have hw02 : IntKind.i64.wrap (i + 1) = i + 1 := (i64_w _).trans hw0
   replace p1 := eq_true p1
   replace q1 := eq_true q1
   replace p2 := eq_true p2
   replace q2 := eq_true q2
   have H3 := Aside0.mk h2
   clear h2 hi0 hlen
   generalize (rd_T43 l0 x).f0 = tx at hy0 H3
   generalize (rd_T43 l0 x).f3 = dx at hy3 H3
   by_cases hgt : wrap64 (t + tx) > dx
   ·have d1 : decide (dx < wrap64 (t + tx)) = true := decide_eq_true hgt
    have HE : Aside0 (false = r) := ⟨by have := H3.out; rw [if_pos hgt] at this; exact Option.some.inj this⟩
    clear hgt H3 H
    go_wp2
    go_ret
    exact ⟨by rw [← HE.out]; rfl, HB.out⟩
   have d1 : decide (dx < wrap64 (t + tx)) = false := decide_eq_false hgt
   have HE : Aside0 (impl_onTime.go l0 rest (wrap64 (t + tx)) = some r) := ⟨by have := H3.out; rw [if_neg hgt] at this; exact this⟩
   clear hgt H3 H
   go_wp2
   go_roundg kq
   case measure => omega
   case rel => exact ⟨i + 1, wrap64 (t + tx), pre ++ [x], rest, (by first | rfl | rw [HW.out]), (by first | rfl | simp), ⟨by have := HI.out; simp; omega⟩, ⟨by rw [HA.out]; simp⟩, ⟨by have := HN.out; simp at this; omega⟩, HE, BK, HR, HB⟩

/-! ### laws_eqIntS: function 10 -/
def laws_eqIntS.l0 : Nat → List Int → List Int → Int → Option (Bool)
 | 0, _, _, _ => none
 | k + 1, x0, x1, x5 => if x5 < (x0.length : Int) then (if 0 ≤ x5 then (if x5 < (x1.length : Int) then (if (rd x0 x5) = (rd x1 x5) then (laws_eqIntS.l0 k x0 x1 (wrap64 (x5 + 1))) else (some false)) else (none)) else (none)) else (some true)
def laws_eqIntS.f (k : Nat) (l0 : List Int) (l1 : List Int) : Option (Bool) := if (l0.length : Int) = (l1.length : Int) then (laws_eqIntS.l0 k l0 l1 0) else (some false)
theorem laws_eqIntS.mono_l : ∀ k, (∀ y0 y1 y2, LeO (laws_eqIntS.l0 k y0 y1 y2) (laws_eqIntS.l0 (k + 1) y0 y1 y2))
 | 0 => fun _ _ _ r h => by simp [laws_eqIntS.l0] at h
 | k + 1 => by
  have ih0 := laws_eqIntS.mono_l k
  ·intro y0 y1 y2
   unfold laws_eqIntS.l0
   repeat' first
   | (with_reducible exact ih0 _ _ _)
   | (with_reducible exact LeO.refl _)
   | (with_reducible exact LeO.none _)
   | (with_reducible refine LeO.ite ?_ ?_)
   | (with_reducible refine LeO.bind ?_ (fun _ => ?_))
   | exact ih0 _ _ _
   | exact LeO.none _
   | refine LeO.ite ?_ ?_
   | refine LeO.bind ?_ (fun _ => ?_)
theorem laws_eqIntS.mono : ∀ a0 a1 k, LeO (laws_eqIntS.f k a0 a1) (laws_eqIntS.f (k + 1) a0 a1) := by
 intro a0 a1 k
 have ih0 := laws_eqIntS.mono_l k
 unfold laws_eqIntS.f
 repeat' first
   | (with_reducible exact ih0 _ _ _)
   | (with_reducible exact LeO.refl _)
   | (with_reducible exact LeO.none _)
   | (with_reducible refine LeO.ite ?_ ?_)
   | (with_reducible refine LeO.bind ?_ (fun _ => ?_))
   | exact ih0 _ _ _
   | exact LeO.none _
   | refine LeO.ite ?_ ?_
   | refine LeO.bind ?_ (fun _ => ?_)
set_option maxHeartbeats 8000000 in
set_option maxRecDepth 100000 in
theorem laws_eqIntS.calls (k : Nat) (A0 : Option Addr) (c0 : Nat) (l0 : List Int) (A1 : Option Addr) (c1 : Nat) (l1 : List Int) (r : Bool) (w : World) (hr0 : Kd.C (Kd.int .i64) w A0 l0.length l0) (hc0 : l0.length ≤ c0) (hr1 : Kd.C (Kd.int .i64) w A1 l1.length l1) (hc1 : l1.length ≤ c1) (h : laws_eqIntS.f k l0 l1 = some r) :
  Calls Try.prog 10 #[.slice A0 l0.length c0, .slice A1 l1.length c1] w fun e w' => e = .returned (.bool r) ∧ Drawn0 w w' := by
 have HR0 := Aside0.mk hr0
 have HC0 := Aside0.mk hc0
 clear hr0 hc0
 have HR1 := Aside0.mk hr1
 have HC1 := Aside0.mk hc1
 clear hr1 hc1
 have H : (if (l0.length : Int) = (l1.length : Int) then (laws_eqIntS.l0 k l0 l1 0) else (some false)) = some r := h
 clear h
 by_cases c3 : (l0.length : Int) = (l1.length : Int)
 rotate_left
 ·rw [if_neg c3] at H
  have c3b0 : ((l0.length : Int) == (l1.length : Int)) = false := beq_eq_false_iff_ne.mpr c3
  have c3b1 : ((l0.length : Int) != (l1.length : Int)) = true := bne_iff_ne.mpr c3
  have c3b2 : (l0.length == l1.length) = false := by first | simpa using c3 | (simp at c3 ⊢; omega)
  obtain rfl := Option.some.inj H
  go_enter Try.func10, Try.ntmps10
  go_wp2
  repeat (go_quiet (fail); try go_wp2)
  go_ret
  exact ⟨by first | rfl | (simp; done) | (simp [*]; done), by repeat (first | exact Drawn0.refl _ | apply Drawn0.step)⟩
 rw [if_pos c3] at H
 have c3b0 : ((l0.length : Int) == (l1.length : Int)) = true := beq_iff_eq.mpr c3
 have c3b1 : ((l0.length : Int) != (l1.length : Int)) = false := bne_eq_false_iff_eq.mpr c3
 have c3b2 : (l0.length == l1.length) = true := by first | simpa using c3 | (simp at c3 ⊢; omega)
 clear c3
 have H' := Aside0.mk H
 clear H
 go_enter Try.func10, Try.ntmps10
 go_wp2
 repeat (go_quiet (fail); try go_wp2)
 go_loopg [5] k (fun kq v5 w' => ∃ (x5_1 : Int), v5 = .int .i64 x5_1 ∧ Aside0 (laws_eqIntS.l0 kq l0 l1 x5_1 = some r) ∧ Aside0 (kq ≤ k) ∧ Drawn0 w w')
 case atStart => exact ⟨(0), (by first | rfl | (simp; done) | (simp [*]; done)), H', ⟨Nat.le_refl _⟩, by repeat (first | exact Drawn0.refl _ | apply Drawn0.step)⟩
 case round =>
  clear H'
  try clear c1
  try clear p2
  try clear c3
  try clear c3b0
  try clear c3b1
  try clear c3b2
  obtain ⟨x5_1, rfl, HA, HK1, ⟨m1, rfl⟩⟩ := hrel
  cases gk with
  | zero => exact absurd HA.out (by simp [laws_eqIntS.l0])
  | succ k1 =>
   have H := HA.out
   clear HA
   simp only [laws_eqIntS.l0] at H
   by_cases c4 : x5_1 < (l0.length : Int)
   rotate_left
   ·rw [if_neg c4] at H
    have c4b0 : decide (x5_1 < (l0.length : Int)) = false := decide_eq_false c4
    clear c4
    obtain rfl := Option.some.inj H
    go_wp2
    repeat (go_quiet (fail); try go_wp2)
    go_ret
    exact ⟨by first | rfl | (simp; done) | (simp [*]; done), by repeat (first | exact Drawn0.refl _ | apply Drawn0.step)⟩
   rw [if_pos c4] at H
   have c4b0 : decide (x5_1 < (l0.length : Int)) = true := decide_eq_true c4
   clear c4
   by_cases c5 : 0 ≤ x5_1
   rotate_left
   ·rw [if_neg c5] at H
    exact absurd H (by simp)
   rw [if_pos c5] at H
   have c5b0 : decide (0 ≤ x5_1) = true := decide_eq_true c5
   clear c5
   by_cases c6 : x5_1 < (l1.length : Int)
   rotate_left
   ·rw [if_neg c6] at H
    exact absurd H (by simp)
   rw [if_pos c6] at H
   have c6b0 : decide (x5_1 < (l1.length : Int)) = true := decide_eq_true c6
   clear c6
   by_cases c7 : (rd l0 x5_1) = (rd l1 x5_1)
   rotate_left
   ·rw [if_neg c7] at H
    have c7b0 : ((rd l0 x5_1) == (rd l1 x5_1)) = false := beq_eq_false_iff_ne.mpr c7
    have c7b1 : ((rd l0 x5_1) != (rd l1 x5_1)) = true := bne_iff_ne.mpr c7
    obtain rfl := Option.some.inj H
    have p222 : 0 ≤ (x5_1 : Int) := of_decide_eq_true (by first | (with_reducible assumption) | assumption)
    have q222 : x5_1 < (l0.length : Int) := of_decide_eq_true (by first | (with_reducible assumption) | assumption)
    obtain ⟨ad222, e222, hx222_0⟩ := Kd.at_int HR0.out x5_1 p222 q222
    cases e222
    replace p222 := eq_true p222
    replace q222 := eq_true q222
    have p223 : 0 ≤ (x5_1 : Int) := of_decide_eq_true (by first | (with_reducible assumption) | assumption)
    have q223 : x5_1 < (l1.length : Int) := of_decide_eq_true (by first | (with_reducible assumption) | assumption)
    obtain ⟨ad223, e223, hx223_0⟩ := Kd.at_int HR1.out x5_1 p223 q223
    cases e223
    replace p223 := eq_true p223
    replace q223 := eq_true q223
    go_wp2
    repeat (go_quiet (fail); try go_wp2)
    go_ret
    exact ⟨by first | rfl | (simp; done) | (simp [*]; done), by repeat (first | exact Drawn0.refl _ | apply Drawn0.step)⟩
   rw [if_pos c7] at H
   have c7b0 : ((rd l0 x5_1) == (rd l1 x5_1)) = true := beq_iff_eq.mpr c7
   have c7b1 : ((rd l0 x5_1) != (rd l1 x5_1)) = false := bne_eq_false_iff_eq.mpr c7
   clear c7
   have H' := Aside0.mk H
   clear H
   have p222 : 0 ≤ (x5_1 : Int) := of_decide_eq_true (by first | (with_reducible assumption) | assumption)
   have q222 : x5_1 < (l0.length : Int) := of_decide_eq_true (by first | (with_reducible assumption) | assumption)
   obtain ⟨ad222, e222, hx222_0⟩ := Kd.at_int HR0.out x5_1 p222 q222
   cases e222
   replace p222 := eq_true p222
   replace q222 := eq_true q222
   have p223 : 0 ≤ (x5_1 : Int) := of_decide_eq_true (by first | (with_reducible assumption) | assumption)
   have q223 : x5_1 < (l1.length : Int) := of_decide_eq_true (by first | (with_reducible assumption) | assumption)
   obtain ⟨ad223, e223, hx223_0⟩ := Kd.at_int HR1.out x5_1 p223 q223
   cases e223
   replace p223 := eq_true p223
   replace q223 := eq_true q223
   go_wp2
   repeat (go_quiet (fail); try go_wp2)
   go_roundg k1
   case measure => have := HK1.out; omega
   case rel => exact ⟨(wrap64 (x5_1 + 1)), (by first | rfl | (simp; done) | (simp [*]; done)), H', ⟨by have := HK1.out; omega⟩, by repeat (first | exact Drawn0.refl _ | apply Drawn0.step)⟩

/-! ### laws_eqJob: function 29 -/
def laws_eqJob.f (a0_0 : Int) (a0_1 : Int) (a0_2 : Int) (a0_3 : Int) (a1_0 : Int) (a1_1 : Int) (a1_2 : Int) (a1_3 : Int) : Option (Bool) := if a0_0 = a1_0 then (if a0_1 = a1_1 then (if a0_2 = a1_2 then (if a0_3 = a1_3 then (some true) else (some false)) else (some false)) else (some false)) else (some false)
set_option maxHeartbeats 8000000 in
set_option maxRecDepth 100000 in
theorem laws_eqJob.calls (a0_0 : Int) (a0_1 : Int) (a0_2 : Int) (a0_3 : Int) (a1_0 : Int) (a1_1 : Int) (a1_2 : Int) (a1_3 : Int) (r : Bool) (w : World) (h : laws_eqJob.f a0_0 a0_1 a0_2 a0_3 a1_0 a1_1 a1_2 a1_3 = some r) :
  Calls Try.prog 29 #[.agg #[.int .i64 a0_0, .int .i64 a0_1, .int .i64 a0_2, .int .i64 a0_3], .agg #[.int .i64 a1_0, .int .i64 a1_1, .int .i64 a1_2, .int .i64 a1_3]] w fun e w' => e = .returned (.bool r) ∧ Below w.heap.size w w' := by
 have hu43 := Try.underlying43
 have HB := Aside0.mk (Below.refl w.heap.size w)
 have H : (if a0_0 = a1_0 then (if a0_1 = a1_1 then (if a0_2 = a1_2 then (if a0_3 = a1_3 then (some true) else (some false)) else (some false)) else (some false)) else (some false)) = some r := h
 clear h
 by_cases c3 : a0_0 = a1_0
 rotate_left
 ·rw [if_neg c3] at H
  have c3b0 : (a0_0 == a1_0) = false := beq_eq_false_iff_ne.mpr c3
  have c3b1 : (a0_0 != a1_0) = true := bne_iff_ne.mpr c3
  obtain rfl := Option.some.inj H
  go_enter Try.func29, Try.ntmps29
  go_wp2_with (first | ((with_reducible refine gate_dst (N := 2) rfl ?_); refine box_event ?hg (N := 2) ?hd (cs := #[.int .i64 a0_0, .int .i64 a0_1, .int .i64 a0_2, .int .i64 a0_3]) (t := 43) ?hr ?_; (case hd => rfl); (case hg => rfl); (case hr => first | (go_simp; done) | (go_simp; rfl)); intro gb224 hg w27 hbox hb; have n0_ := Aside0.mk (below_step (bw HB.out) hb); have n1_ := Aside0.mk (hbox); have n2_ := ge_ hg HB.out; have n3_ := ge_ hg HB.out; replace HB := n0_; have BK224 := n1_; have GW224 := n2_; have GE224 := n3_; clear n0_ n1_ n2_ n3_; clear hb hbox hg) | ((with_reducible refine gate_dst (N := 3) rfl ?_); refine box_event ?hg (N := 3) ?hd (cs := #[.int .i64 a1_0, .int .i64 a1_1, .int .i64 a1_2, .int .i64 a1_3]) (t := 43) ?hr ?_; (case hd => rfl); (case hg => rfl); (case hr => first | (go_simp; done) | (go_simp; rfl)); intro gb225 hg w28 hbox hb; have n0_ := Aside0.mk (blk_below (bs BK224.out) hb); have n1_ := Aside0.mk (below_step (by repeat (first | (with_reducible first | exact bw HB.out | refine bset ?_ | apply bA | apply bN | apply bD) | exact HB.out)) hb); have n2_ := Aside0.mk (hbox); have n3_ := Aside0.mk ((by rw [hg]; exact (below_size (by repeat (first | (with_reducible first | exact bw HB.out | refine bset ?_ | apply bA | apply bN | apply bD) | exact HB.out))) : w.heap.size ≤ gb225)); have n4_ := Aside0.mk ((by rw [hg]; exact (below_size (by repeat (first | (with_reducible first | exact bw HB.out | refine bset ?_ | apply bA | apply bN | apply bD) | exact HB.out))) : w.heap.size ≤ gb225)); have n5_ := ne_ hg BK224.out; have n6_ := en_ hg BK224.out; replace BK224 := n0_; replace HB := n1_; have BK225 := n2_; have GW225 := n3_; have GE225 := n4_; have NB224_225 := n5_; have NB225_224 := n6_; clear n0_ n1_ n2_ n3_ n4_ n5_ n6_; clear hb hbox hg; have hnb29 := NB224_225.out; have hnc29 := NB225_224.out; obtain ⟨hcz30_0, hcz30_1, hcz30_2, hcz30_3, hfz30_0, hfz30_1, hfz30_2, hfz30_3⟩ := bz4 BK224.out; obtain ⟨hcz31_0, hcz31_1, hcz31_2, hcz31_3, hfz31_0, hfz31_1, hfz31_2, hfz31_3⟩ := bz4 BK225.out))
  go_ret
  exact ⟨by first | rfl | (simp [errW_none, errW_some] <;> rfl) | (simp [*, errW_none, errW_some] <;> rfl), by repeat (first | (with_reducible first | exact bw HB.out | refine bset ?_ | apply bA | apply bN | apply bD) | exact HB.out)⟩
 rw [if_pos c3] at H
 have c3b0 : (a0_0 == a1_0) = true := beq_iff_eq.mpr c3
 have c3b1 : (a0_0 != a1_0) = false := bne_eq_false_iff_eq.mpr c3
 clear c3
 by_cases c4 : a0_1 = a1_1
 rotate_left
 ·rw [if_neg c4] at H
  have c4b0 : (a0_1 == a1_1) = false := beq_eq_false_iff_ne.mpr c4
  have c4b1 : (a0_1 != a1_1) = true := bne_iff_ne.mpr c4
  obtain rfl := Option.some.inj H
  go_enter Try.func29, Try.ntmps29
  go_wp2_with (first | ((with_reducible refine gate_dst (N := 2) rfl ?_); refine box_event ?hg (N := 2) ?hd (cs := #[.int .i64 a0_0, .int .i64 a0_1, .int .i64 a0_2, .int .i64 a0_3]) (t := 43) ?hr ?_; (case hd => rfl); (case hg => rfl); (case hr => first | (go_simp; done) | (go_simp; rfl)); intro gb224 hg w22 hbox hb; have n0_ := Aside0.mk (below_step (bw HB.out) hb); have n1_ := Aside0.mk (hbox); have n2_ := ge_ hg HB.out; have n3_ := ge_ hg HB.out; replace HB := n0_; have BK224 := n1_; have GW224 := n2_; have GE224 := n3_; clear n0_ n1_ n2_ n3_; clear hb hbox hg) | ((with_reducible refine gate_dst (N := 3) rfl ?_); refine box_event ?hg (N := 3) ?hd (cs := #[.int .i64 a1_0, .int .i64 a1_1, .int .i64 a1_2, .int .i64 a1_3]) (t := 43) ?hr ?_; (case hd => rfl); (case hg => rfl); (case hr => first | (go_simp; done) | (go_simp; rfl)); intro gb225 hg w23 hbox hb; have n0_ := Aside0.mk (blk_below (bs BK224.out) hb); have n1_ := Aside0.mk (below_step (by repeat (first | (with_reducible first | exact bw HB.out | refine bset ?_ | apply bA | apply bN | apply bD) | exact HB.out)) hb); have n2_ := Aside0.mk (hbox); have n3_ := Aside0.mk ((by rw [hg]; exact (below_size (by repeat (first | (with_reducible first | exact bw HB.out | refine bset ?_ | apply bA | apply bN | apply bD) | exact HB.out))) : w.heap.size ≤ gb225)); have n4_ := Aside0.mk ((by rw [hg]; exact (below_size (by repeat (first | (with_reducible first | exact bw HB.out | refine bset ?_ | apply bA | apply bN | apply bD) | exact HB.out))) : w.heap.size ≤ gb225)); have n5_ := ne_ hg BK224.out; have n6_ := en_ hg BK224.out; replace BK224 := n0_; replace HB := n1_; have BK225 := n2_; have GW225 := n3_; have GE225 := n4_; have NB224_225 := n5_; have NB225_224 := n6_; clear n0_ n1_ n2_ n3_ n4_ n5_ n6_; clear hb hbox hg; have hnb24 := NB224_225.out; have hnc24 := NB225_224.out; obtain ⟨hcz25_0, hcz25_1, hcz25_2, hcz25_3, hfz25_0, hfz25_1, hfz25_2, hfz25_3⟩ := bz4 BK224.out; obtain ⟨hcz26_0, hcz26_1, hcz26_2, hcz26_3, hfz26_0, hfz26_1, hfz26_2, hfz26_3⟩ := bz4 BK225.out))
  go_ret
  exact ⟨by first | rfl | (simp [errW_none, errW_some] <;> rfl) | (simp [*, errW_none, errW_some] <;> rfl), by repeat (first | (with_reducible first | exact bw HB.out | refine bset ?_ | apply bA | apply bN | apply bD) | exact HB.out)⟩
 rw [if_pos c4] at H
 have c4b0 : (a0_1 == a1_1) = true := beq_iff_eq.mpr c4
 have c4b1 : (a0_1 != a1_1) = false := bne_eq_false_iff_eq.mpr c4
 clear c4
 by_cases c5 : a0_2 = a1_2
 rotate_left
 ·rw [if_neg c5] at H
  have c5b0 : (a0_2 == a1_2) = false := beq_eq_false_iff_ne.mpr c5
  have c5b1 : (a0_2 != a1_2) = true := bne_iff_ne.mpr c5
  obtain rfl := Option.some.inj H
  go_enter Try.func29, Try.ntmps29
  go_wp2_with (first | ((with_reducible refine gate_dst (N := 2) rfl ?_); refine box_event ?hg (N := 2) ?hd (cs := #[.int .i64 a0_0, .int .i64 a0_1, .int .i64 a0_2, .int .i64 a0_3]) (t := 43) ?hr ?_; (case hd => rfl); (case hg => rfl); (case hr => first | (go_simp; done) | (go_simp; rfl)); intro gb224 hg w17 hbox hb; have n0_ := Aside0.mk (below_step (bw HB.out) hb); have n1_ := Aside0.mk (hbox); have n2_ := ge_ hg HB.out; have n3_ := ge_ hg HB.out; replace HB := n0_; have BK224 := n1_; have GW224 := n2_; have GE224 := n3_; clear n0_ n1_ n2_ n3_; clear hb hbox hg) | ((with_reducible refine gate_dst (N := 3) rfl ?_); refine box_event ?hg (N := 3) ?hd (cs := #[.int .i64 a1_0, .int .i64 a1_1, .int .i64 a1_2, .int .i64 a1_3]) (t := 43) ?hr ?_; (case hd => rfl); (case hg => rfl); (case hr => first | (go_simp; done) | (go_simp; rfl)); intro gb225 hg w18 hbox hb; have n0_ := Aside0.mk (blk_below (bs BK224.out) hb); have n1_ := Aside0.mk (below_step (by repeat (first | (with_reducible first | exact bw HB.out | refine bset ?_ | apply bA | apply bN | apply bD) | exact HB.out)) hb); have n2_ := Aside0.mk (hbox); have n3_ := Aside0.mk ((by rw [hg]; exact (below_size (by repeat (first | (with_reducible first | exact bw HB.out | refine bset ?_ | apply bA | apply bN | apply bD) | exact HB.out))) : w.heap.size ≤ gb225)); have n4_ := Aside0.mk ((by rw [hg]; exact (below_size (by repeat (first | (with_reducible first | exact bw HB.out | refine bset ?_ | apply bA | apply bN | apply bD) | exact HB.out))) : w.heap.size ≤ gb225)); have n5_ := ne_ hg BK224.out; have n6_ := en_ hg BK224.out; replace BK224 := n0_; replace HB := n1_; have BK225 := n2_; have GW225 := n3_; have GE225 := n4_; have NB224_225 := n5_; have NB225_224 := n6_; clear n0_ n1_ n2_ n3_ n4_ n5_ n6_; clear hb hbox hg; have hnb19 := NB224_225.out; have hnc19 := NB225_224.out; obtain ⟨hcz20_0, hcz20_1, hcz20_2, hcz20_3, hfz20_0, hfz20_1, hfz20_2, hfz20_3⟩ := bz4 BK224.out; obtain ⟨hcz21_0, hcz21_1, hcz21_2, hcz21_3, hfz21_0, hfz21_1, hfz21_2, hfz21_3⟩ := bz4 BK225.out))
  go_ret
  exact ⟨by first | rfl | (simp [errW_none, errW_some] <;> rfl) | (simp [*, errW_none, errW_some] <;> rfl), by repeat (first | (with_reducible first | exact bw HB.out | refine bset ?_ | apply bA | apply bN | apply bD) | exact HB.out)⟩
 rw [if_pos c5] at H
 have c5b0 : (a0_2 == a1_2) = true := beq_iff_eq.mpr c5
 have c5b1 : (a0_2 != a1_2) = false := bne_eq_false_iff_eq.mpr c5
 clear c5
 by_cases c6 : a0_3 = a1_3
 rotate_left
 ·rw [if_neg c6] at H
  have c6b0 : (a0_3 == a1_3) = false := beq_eq_false_iff_ne.mpr c6
  have c6b1 : (a0_3 != a1_3) = true := bne_iff_ne.mpr c6
  obtain rfl := Option.some.inj H
  go_enter Try.func29, Try.ntmps29
  go_wp2_with (first | ((with_reducible refine gate_dst (N := 2) rfl ?_); refine box_event ?hg (N := 2) ?hd (cs := #[.int .i64 a0_0, .int .i64 a0_1, .int .i64 a0_2, .int .i64 a0_3]) (t := 43) ?hr ?_; (case hd => rfl); (case hg => rfl); (case hr => first | (go_simp; done) | (go_simp; rfl)); intro gb224 hg w12 hbox hb; have n0_ := Aside0.mk (below_step (bw HB.out) hb); have n1_ := Aside0.mk (hbox); have n2_ := ge_ hg HB.out; have n3_ := ge_ hg HB.out; replace HB := n0_; have BK224 := n1_; have GW224 := n2_; have GE224 := n3_; clear n0_ n1_ n2_ n3_; clear hb hbox hg) | ((with_reducible refine gate_dst (N := 3) rfl ?_); refine box_event ?hg (N := 3) ?hd (cs := #[.int .i64 a1_0, .int .i64 a1_1, .int .i64 a1_2, .int .i64 a1_3]) (t := 43) ?hr ?_; (case hd => rfl); (case hg => rfl); (case hr => first | (go_simp; done) | (go_simp; rfl)); intro gb225 hg w13 hbox hb; have n0_ := Aside0.mk (blk_below (bs BK224.out) hb); have n1_ := Aside0.mk (below_step (by repeat (first | (with_reducible first | exact bw HB.out | refine bset ?_ | apply bA | apply bN | apply bD) | exact HB.out)) hb); have n2_ := Aside0.mk (hbox); have n3_ := Aside0.mk ((by rw [hg]; exact (below_size (by repeat (first | (with_reducible first | exact bw HB.out | refine bset ?_ | apply bA | apply bN | apply bD) | exact HB.out))) : w.heap.size ≤ gb225)); have n4_ := Aside0.mk ((by rw [hg]; exact (below_size (by repeat (first | (with_reducible first | exact bw HB.out | refine bset ?_ | apply bA | apply bN | apply bD) | exact HB.out))) : w.heap.size ≤ gb225)); have n5_ := ne_ hg BK224.out; have n6_ := en_ hg BK224.out; replace BK224 := n0_; replace HB := n1_; have BK225 := n2_; have GW225 := n3_; have GE225 := n4_; have NB224_225 := n5_; have NB225_224 := n6_; clear n0_ n1_ n2_ n3_ n4_ n5_ n6_; clear hb hbox hg; have hnb14 := NB224_225.out; have hnc14 := NB225_224.out; obtain ⟨hcz15_0, hcz15_1, hcz15_2, hcz15_3, hfz15_0, hfz15_1, hfz15_2, hfz15_3⟩ := bz4 BK224.out; obtain ⟨hcz16_0, hcz16_1, hcz16_2, hcz16_3, hfz16_0, hfz16_1, hfz16_2, hfz16_3⟩ := bz4 BK225.out))
  go_ret
  exact ⟨by first | rfl | (simp [errW_none, errW_some] <;> rfl) | (simp [*, errW_none, errW_some] <;> rfl), by repeat (first | (with_reducible first | exact bw HB.out | refine bset ?_ | apply bA | apply bN | apply bD) | exact HB.out)⟩
 rw [if_pos c6] at H
 have c6b0 : (a0_3 == a1_3) = true := beq_iff_eq.mpr c6
 have c6b1 : (a0_3 != a1_3) = false := bne_eq_false_iff_eq.mpr c6
 clear c6
 obtain rfl := Option.some.inj H
 go_enter Try.func29, Try.ntmps29
 go_wp2_with (first | ((with_reducible refine gate_dst (N := 2) rfl ?_); refine box_event ?hg (N := 2) ?hd (cs := #[.int .i64 a0_0, .int .i64 a0_1, .int .i64 a0_2, .int .i64 a0_3]) (t := 43) ?hr ?_; (case hd => rfl); (case hg => rfl); (case hr => first | (go_simp; done) | (go_simp; rfl)); intro gb224 hg w7 hbox hb; have n0_ := Aside0.mk (below_step (bw HB.out) hb); have n1_ := Aside0.mk (hbox); have n2_ := ge_ hg HB.out; have n3_ := ge_ hg HB.out; replace HB := n0_; have BK224 := n1_; have GW224 := n2_; have GE224 := n3_; clear n0_ n1_ n2_ n3_; clear hb hbox hg) | ((with_reducible refine gate_dst (N := 3) rfl ?_); refine box_event ?hg (N := 3) ?hd (cs := #[.int .i64 a1_0, .int .i64 a1_1, .int .i64 a1_2, .int .i64 a1_3]) (t := 43) ?hr ?_; (case hd => rfl); (case hg => rfl); (case hr => first | (go_simp; done) | (go_simp; rfl)); intro gb225 hg w8 hbox hb; have n0_ := Aside0.mk (blk_below (bs BK224.out) hb); have n1_ := Aside0.mk (below_step (by repeat (first | (with_reducible first | exact bw HB.out | refine bset ?_ | apply bA | apply bN | apply bD) | exact HB.out)) hb); have n2_ := Aside0.mk (hbox); have n3_ := Aside0.mk ((by rw [hg]; exact (below_size (by repeat (first | (with_reducible first | exact bw HB.out | refine bset ?_ | apply bA | apply bN | apply bD) | exact HB.out))) : w.heap.size ≤ gb225)); have n4_ := Aside0.mk ((by rw [hg]; exact (below_size (by repeat (first | (with_reducible first | exact bw HB.out | refine bset ?_ | apply bA | apply bN | apply bD) | exact HB.out))) : w.heap.size ≤ gb225)); have n5_ := ne_ hg BK224.out; have n6_ := en_ hg BK224.out; replace BK224 := n0_; replace HB := n1_; have BK225 := n2_; have GW225 := n3_; have GE225 := n4_; have NB224_225 := n5_; have NB225_224 := n6_; clear n0_ n1_ n2_ n3_ n4_ n5_ n6_; clear hb hbox hg; have hnb9 := NB224_225.out; have hnc9 := NB225_224.out; obtain ⟨hcz10_0, hcz10_1, hcz10_2, hcz10_3, hfz10_0, hfz10_1, hfz10_2, hfz10_3⟩ := bz4 BK224.out; obtain ⟨hcz11_0, hcz11_1, hcz11_2, hcz11_3, hfz11_0, hfz11_1, hfz11_2, hfz11_3⟩ := bz4 BK225.out))
 go_ret
 exact ⟨by first | rfl | (simp [errW_none, errW_some] <;> rfl) | (simp [*, errW_none, errW_some] <;> rfl), by repeat (first | (with_reducible first | exact bw HB.out | refine bset ?_ | apply bA | apply bN | apply bD) | exact HB.out)⟩

/-! ### laws_eqJobS: function 11 -/
abbrev q11_0 : Array Bool := ⟨rl_ [10] false⟩
abbrev q11_7 : Array Bool := ⟨rl_ [7, 3] true⟩
abbrev q11_8 : Array Bool := ⟨rl_ [8, 2] true⟩
abbrev q11_9 : Array Bool := ⟨rl_ [9, 1] true⟩
def laws_eqJobS.l0 : Nat → List (S43) → List (S43) → Int → Option (Bool)
 | 0, _, _, _ => none
 | k + 1, x0, x1, x5 => if x5 < (x0.length : Int) then (if 0 ≤ x5 then (if x5 < (x1.length : Int) then ((laws_eqJob.f ((rd_T43 x0 x5).f0) ((rd_T43 x0 x5).f1) ((rd_T43 x0 x5).f2) ((rd_T43 x0 x5).f3) ((rd_T43 x1 x5).f0) ((rd_T43 x1 x5).f1) ((rd_T43 x1 x5).f2) ((rd_T43 x1 x5).f3)).bind fun t228 => (if t228 = true then (laws_eqJobS.l0 k x0 x1 (wrap64 (x5 + 1))) else (some false))) else (none)) else (none)) else (some true)
def laws_eqJobS.f (k : Nat) (l0 : List (S43)) (l1 : List (S43)) : Option (Bool) := if (l0.length : Int) = (l1.length : Int) then (laws_eqJobS.l0 k l0 l1 0) else (some false)
theorem laws_eqJobS.mono_l : ∀ k, (∀ y0 y1 y2, LeO (laws_eqJobS.l0 k y0 y1 y2) (laws_eqJobS.l0 (k + 1) y0 y1 y2))
 | 0 => fun _ _ _ r h => by simp [laws_eqJobS.l0] at h
 | k + 1 => by
  have ih0 := laws_eqJobS.mono_l k
  ·intro y0 y1 y2
   unfold laws_eqJobS.l0
   repeat' first
   | (with_reducible exact ih0 _ _ _)
   | (with_reducible exact LeO.refl _)
   | (with_reducible exact LeO.none _)
   | (with_reducible refine LeO.ite ?_ ?_)
   | (with_reducible refine LeO.bind ?_ (fun _ => ?_))
   | exact ih0 _ _ _
   | exact LeO.none _
   | refine LeO.ite ?_ ?_
   | refine LeO.bind ?_ (fun _ => ?_)
theorem laws_eqJobS.mono : ∀ a0 a1 k, LeO (laws_eqJobS.f k a0 a1) (laws_eqJobS.f (k + 1) a0 a1) := by
 intro a0 a1 k
 have ih0 := laws_eqJobS.mono_l k
 unfold laws_eqJobS.f
 repeat' first
   | (with_reducible exact ih0 _ _ _)
   | (with_reducible exact LeO.refl _)
   | (with_reducible exact LeO.none _)
   | (with_reducible refine LeO.ite ?_ ?_)
   | (with_reducible refine LeO.bind ?_ (fun _ => ?_))
   | exact ih0 _ _ _
   | exact LeO.none _
   | refine LeO.ite ?_ ?_
   | refine LeO.bind ?_ (fun _ => ?_)
def laws_eqJobS.T6 : Bool × List (List Nat × List Nat) := (true, [([], []), ([], []), ([0, 1], [0, 1]), ([2], [2]), ([], []), ([], []), ([4, 5], [4, 5]), ([6], [6]), ([3, 7], [3, 7]), ([8], [8])])
def laws_eqJobS.B6 : List Nat := [0, 0, 3, 7, 0, 0, 48, 112, 255, 511]
theorem laws_eqJobS.tab6 : rtab .any (opsOf Try.f11 6) = laws_eqJobS.T6 := by kernel_rfl
theorem laws_eqJobS.bits6 : waitsOk laws_eqJobS.T6.2 laws_eqJobS.B6 = true := by kernel_rfl
set_option maxHeartbeats 8000000 in
set_option maxRecDepth 100000 in
theorem laws_eqJobS.calls (k : Nat) (A0 : Option Addr) (c0 : Nat) (l0 : List (S43)) (A1 : Option Addr) (c1 : Nat) (l1 : List (S43)) (r : Bool) (w : World) (hr0 : Kd.C k43 w A0 l0.length l0) (hc0 : l0.length ≤ c0) (hr1 : Kd.C k43 w A1 l1.length l1) (hc1 : l1.length ≤ c1) (h : laws_eqJobS.f k l0 l1 = some r) :
  Calls Try.prog 11 #[.slice A0 l0.length c0, .slice A1 l1.length c1] w fun e w' => e = .returned (.bool r) ∧ Below w.heap.size w w' := by
 have hu43 := Try.underlying43
 have HR0 := Aside0.mk hr0
 have HC0 := Aside0.mk hc0
 clear hr0 hc0
 have HR1 := Aside0.mk hr1
 have HC1 := Aside0.mk hc1
 clear hr1 hc1
 have HB := Aside0.mk (Below.refl w.heap.size w)
 have H : (if (l0.length : Int) = (l1.length : Int) then (laws_eqJobS.l0 k l0 l1 0) else (some false)) = some r := h
 clear h
 by_cases c3 : (l0.length : Int) = (l1.length : Int)
 rotate_left
 ·rw [if_neg c3] at H
  have c3b0 : ((l0.length : Int) == (l1.length : Int)) = false := beq_eq_false_iff_ne.mpr c3
  have c3b1 : ((l0.length : Int) != (l1.length : Int)) = true := bne_iff_ne.mpr c3
  have c3b2 : (l0.length == l1.length) = false := by first | simpa using c3 | (simp at c3 ⊢; omega)
  obtain rfl := Option.some.inj H
  go_enter Try.func11, Try.ntmps11
  go_wp2
  go_ret
  exact ⟨by first | rfl | (simp [errW_none, errW_some] <;> rfl) | (simp [*, errW_none, errW_some] <;> rfl), bw HB.out⟩
 rw [if_pos c3] at H
 have c3b0 : ((l0.length : Int) == (l1.length : Int)) = true := beq_iff_eq.mpr c3
 have c3b1 : ((l0.length : Int) != (l1.length : Int)) = false := bne_eq_false_iff_eq.mpr c3
 have c3b2 : (l0.length == l1.length) = true := by first | simpa using c3 | (simp at c3 ⊢; omega)
 clear c3
 have H' := Aside0.mk H
 clear H
 go_enter Try.func11, Try.ntmps11
 go_wp2
 go_loopg [5] k (fun kq v5 w' => ∃ (x5_1 : Int), v5 = .int .i64 x5_1 ∧ Aside0 (laws_eqJobS.l0 kq l0 l1 x5_1 = some r) ∧ Aside0 (kq ≤ k) ∧ Aside0 (Below w.heap.size w w'))
 case atStart => exact ⟨(0), (by first | rfl | (simp; done) | (simp [*]; done)), H', ⟨Nat.le_refl _⟩, ⟨bw HB.out⟩⟩
 case round =>
  clear H'
  try clear c1
  try clear p2
  try clear c3
  try clear c3b0
  try clear c3b1
  try clear c3b2
  obtain ⟨x5_1, rfl, HA, HK1, HB⟩ := hrel
  cases gk with
  | zero => exact absurd HA.out (by simp [laws_eqJobS.l0])
  | succ k1 =>
   have H := HA.out
   clear HA
   simp only [laws_eqJobS.l0] at H
   by_cases c4 : x5_1 < (l0.length : Int)
   rotate_left
   ·rw [if_neg c4] at H
    have c4b0 : decide (x5_1 < (l0.length : Int)) = false := decide_eq_false c4
    clear c4
    obtain rfl := Option.some.inj H
    go_wp2
    go_ret
    exact ⟨by first | rfl | (simp [errW_none, errW_some] <;> rfl) | (simp [*, errW_none, errW_some] <;> rfl), bw HB.out⟩
   rw [if_pos c4] at H
   have c4b0 : decide (x5_1 < (l0.length : Int)) = true := decide_eq_true c4
   clear c4
   by_cases c5 : 0 ≤ x5_1
   rotate_left
   ·rw [if_neg c5] at H
    exact absurd H (by simp)
   rw [if_pos c5] at H
   have c5b0 : decide (0 ≤ x5_1) = true := decide_eq_true c5
   clear c5
   by_cases c6 : x5_1 < (l1.length : Int)
   rotate_left
   ·rw [if_neg c6] at H
    exact absurd H (by simp)
   rw [if_pos c6] at H
   have c6b0 : decide (x5_1 < (l1.length : Int)) = true := decide_eq_true c6
   clear c6
   replace H := Option.bind_eq_some_iff.mp H
   obtain ⟨t228, A70, H⟩ := H
   replace H : (if t228 = true then (laws_eqJobS.l0 k1 l0 l1 (wrap64 (x5_1 + 1))) else (some false)) = some r := H
   have A7 := Aside0.mk A70
   clear A70
   by_cases c8 : t228 = true
   rotate_left
   ·replace c8 := Bool.eq_false_iff.mpr c8
    subst c8
    have H1 : (some false) = some r := by rw [if_neg (show ¬ (false = true) by decide)] at H; exact H
    clear H
    have H := H1
    clear H1
    obtain rfl := Option.some.inj H
    try go_wp2
    have n0_ := Aside0.mk (below_drew1 HB.out)
    replace HB := n0_
    clear n0_
    have p226 : 0 ≤ (x5_1 : Int) := of_decide_eq_true (by first | (with_reducible assumption) | assumption)
    have q226 : x5_1 < (l0.length : Int) := of_decide_eq_true (by first | (with_reducible assumption) | assumption)
    obtain ⟨ad226, e226, hx226_0, hx226_1, hx226_2, hx226_3⟩ := at_T43 HR0.out x5_1 p226 q226
    have hw226_3 := hx226_3
    have hw226_2 := hx226_2
    have hw226_1 := hx226_1
    have hw226_0 := hx226_0
    cases e226
    replace hx226_0 := (HB.out.cell (World.block_lt_of_cell? w _ hx226_0)).trans hx226_0
    replace hx226_1 := (HB.out.cell (World.block_lt_of_cell? w _ hx226_1)).trans hx226_1
    replace hx226_2 := (HB.out.cell (World.block_lt_of_cell? w _ hx226_2)).trans hx226_2
    replace hx226_3 := (HB.out.cell (World.block_lt_of_cell? w _ hx226_3)).trans hx226_3
    replace p226 := eq_true p226
    replace q226 := eq_true q226
    have p227 : 0 ≤ (x5_1 : Int) := of_decide_eq_true (by first | (with_reducible assumption) | assumption)
    have q227 : x5_1 < (l1.length : Int) := of_decide_eq_true (by first | (with_reducible assumption) | assumption)
    obtain ⟨ad227, e227, hx227_0, hx227_1, hx227_2, hx227_3⟩ := at_T43 HR1.out x5_1 p227 q227
    have hw227_3 := hx227_3
    have hw227_2 := hx227_2
    have hw227_1 := hx227_1
    have hw227_0 := hx227_0
    cases e227
    replace hx227_0 := (HB.out.cell (World.block_lt_of_cell? w _ hx227_0)).trans hx227_0
    replace hx227_1 := (HB.out.cell (World.block_lt_of_cell? w _ hx227_1)).trans hx227_1
    replace hx227_2 := (HB.out.cell (World.block_lt_of_cell? w _ hx227_2)).trans hx227_2
    replace hx227_3 := (HB.out.cell (World.block_lt_of_cell? w _ hx227_3)).trans hx227_3
    replace p227 := eq_true p227
    replace q227 := eq_true q227
    refine start_ (n := 10) (S := fun w' => w'.cell? (ad226.add ((x5_1).toNat * 4)) = some (.int .i64 ((rd_T43 l0 x5_1).f0)) ∧ w'.cell? ⟨(ad226.add ((x5_1).toNat * 4)).block, (ad226.add ((x5_1).toNat * 4)).off + 1, none⟩ = some (.int .i64 ((rd_T43 l0 x5_1).f1)) ∧ w'.cell? ⟨(ad226.add ((x5_1).toNat * 4)).block, (ad226.add ((x5_1).toNat * 4)).off + 2, none⟩ = some (.int .i64 ((rd_T43 l0 x5_1).f2)) ∧ w'.cell? ⟨(ad226.add ((x5_1).toNat * 4)).block, (ad226.add ((x5_1).toNat * 4)).off + 3, none⟩ = some (.int .i64 ((rd_T43 l0 x5_1).f3)) ∧ w'.cell? (ad227.add ((x5_1).toNat * 4)) = some (.int .i64 ((rd_T43 l1 x5_1).f0)) ∧ w'.cell? ⟨(ad227.add ((x5_1).toNat * 4)).block, (ad227.add ((x5_1).toNat * 4)).off + 1, none⟩ = some (.int .i64 ((rd_T43 l1 x5_1).f1)) ∧ w'.cell? ⟨(ad227.add ((x5_1).toNat * 4)).block, (ad227.add ((x5_1).toNat * 4)).off + 2, none⟩ = some (.int .i64 ((rd_T43 l1 x5_1).f2)) ∧ w'.cell? ⟨(ad227.add ((x5_1).toNat * 4)).block, (ad227.add ((x5_1).toNat * 4)).off + 3, none⟩ = some (.int .i64 ((rd_T43 l1 x5_1).f3))) (ds := []) q11_0 (by kernel_rfl) rfl rfl ⟨(bcl_ HB.out hw226_0 :), (bcl_ HB.out hw226_1 :), (bcl_ HB.out hw226_2 :), (bcl_ HB.out hw226_3 :), (bcl_ HB.out hw227_0 :), (bcl_ HB.out hw227_1 :), (bcl_ HB.out hw227_2 :), (bcl_ HB.out hw227_3 :)⟩ (fun hHeld => ?_); refine with_tabW laws_eqJobS.tab6 laws_eqJobS.bits6 (fun HT_ HW_ => ?_)
    generalize wr.drew = w11 at HB hx226_0 hx226_1 hx226_2 hx226_3 hx227_0 hx227_1 hx227_2 hx227_3 hHeld ⊢
    refine pup_ (i := 0) (N := some 17) HT_ rfl rfl (by kernel_rfl) (fun _ _ _ h => h) (Or.inl ⟨by rfl, by intro w'; go_simp; with_reducible rfl⟩) (by simp only [aq_]; rfl) ?_
    refine pup_ (i := 1) (N := some 18) HT_ rfl rfl (by kernel_rfl) (fun _ _ _ h => h) (Or.inl ⟨by rfl, by intro w'; go_simp; with_reducible rfl⟩) (by simp only [aq_]; rfl) ?_
    refine pup_ (i := 2) (N := some 19) HT_ rfl rfl (by kernel_rfl) (fun _ _ _ h => h) (Or.inl ⟨by rfl, by intro w'; go_simp; with_reducible rfl⟩) (by simp only [aq_]; rfl) ?_
    refine pup_ (i := 4) (N := some 21) HT_ rfl rfl (by kernel_rfl) (fun _ _ _ h => h) (Or.inl ⟨by rfl, by intro w'; go_simp; with_reducible rfl⟩) (by simp only [aq_]; rfl) ?_
    refine pup_ (i := 5) (N := some 22) HT_ rfl rfl (by kernel_rfl) (fun _ _ _ h => h) (Or.inl ⟨by rfl, by intro w'; go_simp; with_reducible rfl⟩) (by simp only [aq_]; rfl) ?_
    refine pup_ (i := 6) (N := some 23) HT_ rfl rfl (by kernel_rfl) (fun _ _ _ h => h) (Or.inl ⟨by rfl, by intro w'; go_simp; with_reducible rfl⟩) (by simp only [aq_]; rfl) ?_
    refine take_ (i := 3) (N := some 20) (v := ?_) (a' := ?_) q11_7 rfl rfl (take_ofW HT_.out HW_.out (by kernel_rfl)) (fun _ _ _ h => h) (Or.inl ⟨by rfl, ?_⟩) hHeld ?_ ?_
    rotate_left
    ·rintro w' ⟨s0, s1, s2, s3, s4, s5, s6, s7⟩
     go_simp
     with_reducible rfl
    rotate_left
    ·simp only [aq_]
     rfl
    refine take_ (i := 7) (N := some 24) (v := ?_) (a' := ?_) q11_8 rfl rfl (take_ofW HT_.out HW_.out (by kernel_rfl)) (fun _ _ _ h => h) (Or.inl ⟨by rfl, ?_⟩) hHeld ?_ ?_
    rotate_left
    ·rintro w' ⟨s0, s1, s2, s3, s4, s5, s6, s7⟩
     go_simp
     with_reducible rfl
    rotate_left
    ·simp only [aq_]
     rfl
    refine one_ (i := 8) (N := some 25) q11_9 rfl rfl (one_of HT_.out (by kernel_rfl)) (by decide) (fun K hK => ?_)
    refine goes_ Try.func29 (by kernel_rfl) rfl #[.agg #[.int .i64 ((rd_T43 l0 x5_1).f0), .int .i64 ((rd_T43 l0 x5_1).f1), .int .i64 ((rd_T43 l0 x5_1).f2), .int .i64 ((rd_T43 l0 x5_1).f3)], .agg #[.int .i64 ((rd_T43 l1 x5_1).f0), .int .i64 ((rd_T43 l1 x5_1).f1), .int .i64 ((rd_T43 l1 x5_1).f2), .int .i64 ((rd_T43 l1 x5_1).f3)]] (by rfl) rfl rfl (by (try simp only [mA_]); first | done | rfl | (simp only [List.length_drop, List.length_take]; rfl)) ?_
    with_reducible refine (laws_eqJob.calls ((rd_T43 l0 x5_1).f0) ((rd_T43 l0 x5_1).f1) ((rd_T43 l0 x5_1).f2) ((rd_T43 l0 x5_1).f3) ((rd_T43 l1 x5_1).f0) ((rd_T43 l1 x5_1).f1) ((rd_T43 l1 x5_1).f2) ((rd_T43 l1 x5_1).f3) false _ A7.out).mono ?_
    rintro e w12 ⟨rfl, hb⟩
    refine ⟨_, rfl, ?_⟩
    have n0_ := Aside0.mk (below_step (bw HB.out) hb)
    replace HB := n0_
    clear n0_
    (try clear hb)
    (try clear hb2)
    (try clear hk)
    (try clear hi)
    refine hK.out _ _ ⟨(bcl_ HB.out hw226_0 :), (bcl_ HB.out hw226_1 :), (bcl_ HB.out hw226_2 :), (bcl_ HB.out hw226_3 :), (bcl_ HB.out hw227_0 :), (bcl_ HB.out hw227_1 :), (bcl_ HB.out hw227_2 :), (bcl_ HB.out hw227_3 :)⟩ (fun hHeld => ?_)
    clear hK K
    refine norm_ (a' := ?_) ?_ ?_
    rotate_left
    ·show Act.put _ (some 25) _ = _
     simp only [aq_]
     rfl
    refine pup_ (i := 9) (N := some 26) HT_ rfl rfl (by kernel_rfl) (fun _ _ _ h => h) (Or.inl ⟨by rfl, by intro w'; go_simp; with_reducible rfl⟩) (by simp only [aq_]; rfl) ?_
    refine done_ (done_of HT_.out (by kernel_rfl)) ?_
    try go_wp2
    go_ret
    exact ⟨by first | rfl | (simp [errW_none, errW_some] <;> rfl) | (simp [*, errW_none, errW_some] <;> rfl), bw HB.out⟩
   subst c8
   have H1 : (laws_eqJobS.l0 k1 l0 l1 (wrap64 (x5_1 + 1))) = some r := by rw [if_pos rfl] at H; exact H
   clear H
   have H := H1
   clear H1
   have H' := Aside0.mk H
   clear H
   try go_wp2
   have n0_ := Aside0.mk (below_drew1 HB.out)
   replace HB := n0_
   clear n0_
   have p226 : 0 ≤ (x5_1 : Int) := of_decide_eq_true (by first | (with_reducible assumption) | assumption)
   have q226 : x5_1 < (l0.length : Int) := of_decide_eq_true (by first | (with_reducible assumption) | assumption)
   obtain ⟨ad226, e226, hx226_0, hx226_1, hx226_2, hx226_3⟩ := at_T43 HR0.out x5_1 p226 q226
   have hw226_3 := hx226_3
   have hw226_2 := hx226_2
   have hw226_1 := hx226_1
   have hw226_0 := hx226_0
   cases e226
   replace hx226_0 := (HB.out.cell (World.block_lt_of_cell? w _ hx226_0)).trans hx226_0
   replace hx226_1 := (HB.out.cell (World.block_lt_of_cell? w _ hx226_1)).trans hx226_1
   replace hx226_2 := (HB.out.cell (World.block_lt_of_cell? w _ hx226_2)).trans hx226_2
   replace hx226_3 := (HB.out.cell (World.block_lt_of_cell? w _ hx226_3)).trans hx226_3
   replace p226 := eq_true p226
   replace q226 := eq_true q226
   have p227 : 0 ≤ (x5_1 : Int) := of_decide_eq_true (by first | (with_reducible assumption) | assumption)
   have q227 : x5_1 < (l1.length : Int) := of_decide_eq_true (by first | (with_reducible assumption) | assumption)
   obtain ⟨ad227, e227, hx227_0, hx227_1, hx227_2, hx227_3⟩ := at_T43 HR1.out x5_1 p227 q227
   have hw227_3 := hx227_3
   have hw227_2 := hx227_2
   have hw227_1 := hx227_1
   have hw227_0 := hx227_0
   cases e227
   replace hx227_0 := (HB.out.cell (World.block_lt_of_cell? w _ hx227_0)).trans hx227_0
   replace hx227_1 := (HB.out.cell (World.block_lt_of_cell? w _ hx227_1)).trans hx227_1
   replace hx227_2 := (HB.out.cell (World.block_lt_of_cell? w _ hx227_2)).trans hx227_2
   replace hx227_3 := (HB.out.cell (World.block_lt_of_cell? w _ hx227_3)).trans hx227_3
   replace p227 := eq_true p227
   replace q227 := eq_true q227
   refine start_ (n := 10) (S := fun w' => w'.cell? (ad226.add ((x5_1).toNat * 4)) = some (.int .i64 ((rd_T43 l0 x5_1).f0)) ∧ w'.cell? ⟨(ad226.add ((x5_1).toNat * 4)).block, (ad226.add ((x5_1).toNat * 4)).off + 1, none⟩ = some (.int .i64 ((rd_T43 l0 x5_1).f1)) ∧ w'.cell? ⟨(ad226.add ((x5_1).toNat * 4)).block, (ad226.add ((x5_1).toNat * 4)).off + 2, none⟩ = some (.int .i64 ((rd_T43 l0 x5_1).f2)) ∧ w'.cell? ⟨(ad226.add ((x5_1).toNat * 4)).block, (ad226.add ((x5_1).toNat * 4)).off + 3, none⟩ = some (.int .i64 ((rd_T43 l0 x5_1).f3)) ∧ w'.cell? (ad227.add ((x5_1).toNat * 4)) = some (.int .i64 ((rd_T43 l1 x5_1).f0)) ∧ w'.cell? ⟨(ad227.add ((x5_1).toNat * 4)).block, (ad227.add ((x5_1).toNat * 4)).off + 1, none⟩ = some (.int .i64 ((rd_T43 l1 x5_1).f1)) ∧ w'.cell? ⟨(ad227.add ((x5_1).toNat * 4)).block, (ad227.add ((x5_1).toNat * 4)).off + 2, none⟩ = some (.int .i64 ((rd_T43 l1 x5_1).f2)) ∧ w'.cell? ⟨(ad227.add ((x5_1).toNat * 4)).block, (ad227.add ((x5_1).toNat * 4)).off + 3, none⟩ = some (.int .i64 ((rd_T43 l1 x5_1).f3))) (ds := []) q11_0 (by kernel_rfl) rfl rfl ⟨(bcl_ HB.out hw226_0 :), (bcl_ HB.out hw226_1 :), (bcl_ HB.out hw226_2 :), (bcl_ HB.out hw226_3 :), (bcl_ HB.out hw227_0 :), (bcl_ HB.out hw227_1 :), (bcl_ HB.out hw227_2 :), (bcl_ HB.out hw227_3 :)⟩ (fun hHeld => ?_); refine with_tabW laws_eqJobS.tab6 laws_eqJobS.bits6 (fun HT_ HW_ => ?_)
   generalize wr.drew = w9 at HB hx226_0 hx226_1 hx226_2 hx226_3 hx227_0 hx227_1 hx227_2 hx227_3 hHeld ⊢
   refine pup_ (i := 0) (N := some 17) HT_ rfl rfl (by kernel_rfl) (fun _ _ _ h => h) (Or.inl ⟨by rfl, by intro w'; go_simp; with_reducible rfl⟩) (by simp only [aq_]; rfl) ?_
   refine pup_ (i := 1) (N := some 18) HT_ rfl rfl (by kernel_rfl) (fun _ _ _ h => h) (Or.inl ⟨by rfl, by intro w'; go_simp; with_reducible rfl⟩) (by simp only [aq_]; rfl) ?_
   refine pup_ (i := 2) (N := some 19) HT_ rfl rfl (by kernel_rfl) (fun _ _ _ h => h) (Or.inl ⟨by rfl, by intro w'; go_simp; with_reducible rfl⟩) (by simp only [aq_]; rfl) ?_
   refine pup_ (i := 4) (N := some 21) HT_ rfl rfl (by kernel_rfl) (fun _ _ _ h => h) (Or.inl ⟨by rfl, by intro w'; go_simp; with_reducible rfl⟩) (by simp only [aq_]; rfl) ?_
   refine pup_ (i := 5) (N := some 22) HT_ rfl rfl (by kernel_rfl) (fun _ _ _ h => h) (Or.inl ⟨by rfl, by intro w'; go_simp; with_reducible rfl⟩) (by simp only [aq_]; rfl) ?_
   refine pup_ (i := 6) (N := some 23) HT_ rfl rfl (by kernel_rfl) (fun _ _ _ h => h) (Or.inl ⟨by rfl, by intro w'; go_simp; with_reducible rfl⟩) (by simp only [aq_]; rfl) ?_
   refine take_ (i := 3) (N := some 20) (v := ?_) (a' := ?_) q11_7 rfl rfl (take_ofW HT_.out HW_.out (by kernel_rfl)) (fun _ _ _ h => h) (Or.inl ⟨by rfl, ?_⟩) hHeld ?_ ?_
   rotate_left
   ·rintro w' ⟨s0, s1, s2, s3, s4, s5, s6, s7⟩
    go_simp
    with_reducible rfl
   rotate_left
   ·simp only [aq_]
    rfl
   refine take_ (i := 7) (N := some 24) (v := ?_) (a' := ?_) q11_8 rfl rfl (take_ofW HT_.out HW_.out (by kernel_rfl)) (fun _ _ _ h => h) (Or.inl ⟨by rfl, ?_⟩) hHeld ?_ ?_
   rotate_left
   ·rintro w' ⟨s0, s1, s2, s3, s4, s5, s6, s7⟩
    go_simp
    with_reducible rfl
   rotate_left
   ·simp only [aq_]
    rfl
   refine one_ (i := 8) (N := some 25) q11_9 rfl rfl (one_of HT_.out (by kernel_rfl)) (by decide) (fun K hK => ?_)
   refine goes_ Try.func29 (by kernel_rfl) rfl #[.agg #[.int .i64 ((rd_T43 l0 x5_1).f0), .int .i64 ((rd_T43 l0 x5_1).f1), .int .i64 ((rd_T43 l0 x5_1).f2), .int .i64 ((rd_T43 l0 x5_1).f3)], .agg #[.int .i64 ((rd_T43 l1 x5_1).f0), .int .i64 ((rd_T43 l1 x5_1).f1), .int .i64 ((rd_T43 l1 x5_1).f2), .int .i64 ((rd_T43 l1 x5_1).f3)]] (by rfl) rfl rfl (by (try simp only [mA_]); first | done | rfl | (simp only [List.length_drop, List.length_take]; rfl)) ?_
   with_reducible refine (laws_eqJob.calls ((rd_T43 l0 x5_1).f0) ((rd_T43 l0 x5_1).f1) ((rd_T43 l0 x5_1).f2) ((rd_T43 l0 x5_1).f3) ((rd_T43 l1 x5_1).f0) ((rd_T43 l1 x5_1).f1) ((rd_T43 l1 x5_1).f2) ((rd_T43 l1 x5_1).f3) true _ A7.out).mono ?_
   rintro e w10 ⟨rfl, hb⟩
   refine ⟨_, rfl, ?_⟩
   have n0_ := Aside0.mk (below_step (bw HB.out) hb)
   replace HB := n0_
   clear n0_
   (try clear hb)
   (try clear hb2)
   (try clear hk)
   (try clear hi)
   refine hK.out _ _ ⟨(bcl_ HB.out hw226_0 :), (bcl_ HB.out hw226_1 :), (bcl_ HB.out hw226_2 :), (bcl_ HB.out hw226_3 :), (bcl_ HB.out hw227_0 :), (bcl_ HB.out hw227_1 :), (bcl_ HB.out hw227_2 :), (bcl_ HB.out hw227_3 :)⟩ (fun hHeld => ?_)
   clear hK K
   refine norm_ (a' := ?_) ?_ ?_
   rotate_left
   ·show Act.put _ (some 25) _ = _
    simp only [aq_]
    rfl
   refine pup_ (i := 9) (N := some 26) HT_ rfl rfl (by kernel_rfl) (fun _ _ _ h => h) (Or.inl ⟨by rfl, by intro w'; go_simp; with_reducible rfl⟩) (by simp only [aq_]; rfl) ?_
   refine done_ (done_of HT_.out (by kernel_rfl)) ?_
   try go_wp2
   go_roundg k1
   case measure => have := HK1.out; omega
   case rel => exact ⟨(wrap64 (x5_1 + 1)), (by first | rfl | (simp; done) | (simp [*]; done)), H', ⟨by have := HK1.out; omega⟩, ⟨bw HB.out⟩⟩

/-! ### laws_markJobS: function 12 -/
def laws_markJobS.l0 : Nat → List (S43) → Int → Int → Option (Int × (List (S43)))
 | 0, _, _, _ => none
 | k + 1, x0, x1, x5 => if x5 < (x0.length : Int) then (if 0 ≤ x5 then ((some (x0.set (x5 : Int).toNat (⟨x1, (rd_T43 x0 x5).f1, (rd_T43 x0 x5).f2, (rd_T43 x0 x5).f3⟩ : S43) : List (S43))).bind fun y229 => ((some (y229.set (x5 : Int).toNat (⟨(rd_T43 y229 x5).f0, wrap64 (x1 + 1), (rd_T43 y229 x5).f2, (rd_T43 y229 x5).f3⟩ : S43) : List (S43))).bind fun y230 => ((some (y230.set (x5 : Int).toNat (⟨(rd_T43 y230 x5).f0, (rd_T43 y230 x5).f1, wrap64 ((wrap64 (x1 + 1)) + 1), (rd_T43 y230 x5).f3⟩ : S43) : List (S43))).bind fun y231 => (laws_markJobS.l0 k (y231.set (x5 : Int).toNat (⟨(rd_T43 y231 x5).f0, (rd_T43 y231 x5).f1, (rd_T43 y231 x5).f2, wrap64 ((wrap64 ((wrap64 (x1 + 1)) + 1)) + 1)⟩ : S43)) (wrap64 ((wrap64 ((wrap64 ((wrap64 (x1 + 1)) + 1)) + 1)) + 1)) (wrap64 (x5 + 1)))))) else (none)) else (some (x1, x0))
def laws_markJobS.f (k : Nat) (l0 : List (S43)) (a1 : Int) : Option (Int × (List (S43))) := laws_markJobS.l0 k l0 a1 0
theorem laws_markJobS.mono_l : ∀ k, (∀ y0 y1 y2, LeO (laws_markJobS.l0 k y0 y1 y2) (laws_markJobS.l0 (k + 1) y0 y1 y2))
 | 0 => fun _ _ _ r h => by simp [laws_markJobS.l0] at h
 | k + 1 => by
  have ih0 := laws_markJobS.mono_l k
  ·intro y0 y1 y2
   unfold laws_markJobS.l0
   repeat' first
   | (with_reducible exact ih0 _ _ _)
   | (with_reducible exact LeO.refl _)
   | (with_reducible exact LeO.none _)
   | (with_reducible refine LeO.ite ?_ ?_)
   | (with_reducible refine LeO.bind ?_ (fun _ => ?_))
   | exact ih0 _ _ _
   | exact LeO.none _
   | refine LeO.ite ?_ ?_
   | refine LeO.bind ?_ (fun _ => ?_)
theorem laws_markJobS.mono : ∀ a0 a1 k, LeO (laws_markJobS.f k a0 a1) (laws_markJobS.f (k + 1) a0 a1) := by
 intro a0 a1 k
 have ih0 := laws_markJobS.mono_l k
 unfold laws_markJobS.f
 repeat' first
   | (with_reducible exact ih0 _ _ _)
   | (with_reducible exact LeO.refl _)
   | (with_reducible exact LeO.none _)
   | (with_reducible refine LeO.ite ?_ ?_)
   | (with_reducible refine LeO.bind ?_ (fun _ => ?_))
   | exact ih0 _ _ _
   | exact LeO.none _
   | refine LeO.ite ?_ ?_
   | refine LeO.bind ?_ (fun _ => ?_)
set_option maxHeartbeats 8000000 in
set_option maxRecDepth 100000 in
theorem laws_markJobS.calls (k : Nat) (P0_ : Nat → Prop) (u9000_ : Value) (l0 : List (S43)) (a1 : Int) (r1 : Int) (r2 : List (S43)) (w0 w : World) (hB : Below w0.heap.size w0 w) (ho0 : Kd.R k43 43 w w0.heap.size P0_ u9000_ l0) (h : laws_markJobS.f k l0 a1 = some (r1, r2)) :
  Calls Try.prog 12 #[u9000_, .int .i64 a1] w fun e w' => e = .returned (.int .i64 r1) ∧ Kd.R k43 43 w' w0.heap.size (fun k_ => (P0_ k_ ∨ w.heap.size ≤ k_)) u9000_ r2 ∧ Below w0.heap.size w0 w' ∧ Kept w w' (fun k_ => P0_ k_) := by
 have HO0 := Aside0.mk (show Kd.R k43 43 w w0.heap.size (fun k_ => (P0_ k_ ∨ w.heap.size ≤ k_)) u9000_ l0 from Kd.R_mono ho0 (fun k_ hk => (.inl hk)))
 have HK := Aside0.mk (Kept.refl w (fun k_ => P0_ k_))
 have HW0 := Aside0.mk hB.size
 have HB := Aside0.mk hB
 clear hB
 have H : (laws_markJobS.l0 k l0 a1 0) = some (r1, r2) := h
 clear h
 have H' := Aside0.mk H
 clear H
 go_enter Try.func12, Try.ntmps12
 go_wp2
 go_loopg [1, 5] k (fun kq v1 v5 w' => ∃ (x0_1 : List (S43)) (x1_1 : Int) (x5_1 : Int), v1 = .int .i64 x1_1 ∧ v5 = .int .i64 x5_1 ∧ Aside0 (laws_markJobS.l0 kq x0_1 x1_1 x5_1 = some (r1, r2)) ∧ Aside0 (kq ≤ k) ∧ Aside0 (Kd.R k43 43 w' w0.heap.size (fun k_ => (P0_ k_ ∨ w.heap.size ≤ k_)) u9000_ x0_1) ∧ Aside0 (Kept w w' (fun k_ => P0_ k_)) ∧ Aside0 (Below w0.heap.size w0 w'))
 case atStart => exact ⟨(l0), (a1), (0), (by first | rfl | (simp; done) | (simp [*]; done)), (by first | rfl | (simp; done) | (simp [*]; done)), H', ⟨Nat.le_refl _⟩, ⟨bR HO0.out⟩, ⟨by repeat (first | (with_reducible first | exact HK.out | apply Kept.alloc | apply Kept.drewN | apply Kept.drew) | exact HK.out)⟩, ⟨bw HB.out⟩⟩
 case round =>
  clear H'
  try clear c1
  try clear p2
  obtain ⟨x0_1, x1_1, x5_1, rfl, rfl, HA, HK1, HO_0, HK, HB⟩ := hrel
  cases gk with
  | zero => exact absurd HA.out (by simp [laws_markJobS.l0])
  | succ k1 =>
   have H := HA.out
   clear HA
   simp only [laws_markJobS.l0] at H
   by_cases c3 : x5_1 < (x0_1.length : Int)
   rotate_left
   ·rw [if_neg c3] at H
    have c3b0 : decide (x5_1 < (x0_1.length : Int)) = false := decide_eq_false c3
    clear c3
    simp only [Option.some.injEq, Prod.mk.injEq] at H
    obtain ⟨rfl, rfl⟩ := H
    obtain ⟨Ao18, co18, eo18⟩ := Kd.R_slice HO_0.out
    subst eo18
    go_wp2
    go_ret
    exact ⟨by first | rfl | (simp [errW_none, errW_some] <;> rfl) | (simp [*, errW_none, errW_some] <;> rfl), by (with_reducible repeat (first | apply Kd.R_alloc | apply Kd.R_drewN | apply Kd.R_drew)); exact HO_0.out, bw HB.out, by repeat (first | (with_reducible first | exact HK.out | apply Kept.alloc | apply Kept.drewN | apply Kept.drew) | exact HK.out)⟩
   rw [if_pos c3] at H
   have c3b0 : decide (x5_1 < (x0_1.length : Int)) = true := decide_eq_true c3
   clear c3
   by_cases c4 : 0 ≤ x5_1
   rotate_left
   ·rw [if_neg c4] at H
    exact absurd H (by simp)
   rw [if_pos c4] at H
   have c4b0 : decide (0 ≤ x5_1) = true := decide_eq_true c4
   clear c4
   obtain ⟨y229, hy229⟩ : ∃ y_ : List (S43), y_ = (x0_1.set (x5_1 : Int).toNat (⟨x1_1, (rd_T43 x0_1 x5_1).f1, (rd_T43 x0_1 x5_1).f2, (rd_T43 x0_1 x5_1).f3⟩ : S43)) := ⟨_, rfl⟩
   replace H : ((some (y229.set (x5_1 : Int).toNat (⟨(rd_T43 y229 x5_1).f0, wrap64 (x1_1 + 1), (rd_T43 y229 x5_1).f2, (rd_T43 y229 x5_1).f3⟩ : S43) : List (S43))).bind fun y230 => ((some (y230.set (x5_1 : Int).toNat (⟨(rd_T43 y230 x5_1).f0, (rd_T43 y230 x5_1).f1, wrap64 ((wrap64 (x1_1 + 1)) + 1), (rd_T43 y230 x5_1).f3⟩ : S43) : List (S43))).bind fun y231 => (laws_markJobS.l0 k1 (y231.set (x5_1 : Int).toNat (⟨(rd_T43 y231 x5_1).f0, (rd_T43 y231 x5_1).f1, (rd_T43 y231 x5_1).f2, wrap64 ((wrap64 ((wrap64 (x1_1 + 1)) + 1)) + 1)⟩ : S43)) (wrap64 ((wrap64 ((wrap64 ((wrap64 (x1_1 + 1)) + 1)) + 1)) + 1)) (wrap64 (x5_1 + 1))))) = some (r1, r2) := by first | (rw [hy229]; with_reducible exact H) | (have H2_ := (Option.bind_some _ _).symm.trans H; rw [hy229]; with_reducible exact H2_) | (have H2_ := (Option.bind_some _ _).symm.trans H; with_reducible exact H2_) | with_reducible exact H | (rw [hy229]; exact H) | exact H
   have Ny229 := Aside0.mk hy229
   clear hy229
   obtain ⟨y230, hy230⟩ : ∃ y_ : List (S43), y_ = (y229.set (x5_1 : Int).toNat (⟨(rd_T43 y229 x5_1).f0, wrap64 (x1_1 + 1), (rd_T43 y229 x5_1).f2, (rd_T43 y229 x5_1).f3⟩ : S43)) := ⟨_, rfl⟩
   replace H : ((some (y230.set (x5_1 : Int).toNat (⟨(rd_T43 y230 x5_1).f0, (rd_T43 y230 x5_1).f1, wrap64 ((wrap64 (x1_1 + 1)) + 1), (rd_T43 y230 x5_1).f3⟩ : S43) : List (S43))).bind fun y231 => (laws_markJobS.l0 k1 (y231.set (x5_1 : Int).toNat (⟨(rd_T43 y231 x5_1).f0, (rd_T43 y231 x5_1).f1, (rd_T43 y231 x5_1).f2, wrap64 ((wrap64 ((wrap64 (x1_1 + 1)) + 1)) + 1)⟩ : S43)) (wrap64 ((wrap64 ((wrap64 ((wrap64 (x1_1 + 1)) + 1)) + 1)) + 1)) (wrap64 (x5_1 + 1)))) = some (r1, r2) := by first | (rw [hy230]; with_reducible exact H) | (have H2_ := (Option.bind_some _ _).symm.trans H; rw [hy230]; with_reducible exact H2_) | (have H2_ := (Option.bind_some _ _).symm.trans H; with_reducible exact H2_) | with_reducible exact H | (rw [hy230]; exact H) | exact H
   have Ny230 := Aside0.mk hy230
   clear hy230
   obtain ⟨y231, hy231⟩ : ∃ y_ : List (S43), y_ = (y230.set (x5_1 : Int).toNat (⟨(rd_T43 y230 x5_1).f0, (rd_T43 y230 x5_1).f1, wrap64 ((wrap64 (x1_1 + 1)) + 1), (rd_T43 y230 x5_1).f3⟩ : S43)) := ⟨_, rfl⟩
   replace H : (laws_markJobS.l0 k1 (y231.set (x5_1 : Int).toNat (⟨(rd_T43 y231 x5_1).f0, (rd_T43 y231 x5_1).f1, (rd_T43 y231 x5_1).f2, wrap64 ((wrap64 ((wrap64 (x1_1 + 1)) + 1)) + 1)⟩ : S43)) (wrap64 ((wrap64 ((wrap64 ((wrap64 (x1_1 + 1)) + 1)) + 1)) + 1)) (wrap64 (x5_1 + 1))) = some (r1, r2) := by first | (rw [hy231]; with_reducible exact H) | (have H2_ := (Option.bind_some _ _).symm.trans H; rw [hy231]; with_reducible exact H2_) | (have H2_ := (Option.bind_some _ _).symm.trans H; with_reducible exact H2_) | with_reducible exact H | (rw [hy231]; exact H) | exact H
   have Ny231 := Aside0.mk hy231
   clear hy231
   obtain ⟨y232, hy232⟩ : ∃ y_ : List (S43), y_ = (y231.set (x5_1 : Int).toNat (⟨(rd_T43 y231 x5_1).f0, (rd_T43 y231 x5_1).f1, (rd_T43 y231 x5_1).f2, wrap64 ((wrap64 ((wrap64 (x1_1 + 1)) + 1)) + 1)⟩ : S43)) := ⟨_, rfl⟩
   replace H : (laws_markJobS.l0 k1 y232 (wrap64 ((wrap64 ((wrap64 ((wrap64 (x1_1 + 1)) + 1)) + 1)) + 1)) (wrap64 (x5_1 + 1))) = some (r1, r2) := by first | (rw [hy232]; with_reducible exact H) | (have H2_ := (Option.bind_some _ _).symm.trans H; rw [hy232]; with_reducible exact H2_) | (have H2_ := (Option.bind_some _ _).symm.trans H; with_reducible exact H2_) | with_reducible exact H | (rw [hy232]; exact H) | exact H
   have Ny232 := Aside0.mk hy232
   clear hy232
   have H' := Aside0.mk H
   clear H
   obtain ⟨Ao9, co9, eo9⟩ := Kd.R_slice HO_0.out
   subst eo9
   have p5 : 0 ≤ (x5_1 : Int) := of_decide_eq_true (by first | (with_reducible assumption) | assumption)
   have q5 : (x5_1 : Int) < ((x0_1.length : Int) : Int) := of_decide_eq_true (by first | (with_reducible assumption) | assumption)
   obtain ⟨go5, co5, eo5, gb5, gl5, cl5, HG5⟩ := Kd.R_form HO_0.out (by omega)
   (first | cases eo5 | (injection eo5 with ea_ en_ ec_; (first | subst ea_ | (injection ea_ with ea_; subst ea_)); subst ec_; clear en_))
   have GB5 := Aside0.mk gb5
   have GG5 := Aside0.mk HG5
   clear gb5 gl5 HG5
   have HMgo5 := Aside0.mk (show (P0_ go5 ∨ w.heap.size ≤ go5) from (HO_0.out.1 _ rfl))
   obtain ⟨ce5, hcl5, hM5, hcc5, hfr5⟩ := Kd.R_elem HO_0.out z43 (x5_1 : Int) p5 q5
   obtain rfl := k43_openM hM5
   have hx5_0 : wr.cell? ⟨go5, (x5_1 : Int).toNat * 4, none⟩ = some (.int .i64 ((rd_T43 x0_1 x5_1).f0)) := hcc5 0 _ rfl
   have hx5_1 : wr.cell? ⟨go5, (x5_1 : Int).toNat * 4 + 1, none⟩ = some (.int .i64 ((rd_T43 x0_1 x5_1).f1)) := hcc5 1 _ rfl
   have hx5_2 : wr.cell? ⟨go5, (x5_1 : Int).toNat * 4 + 2, none⟩ = some (.int .i64 ((rd_T43 x0_1 x5_1).f2)) := hcc5 2 _ rfl
   have hx5_3 : wr.cell? ⟨go5, (x5_1 : Int).toNat * 4 + 3, none⟩ = some (.int .i64 ((rd_T43 x0_1 x5_1).f3)) := hcc5 3 _ rfl
   have hf5_0 : wr.frozen? ⟨go5, (x5_1 : Int).toNat * 4, none⟩ = false := hfr5 0
   have hf5_1 : wr.frozen? ⟨go5, (x5_1 : Int).toNat * 4 + 1, none⟩ = false := hfr5 1
   have hf5_2 : wr.frozen? ⟨go5, (x5_1 : Int).toNat * 4 + 2, none⟩ = false := hfr5 2
   have hf5_3 : wr.frozen? ⟨go5, (x5_1 : Int).toNat * 4 + 3, none⟩ = false := hfr5 3
   clear hcl5 hcc5 hfr5; (try clear hM5)
   replace p5 := eq_true p5
   replace q5 := eq_true q5
   have HX10 := Aside0.mk (show Kd.R k43 43 wr w0.heap.size (fun k_ => (P0_ k_ ∨ w.heap.size ≤ k_)) (.slice (some ⟨go5, 0, none⟩) x0_1.length co9) x0_1 from (bR HO_0.out))
   obtain ⟨ce10, hcl10, hM10, hcc10, hfr10⟩ := Kd.R_elem HX10.out z43 (x5_1 : Int) (of_decide_eq_true (by first | (with_reducible assumption) | assumption)) (by have h_ : (x5_1 : Int) < ((x0_1.length : Int) : Int) := of_decide_eq_true (by first | (with_reducible assumption) | assumption); first | exact h_ | (have e_ := (Kd.R_reads' HO_0.out).1; omega) | simpa using h_)
   obtain rfl := k43_openM hM10
   have HP10 := Kd.R_seg HX10.out (x5_1 : Int) (of_decide_eq_true (by first | (with_reducible assumption) | assumption)) (by have h_ : (x5_1 : Int) < ((x0_1.length : Int) : Int) := of_decide_eq_true (by first | (with_reducible assumption) | assumption); first | exact h_ | (have e_ := (Kd.R_reads' HO_0.out).1; omega) | simpa using h_) (seg := [.int .i64 x1_1]) (j := 0) hcl10 hcc10 (show 1 ≤ 4 from by decide) (x' := (⟨x1_1, (rd_T43 x0_1 x5_1).f1, (rd_T43 x0_1 x5_1).f2, (rd_T43 x0_1 x5_1).f3⟩ : S43)) (k43_mkM _ _ _ (⟨x1_1, (rd_T43 x0_1 x5_1).f1, (rd_T43 x0_1 x5_1).f2, (rd_T43 x0_1 x5_1).f3⟩ : S43) ) (fun _ hk => hk)
   have hx10_0 := hcc10 0 _ rfl
   (try simp only [show (k43).sz = 4 from rfl, Nat.mul_one, Nat.add_zero] at hx10_0)
   have hf10_0 := hfr10 0
   (try simp only [show (k43).sz = 4 from rfl, Nat.mul_one, Nat.add_zero] at hf10_0)
   clear hcl10 hcc10 hfr10; (try clear hM10)
   go_wp2_with (first | ((with_reducible refine gate_store (t := 3) (p := 16) rfl ?_); refine store_event (t := 3) (p := 16) (v := ?vo_w11) (w1 := (wr.setCell ⟨go5, (x5_1 : Int).toNat * 4, none⟩ (.int .i64 x1_1))) ?hg ?ho ?hn ?hr ?_; (case ho => rfl); (case hg => rfl); (case hn => rfl); (case hr => first | (go_simp; done) | (go_simp; rfl)); intro w11 hw; have hg : wr.grownBy w11 (some go5) := (by rw [hw]; exact HP10.2); have hp_ : Kd.R k43 43 w11 w0.heap.size (fun k_ => (P0_ k_ ∨ w.heap.size ≤ k_)) (.slice (some ⟨go5, 0, none⟩) x0_1.length co9) y229 := (by rw [hw, Ny229.out]; exact HP10.1); clear HP10; have n0_ := Aside0.mk (hp_); have n1_ := Aside0.mk ((by rw [hw]; exact below_set (HB.out) GB5.out : Below w0.heap.size w0 w11)); have n2_ := Aside0.mk (Kept.of_grown (S := (fun k_ => P0_ k_)) hg (by repeat (first | (with_reducible first | exact HK.out | apply Kept.alloc | apply Kept.drewN | apply Kept.drew) | exact HK.out)) (fun k_ e_ => (HO_0.out.1 k_ e_))); replace HO_0 := n0_; replace HB := n1_; replace HK := n2_; clear n0_ n1_ n2_; clear hg hw hp_; have p6 : 0 ≤ (x5_1 : Int) := of_decide_eq_true (by first | (with_reducible assumption) | assumption); have q6 : (x5_1 : Int) < ((x0_1.length : Int) : Int) := of_decide_eq_true (by first | (with_reducible assumption) | assumption); obtain ⟨ce6, hcl6, hM6, hcc6, hfr6⟩ := Kd.R_elem HO_0.out z43 (x5_1 : Int) p6 q6; obtain rfl := k43_openM hM6; have hx6_0 : w11.cell? ⟨go5, (x5_1 : Int).toNat * 4, none⟩ = some (.int .i64 ((rd_T43 y229 x5_1).f0)) := hcc6 0 _ rfl; have hx6_1 : w11.cell? ⟨go5, (x5_1 : Int).toNat * 4 + 1, none⟩ = some (.int .i64 ((rd_T43 y229 x5_1).f1)) := hcc6 1 _ rfl; have hx6_2 : w11.cell? ⟨go5, (x5_1 : Int).toNat * 4 + 2, none⟩ = some (.int .i64 ((rd_T43 y229 x5_1).f2)) := hcc6 2 _ rfl; have hx6_3 : w11.cell? ⟨go5, (x5_1 : Int).toNat * 4 + 3, none⟩ = some (.int .i64 ((rd_T43 y229 x5_1).f3)) := hcc6 3 _ rfl; have hf6_0 : w11.frozen? ⟨go5, (x5_1 : Int).toNat * 4, none⟩ = false := hfr6 0; have hf6_1 : w11.frozen? ⟨go5, (x5_1 : Int).toNat * 4 + 1, none⟩ = false := hfr6 1; have hf6_2 : w11.frozen? ⟨go5, (x5_1 : Int).toNat * 4 + 2, none⟩ = false := hfr6 2; have hf6_3 : w11.frozen? ⟨go5, (x5_1 : Int).toNat * 4 + 3, none⟩ = false := hfr6 3; clear hcl6 hcc6 hfr6; (try clear hM6); replace p6 := eq_true p6; replace q6 := eq_true q6; have HX12 := Aside0.mk (show Kd.R k43 43 w11 w0.heap.size (fun k_ => (P0_ k_ ∨ w.heap.size ≤ k_)) (.slice (some ⟨go5, 0, none⟩) x0_1.length co9) y229 from (bR HO_0.out)); obtain ⟨ce12, hcl12, hM12, hcc12, hfr12⟩ := Kd.R_elem HX12.out z43 (x5_1 : Int) (of_decide_eq_true (by first | (with_reducible assumption) | assumption)) (by have h_ : (x5_1 : Int) < ((x0_1.length : Int) : Int) := of_decide_eq_true (by first | (with_reducible assumption) | assumption); first | exact h_ | (have e_ := (Kd.R_reads' HO_0.out).1; omega) | simpa using h_); obtain rfl := k43_openM hM12; have HP12 := Kd.R_seg HX12.out (x5_1 : Int) (of_decide_eq_true (by first | (with_reducible assumption) | assumption)) (by have h_ : (x5_1 : Int) < ((x0_1.length : Int) : Int) := of_decide_eq_true (by first | (with_reducible assumption) | assumption); first | exact h_ | (have e_ := (Kd.R_reads' HO_0.out).1; omega) | simpa using h_) (seg := [.int .i64 (wrap64 (x1_1 + 1))]) (j := 1) hcl12 hcc12 (show 2 ≤ 4 from by decide) (x' := (⟨(rd_T43 y229 x5_1).f0, wrap64 (x1_1 + 1), (rd_T43 y229 x5_1).f2, (rd_T43 y229 x5_1).f3⟩ : S43)) (k43_mkM _ _ _ (⟨(rd_T43 y229 x5_1).f0, wrap64 (x1_1 + 1), (rd_T43 y229 x5_1).f2, (rd_T43 y229 x5_1).f3⟩ : S43) ) (fun _ hk => hk); have hx12_1 := hcc12 1 _ rfl; (try simp only [show (k43).sz = 4 from rfl, Nat.mul_one, Nat.add_zero] at hx12_1); have hf12_1 := hfr12 1; (try simp only [show (k43).sz = 4 from rfl, Nat.mul_one, Nat.add_zero] at hf12_1); clear hcl12 hcc12 hfr12; (try clear hM12)) | ((with_reducible refine gate_store (t := 3) (p := 23) rfl ?_); refine store_event (t := 3) (p := 23) (v := ?vo_w13) (w1 := (w11.setCell ⟨go5, (x5_1 : Int).toNat * 4 + 1, none⟩ (.int .i64 (wrap64 (x1_1 + 1))))) ?hg ?ho ?hn ?hr ?_; (case ho => rfl); (case hg => rfl); (case hn => rfl); (case hr => first | (go_simp; done) | (go_simp; rfl)); intro w13 hw; have hg : w11.grownBy w13 (some go5) := (by rw [hw]; exact HP12.2); have hp_ : Kd.R k43 43 w13 w0.heap.size (fun k_ => (P0_ k_ ∨ w.heap.size ≤ k_)) (.slice (some ⟨go5, 0, none⟩) x0_1.length co9) y230 := (by rw [hw, Ny230.out]; exact HP12.1); clear HP12; have n0_ := Aside0.mk (hp_); have n1_ := Aside0.mk ((by rw [hw]; exact below_set (HB.out) GB5.out : Below w0.heap.size w0 w13)); have n2_ := Aside0.mk (Kept.of_grown (S := (fun k_ => P0_ k_)) hg (by repeat (first | (with_reducible first | exact HK.out | apply Kept.alloc | apply Kept.drewN | apply Kept.drew) | exact HK.out)) (fun k_ e_ => (HO_0.out.1 k_ e_))); replace HO_0 := n0_; replace HB := n1_; replace HK := n2_; clear n0_ n1_ n2_; clear hg hw hp_; have p7 : 0 ≤ (x5_1 : Int) := of_decide_eq_true (by first | (with_reducible assumption) | assumption); have q7 : (x5_1 : Int) < ((x0_1.length : Int) : Int) := of_decide_eq_true (by first | (with_reducible assumption) | assumption); obtain ⟨ce7, hcl7, hM7, hcc7, hfr7⟩ := Kd.R_elem HO_0.out z43 (x5_1 : Int) p7 q7; obtain rfl := k43_openM hM7; have hx7_0 : w13.cell? ⟨go5, (x5_1 : Int).toNat * 4, none⟩ = some (.int .i64 ((rd_T43 y230 x5_1).f0)) := hcc7 0 _ rfl; have hx7_1 : w13.cell? ⟨go5, (x5_1 : Int).toNat * 4 + 1, none⟩ = some (.int .i64 ((rd_T43 y230 x5_1).f1)) := hcc7 1 _ rfl; have hx7_2 : w13.cell? ⟨go5, (x5_1 : Int).toNat * 4 + 2, none⟩ = some (.int .i64 ((rd_T43 y230 x5_1).f2)) := hcc7 2 _ rfl; have hx7_3 : w13.cell? ⟨go5, (x5_1 : Int).toNat * 4 + 3, none⟩ = some (.int .i64 ((rd_T43 y230 x5_1).f3)) := hcc7 3 _ rfl; have hf7_0 : w13.frozen? ⟨go5, (x5_1 : Int).toNat * 4, none⟩ = false := hfr7 0; have hf7_1 : w13.frozen? ⟨go5, (x5_1 : Int).toNat * 4 + 1, none⟩ = false := hfr7 1; have hf7_2 : w13.frozen? ⟨go5, (x5_1 : Int).toNat * 4 + 2, none⟩ = false := hfr7 2; have hf7_3 : w13.frozen? ⟨go5, (x5_1 : Int).toNat * 4 + 3, none⟩ = false := hfr7 3; clear hcl7 hcc7 hfr7; (try clear hM7); replace p7 := eq_true p7; replace q7 := eq_true q7; have HX14 := Aside0.mk (show Kd.R k43 43 w13 w0.heap.size (fun k_ => (P0_ k_ ∨ w.heap.size ≤ k_)) (.slice (some ⟨go5, 0, none⟩) x0_1.length co9) y230 from (bR HO_0.out)); obtain ⟨ce14, hcl14, hM14, hcc14, hfr14⟩ := Kd.R_elem HX14.out z43 (x5_1 : Int) (of_decide_eq_true (by first | (with_reducible assumption) | assumption)) (by have h_ : (x5_1 : Int) < ((x0_1.length : Int) : Int) := of_decide_eq_true (by first | (with_reducible assumption) | assumption); first | exact h_ | (have e_ := (Kd.R_reads' HO_0.out).1; omega) | simpa using h_); obtain rfl := k43_openM hM14; have HP14 := Kd.R_seg HX14.out (x5_1 : Int) (of_decide_eq_true (by first | (with_reducible assumption) | assumption)) (by have h_ : (x5_1 : Int) < ((x0_1.length : Int) : Int) := of_decide_eq_true (by first | (with_reducible assumption) | assumption); first | exact h_ | (have e_ := (Kd.R_reads' HO_0.out).1; omega) | simpa using h_) (seg := [.int .i64 (wrap64 ((wrap64 (x1_1 + 1)) + 1))]) (j := 2) hcl14 hcc14 (show 3 ≤ 4 from by decide) (x' := (⟨(rd_T43 y230 x5_1).f0, (rd_T43 y230 x5_1).f1, wrap64 ((wrap64 (x1_1 + 1)) + 1), (rd_T43 y230 x5_1).f3⟩ : S43)) (k43_mkM _ _ _ (⟨(rd_T43 y230 x5_1).f0, (rd_T43 y230 x5_1).f1, wrap64 ((wrap64 (x1_1 + 1)) + 1), (rd_T43 y230 x5_1).f3⟩ : S43) ) (fun _ hk => hk); have hx14_2 := hcc14 2 _ rfl; (try simp only [show (k43).sz = 4 from rfl, Nat.mul_one, Nat.add_zero] at hx14_2); have hf14_2 := hfr14 2; (try simp only [show (k43).sz = 4 from rfl, Nat.mul_one, Nat.add_zero] at hf14_2); clear hcl14 hcc14 hfr14; (try clear hM14)) | ((with_reducible refine gate_store (t := 3) (p := 30) rfl ?_); refine store_event (t := 3) (p := 30) (v := ?vo_w15) (w1 := (w13.setCell ⟨go5, (x5_1 : Int).toNat * 4 + 2, none⟩ (.int .i64 (wrap64 ((wrap64 (x1_1 + 1)) + 1))))) ?hg ?ho ?hn ?hr ?_; (case ho => rfl); (case hg => rfl); (case hn => rfl); (case hr => first | (go_simp; done) | (go_simp; rfl)); intro w15 hw; have hg : w13.grownBy w15 (some go5) := (by rw [hw]; exact HP14.2); have hp_ : Kd.R k43 43 w15 w0.heap.size (fun k_ => (P0_ k_ ∨ w.heap.size ≤ k_)) (.slice (some ⟨go5, 0, none⟩) x0_1.length co9) y231 := (by rw [hw, Ny231.out]; exact HP14.1); clear HP14; have n0_ := Aside0.mk (hp_); have n1_ := Aside0.mk ((by rw [hw]; exact below_set (HB.out) GB5.out : Below w0.heap.size w0 w15)); have n2_ := Aside0.mk (Kept.of_grown (S := (fun k_ => P0_ k_)) hg (by repeat (first | (with_reducible first | exact HK.out | apply Kept.alloc | apply Kept.drewN | apply Kept.drew) | exact HK.out)) (fun k_ e_ => (HO_0.out.1 k_ e_))); replace HO_0 := n0_; replace HB := n1_; replace HK := n2_; clear n0_ n1_ n2_; clear hg hw hp_; have p8 : 0 ≤ (x5_1 : Int) := of_decide_eq_true (by first | (with_reducible assumption) | assumption); have q8 : (x5_1 : Int) < ((x0_1.length : Int) : Int) := of_decide_eq_true (by first | (with_reducible assumption) | assumption); obtain ⟨ce8, hcl8, hM8, hcc8, hfr8⟩ := Kd.R_elem HO_0.out z43 (x5_1 : Int) p8 q8; obtain rfl := k43_openM hM8; have hx8_0 : w15.cell? ⟨go5, (x5_1 : Int).toNat * 4, none⟩ = some (.int .i64 ((rd_T43 y231 x5_1).f0)) := hcc8 0 _ rfl; have hx8_1 : w15.cell? ⟨go5, (x5_1 : Int).toNat * 4 + 1, none⟩ = some (.int .i64 ((rd_T43 y231 x5_1).f1)) := hcc8 1 _ rfl; have hx8_2 : w15.cell? ⟨go5, (x5_1 : Int).toNat * 4 + 2, none⟩ = some (.int .i64 ((rd_T43 y231 x5_1).f2)) := hcc8 2 _ rfl; have hx8_3 : w15.cell? ⟨go5, (x5_1 : Int).toNat * 4 + 3, none⟩ = some (.int .i64 ((rd_T43 y231 x5_1).f3)) := hcc8 3 _ rfl; have hf8_0 : w15.frozen? ⟨go5, (x5_1 : Int).toNat * 4, none⟩ = false := hfr8 0; have hf8_1 : w15.frozen? ⟨go5, (x5_1 : Int).toNat * 4 + 1, none⟩ = false := hfr8 1; have hf8_2 : w15.frozen? ⟨go5, (x5_1 : Int).toNat * 4 + 2, none⟩ = false := hfr8 2; have hf8_3 : w15.frozen? ⟨go5, (x5_1 : Int).toNat * 4 + 3, none⟩ = false := hfr8 3; clear hcl8 hcc8 hfr8; (try clear hM8); replace p8 := eq_true p8; replace q8 := eq_true q8; have HX16 := Aside0.mk (show Kd.R k43 43 w15 w0.heap.size (fun k_ => (P0_ k_ ∨ w.heap.size ≤ k_)) (.slice (some ⟨go5, 0, none⟩) x0_1.length co9) y231 from (bR HO_0.out)); obtain ⟨ce16, hcl16, hM16, hcc16, hfr16⟩ := Kd.R_elem HX16.out z43 (x5_1 : Int) (of_decide_eq_true (by first | (with_reducible assumption) | assumption)) (by have h_ : (x5_1 : Int) < ((x0_1.length : Int) : Int) := of_decide_eq_true (by first | (with_reducible assumption) | assumption); first | exact h_ | (have e_ := (Kd.R_reads' HO_0.out).1; omega) | simpa using h_); obtain rfl := k43_openM hM16; have HP16 := Kd.R_seg HX16.out (x5_1 : Int) (of_decide_eq_true (by first | (with_reducible assumption) | assumption)) (by have h_ : (x5_1 : Int) < ((x0_1.length : Int) : Int) := of_decide_eq_true (by first | (with_reducible assumption) | assumption); first | exact h_ | (have e_ := (Kd.R_reads' HO_0.out).1; omega) | simpa using h_) (seg := [.int .i64 (wrap64 ((wrap64 ((wrap64 (x1_1 + 1)) + 1)) + 1))]) (j := 3) hcl16 hcc16 (show 4 ≤ 4 from by decide) (x' := (⟨(rd_T43 y231 x5_1).f0, (rd_T43 y231 x5_1).f1, (rd_T43 y231 x5_1).f2, wrap64 ((wrap64 ((wrap64 (x1_1 + 1)) + 1)) + 1)⟩ : S43)) (k43_mkM _ _ _ (⟨(rd_T43 y231 x5_1).f0, (rd_T43 y231 x5_1).f1, (rd_T43 y231 x5_1).f2, wrap64 ((wrap64 ((wrap64 (x1_1 + 1)) + 1)) + 1)⟩ : S43) ) (fun _ hk => hk); have hx16_3 := hcc16 3 _ rfl; (try simp only [show (k43).sz = 4 from rfl, Nat.mul_one, Nat.add_zero] at hx16_3); have hf16_3 := hfr16 3; (try simp only [show (k43).sz = 4 from rfl, Nat.mul_one, Nat.add_zero] at hf16_3); clear hcl16 hcc16 hfr16; (try clear hM16)) | ((with_reducible refine gate_store (t := 3) (p := 37) rfl ?_); refine store_event (t := 3) (p := 37) (v := ?vo_w17) (w1 := (w15.setCell ⟨go5, (x5_1 : Int).toNat * 4 + 3, none⟩ (.int .i64 (wrap64 ((wrap64 ((wrap64 (x1_1 + 1)) + 1)) + 1))))) ?hg ?ho ?hn ?hr ?_; (case ho => rfl); (case hg => rfl); (case hn => rfl); (case hr => first | (go_simp; done) | (go_simp; rfl)); intro w17 hw; have hg : w15.grownBy w17 (some go5) := (by rw [hw]; exact HP16.2); have hp_ : Kd.R k43 43 w17 w0.heap.size (fun k_ => (P0_ k_ ∨ w.heap.size ≤ k_)) (.slice (some ⟨go5, 0, none⟩) x0_1.length co9) y232 := (by rw [hw, Ny232.out]; exact HP16.1); clear HP16; have n0_ := Aside0.mk (hp_); have n1_ := Aside0.mk ((by rw [hw]; exact below_set (HB.out) GB5.out : Below w0.heap.size w0 w17)); have n2_ := Aside0.mk (Kept.of_grown (S := (fun k_ => P0_ k_)) hg (by repeat (first | (with_reducible first | exact HK.out | apply Kept.alloc | apply Kept.drewN | apply Kept.drew) | exact HK.out)) (fun k_ e_ => (HO_0.out.1 k_ e_))); replace HO_0 := n0_; replace HB := n1_; replace HK := n2_; clear n0_ n1_ n2_; clear hg hw hp_))
   go_roundg k1
   case measure => have := HK1.out; omega
   case rel => exact ⟨(y232), (wrap64 ((wrap64 ((wrap64 ((wrap64 (x1_1 + 1)) + 1)) + 1)) + 1)), (wrap64 (x5_1 + 1)), (by first | rfl | (simp; done) | (simp [*]; done)), (by first | rfl | (simp; done) | (simp [*]; done)), H', ⟨by have := HK1.out; omega⟩, ⟨bR HO_0.out⟩, ⟨by repeat (first | (with_reducible first | exact HK.out | apply Kept.alloc | apply Kept.drewN | apply Kept.drew) | exact HK.out)⟩, ⟨bw HB.out⟩⟩

/-! ### laws_markIntS: function 13 -/
def laws_markIntS.l0 : Nat → List Int → Int → Int → Option (Int × List Int)
 | 0, _, _, _ => none
 | k + 1, x0, x1, x5 => if x5 < (x0.length : Int) then (if 0 ≤ x5 then (laws_markIntS.l0 k (x0.set (x5 : Int).toNat x1) (wrap64 (x1 + 1)) (wrap64 (x5 + 1))) else (none)) else (some (x1, x0))
def laws_markIntS.f (k : Nat) (l0 : List Int) (a1 : Int) : Option (Int × List Int) := laws_markIntS.l0 k l0 a1 0
theorem laws_markIntS.mono_l : ∀ k, (∀ y0 y1 y2, LeO (laws_markIntS.l0 k y0 y1 y2) (laws_markIntS.l0 (k + 1) y0 y1 y2))
 | 0 => fun _ _ _ r h => by simp [laws_markIntS.l0] at h
 | k + 1 => by
  have ih0 := laws_markIntS.mono_l k
  ·intro y0 y1 y2
   unfold laws_markIntS.l0
   repeat' first
   | (with_reducible exact ih0 _ _ _)
   | (with_reducible exact LeO.refl _)
   | (with_reducible exact LeO.none _)
   | (with_reducible refine LeO.ite ?_ ?_)
   | (with_reducible refine LeO.bind ?_ (fun _ => ?_))
   | exact ih0 _ _ _
   | exact LeO.none _
   | refine LeO.ite ?_ ?_
   | refine LeO.bind ?_ (fun _ => ?_)
theorem laws_markIntS.mono : ∀ a0 a1 k, LeO (laws_markIntS.f k a0 a1) (laws_markIntS.f (k + 1) a0 a1) := by
 intro a0 a1 k
 have ih0 := laws_markIntS.mono_l k
 unfold laws_markIntS.f
 repeat' first
   | (with_reducible exact ih0 _ _ _)
   | (with_reducible exact LeO.refl _)
   | (with_reducible exact LeO.none _)
   | (with_reducible refine LeO.ite ?_ ?_)
   | (with_reducible refine LeO.bind ?_ (fun _ => ?_))
   | exact ih0 _ _ _
   | exact LeO.none _
   | refine LeO.ite ?_ ?_
   | refine LeO.bind ?_ (fun _ => ?_)
set_option maxHeartbeats 8000000 in
set_option maxRecDepth 100000 in
theorem laws_markIntS.calls (k : Nat) (P0_ : Nat → Prop) (u9000_ : Value) (l0 : List Int) (a1 : Int) (r1 : Int) (r2 : List Int) (w0 w : World) (hB : Below w0.heap.size w0 w) (ho0 : Kd.R (Kd.int .i64) 3 w w0.heap.size P0_ u9000_ l0) (h : laws_markIntS.f k l0 a1 = some (r1, r2)) :
  Calls Try.prog 13 #[u9000_, .int .i64 a1] w fun e w' => e = .returned (.int .i64 r1) ∧ Kd.R (Kd.int .i64) 3 w' w0.heap.size (fun k_ => (P0_ k_ ∨ w.heap.size ≤ k_)) u9000_ r2 ∧ Below w0.heap.size w0 w' ∧ Kept w w' (fun k_ => P0_ k_) := by
 have HO0 := Aside0.mk (show Kd.R (Kd.int .i64) 3 w w0.heap.size (fun k_ => (P0_ k_ ∨ w.heap.size ≤ k_)) u9000_ l0 from Kd.R_mono ho0 (fun k_ hk => (.inl hk)))
 have HK := Aside0.mk (Kept.refl w (fun k_ => P0_ k_))
 have HW0 := Aside0.mk hB.size
 have HB := Aside0.mk hB
 clear hB
 have H : (laws_markIntS.l0 k l0 a1 0) = some (r1, r2) := h
 clear h
 have H' := Aside0.mk H
 clear H
 go_enter Try.func13, Try.ntmps13
 go_wp2
 go_loopg [1, 5] k (fun kq v1 v5 w' => ∃ (x0_1 : List Int) (x1_1 : Int) (x5_1 : Int), v1 = .int .i64 x1_1 ∧ v5 = .int .i64 x5_1 ∧ Aside0 (laws_markIntS.l0 kq x0_1 x1_1 x5_1 = some (r1, r2)) ∧ Aside0 (kq ≤ k) ∧ Aside0 (Kd.R (Kd.int .i64) 3 w' w0.heap.size (fun k_ => (P0_ k_ ∨ w.heap.size ≤ k_)) u9000_ x0_1) ∧ Aside0 (Kept w w' (fun k_ => P0_ k_)) ∧ Aside0 (Below w0.heap.size w0 w'))
 case atStart => exact ⟨(l0), (a1), (0), (by first | rfl | (simp; done) | (simp [*]; done)), (by first | rfl | (simp; done) | (simp [*]; done)), H', ⟨Nat.le_refl _⟩, ⟨bR HO0.out⟩, ⟨by repeat (first | (with_reducible first | exact HK.out | apply Kept.alloc | apply Kept.drewN | apply Kept.drew) | exact HK.out)⟩, ⟨bw HB.out⟩⟩
 case round =>
  clear H'
  try clear c1
  try clear p2
  obtain ⟨x0_1, x1_1, x5_1, rfl, rfl, HA, HK1, HO_0, HK, HB⟩ := hrel
  cases gk with
  | zero => exact absurd HA.out (by simp [laws_markIntS.l0])
  | succ k1 =>
   have H := HA.out
   clear HA
   simp only [laws_markIntS.l0] at H
   by_cases c3 : x5_1 < (x0_1.length : Int)
   rotate_left
   ·rw [if_neg c3] at H
    have c3b0 : decide (x5_1 < (x0_1.length : Int)) = false := decide_eq_false c3
    clear c3
    simp only [Option.some.injEq, Prod.mk.injEq] at H
    obtain ⟨rfl, rfl⟩ := H
    obtain ⟨Ao9, co9, eo9⟩ := Kd.R_slice HO_0.out
    subst eo9
    go_wp2
    go_ret
    exact ⟨by first | rfl | (simp [errW_none, errW_some] <;> rfl) | (simp [*, errW_none, errW_some] <;> rfl), by (with_reducible repeat (first | apply Kd.R_alloc | apply Kd.R_drewN | apply Kd.R_drew)); exact HO_0.out, bw HB.out, by repeat (first | (with_reducible first | exact HK.out | apply Kept.alloc | apply Kept.drewN | apply Kept.drew) | exact HK.out)⟩
   rw [if_pos c3] at H
   have c3b0 : decide (x5_1 < (x0_1.length : Int)) = true := decide_eq_true c3
   clear c3
   by_cases c4 : 0 ≤ x5_1
   rotate_left
   ·rw [if_neg c4] at H
    exact absurd H (by simp)
   rw [if_pos c4] at H
   have c4b0 : decide (0 ≤ x5_1) = true := decide_eq_true c4
   clear c4
   obtain ⟨y233, hy233⟩ : ∃ y_ : List Int, y_ = (x0_1.set (x5_1 : Int).toNat x1_1) := ⟨_, rfl⟩
   replace H : (laws_markIntS.l0 k1 y233 (wrap64 (x1_1 + 1)) (wrap64 (x5_1 + 1))) = some (r1, r2) := by first | (rw [hy233]; with_reducible exact H) | (have H2_ := (Option.bind_some _ _).symm.trans H; rw [hy233]; with_reducible exact H2_) | (have H2_ := (Option.bind_some _ _).symm.trans H; with_reducible exact H2_) | with_reducible exact H | (rw [hy233]; exact H) | exact H
   have Ny233 := Aside0.mk hy233
   clear hy233
   have H' := Aside0.mk H
   clear H
   obtain ⟨Ao6, co6, eo6⟩ := Kd.R_slice HO_0.out
   subst eo6
   have p5 : 0 ≤ (x5_1 : Int) := of_decide_eq_true (by first | (with_reducible assumption) | assumption)
   have q5 : (x5_1 : Int) < ((x0_1.length : Int) : Int) := of_decide_eq_true (by first | (with_reducible assumption) | assumption)
   obtain ⟨go5, co5, eo5, gb5, gl5, cl5, HG5⟩ := Kd.R_form HO_0.out (by omega)
   (first | cases eo5 | (injection eo5 with ea_ en_ ec_; (first | subst ea_ | (injection ea_ with ea_; subst ea_)); subst ec_; clear en_))
   have GB5 := Aside0.mk gb5
   have GG5 := Aside0.mk HG5
   clear gb5 gl5 HG5
   have HMgo5 := Aside0.mk (show (P0_ go5 ∨ w.heap.size ≤ go5) from (HO_0.out.1 _ rfl))
   obtain ⟨hx5_0, hf5_0⟩ := Kd.R_celln 0 HO_0.out (x5_1 : Int) p5 q5
   replace p5 := eq_true p5
   replace q5 := eq_true q5
   have HP7 := Kd.R_putg HO_0.out (x5_1 : Int) x1_1
   go_wp2_with (first | ((with_reducible refine gate_store (t := 3) (p := 15) rfl ?_); refine store_event (t := 3) (p := 15) (v := ?vo_w8) (w1 := (wr.setCell ⟨go5, (x5_1 : Int).toNat, none⟩ (.int .i64 x1_1))) ?hg ?ho ?hn ?hr ?_; (case ho => rfl); (case hg => rfl); (case hn => rfl); (case hr => first | (go_simp; done) | (go_simp; rfl)); intro w8 hw; have hg : wr.grownBy w8 (some go5) := (by rw [hw]; exact HP7.2); have hp_ : Kd.R (Kd.int .i64) 3 w8 w0.heap.size (fun k_ => (P0_ k_ ∨ w.heap.size ≤ k_)) (.slice (some ⟨go5, 0, none⟩) x0_1.length co6) y233 := (by rw [hw, Ny233.out]; exact HP7.1); clear HP7; have n0_ := Aside0.mk (hp_); have n1_ := Aside0.mk ((by rw [hw]; exact below_set (HB.out) GB5.out : Below w0.heap.size w0 w8)); have n2_ := Aside0.mk (Kept.of_grown (S := (fun k_ => P0_ k_)) hg (by repeat (first | (with_reducible first | exact HK.out | apply Kept.alloc | apply Kept.drewN | apply Kept.drew) | exact HK.out)) (fun k_ e_ => (HO_0.out.1 k_ e_))); replace HO_0 := n0_; replace HB := n1_; replace HK := n2_; clear n0_ n1_ n2_; clear hg hw hp_))
   go_roundg k1
   case measure => have := HK1.out; omega
   case rel => exact ⟨(y233), (wrap64 (x1_1 + 1)), (wrap64 (x5_1 + 1)), (by first | rfl | (simp; done) | (simp [*]; done)), (by first | rfl | (simp; done) | (simp [*]; done)), H', ⟨by have := HK1.out; omega⟩, ⟨bR HO_0.out⟩, ⟨by repeat (first | (with_reducible first | exact HK.out | apply Kept.alloc | apply Kept.drewN | apply Kept.drew) | exact HK.out)⟩, ⟨bw HB.out⟩⟩

/-! ### laws_heldIntS: function 14 -/
def laws_heldIntS.l0 : Nat → List Int → Int → Int → Option (Int)
 | 0, _, _, _ => none
 | k + 1, x0, x1, x5 => if x5 < (x0.length : Int) then (if 0 ≤ x5 then (if (rd x0 x5) = x1 then (laws_heldIntS.l0 k x0 (wrap64 (x1 + 1)) (wrap64 (x5 + 1))) else (some (-1))) else (none)) else (some x1)
def laws_heldIntS.f (k : Nat) (l0 : List Int) (a1 : Int) : Option (Int) := laws_heldIntS.l0 k l0 a1 0
theorem laws_heldIntS.mono_l : ∀ k, (∀ y0 y1 y2, LeO (laws_heldIntS.l0 k y0 y1 y2) (laws_heldIntS.l0 (k + 1) y0 y1 y2))
 | 0 => fun _ _ _ r h => by simp [laws_heldIntS.l0] at h
 | k + 1 => by
  have ih0 := laws_heldIntS.mono_l k
  ·intro y0 y1 y2
   unfold laws_heldIntS.l0
   repeat' first
   | (with_reducible exact ih0 _ _ _)
   | (with_reducible exact LeO.refl _)
   | (with_reducible exact LeO.none _)
   | (with_reducible refine LeO.ite ?_ ?_)
   | (with_reducible refine LeO.bind ?_ (fun _ => ?_))
   | exact ih0 _ _ _
   | exact LeO.none _
   | refine LeO.ite ?_ ?_
   | refine LeO.bind ?_ (fun _ => ?_)
theorem laws_heldIntS.mono : ∀ a0 a1 k, LeO (laws_heldIntS.f k a0 a1) (laws_heldIntS.f (k + 1) a0 a1) := by
 intro a0 a1 k
 have ih0 := laws_heldIntS.mono_l k
 unfold laws_heldIntS.f
 repeat' first
   | (with_reducible exact ih0 _ _ _)
   | (with_reducible exact LeO.refl _)
   | (with_reducible exact LeO.none _)
   | (with_reducible refine LeO.ite ?_ ?_)
   | (with_reducible refine LeO.bind ?_ (fun _ => ?_))
   | exact ih0 _ _ _
   | exact LeO.none _
   | refine LeO.ite ?_ ?_
   | refine LeO.bind ?_ (fun _ => ?_)
set_option maxHeartbeats 8000000 in
set_option maxRecDepth 100000 in
theorem laws_heldIntS.calls (k : Nat) (A0 : Option Addr) (c0 : Nat) (l0 : List Int) (a1 : Int) (r : Int) (w : World) (hr0 : Kd.C (Kd.int .i64) w A0 l0.length l0) (hc0 : l0.length ≤ c0) (h : laws_heldIntS.f k l0 a1 = some r) :
  Calls Try.prog 14 #[.slice A0 l0.length c0, .int .i64 a1] w fun e w' => e = .returned (.int .i64 r) ∧ Drawn0 w w' := by
 have HR0 := Aside0.mk hr0
 have HC0 := Aside0.mk hc0
 clear hr0 hc0
 have H : (laws_heldIntS.l0 k l0 a1 0) = some r := h
 clear h
 have H' := Aside0.mk H
 clear H
 go_enter Try.func14, Try.ntmps14
 go_wp2
 go_loopg [1, 5] k (fun kq v1 v5 w' => ∃ (x1_1 : Int) (x5_1 : Int), v1 = .int .i64 x1_1 ∧ v5 = .int .i64 x5_1 ∧ Aside0 (laws_heldIntS.l0 kq l0 x1_1 x5_1 = some r) ∧ Aside0 (kq ≤ k) ∧ Drawn0 w w')
 case atStart => exact ⟨(a1), (0), (by first | rfl | (simp; done) | (simp [*]; done)), (by first | rfl | (simp; done) | (simp [*]; done)), H', ⟨Nat.le_refl _⟩, by repeat (first | exact Drawn0.refl _ | apply Drawn0.step)⟩
 case round =>
  clear H'
  try clear c1
  try clear p2
  obtain ⟨x1_1, x5_1, rfl, rfl, HA, HK1, ⟨m1, rfl⟩⟩ := hrel
  cases gk with
  | zero => exact absurd HA.out (by simp [laws_heldIntS.l0])
  | succ k1 =>
   have H := HA.out
   clear HA
   simp only [laws_heldIntS.l0] at H
   by_cases c3 : x5_1 < (l0.length : Int)
   rotate_left
   ·rw [if_neg c3] at H
    have c3b0 : decide (x5_1 < (l0.length : Int)) = false := decide_eq_false c3
    clear c3
    obtain rfl := Option.some.inj H
    go_wp2
    go_ret
    exact ⟨by first | rfl | (simp; done) | (simp [*]; done), by repeat (first | exact Drawn0.refl _ | apply Drawn0.step)⟩
   rw [if_pos c3] at H
   have c3b0 : decide (x5_1 < (l0.length : Int)) = true := decide_eq_true c3
   clear c3
   by_cases c4 : 0 ≤ x5_1
   rotate_left
   ·rw [if_neg c4] at H
    exact absurd H (by simp)
   rw [if_pos c4] at H
   have c4b0 : decide (0 ≤ x5_1) = true := decide_eq_true c4
   clear c4
   by_cases c5 : (rd l0 x5_1) = x1_1
   rotate_left
   ·rw [if_neg c5] at H
    have c5b0 : ((rd l0 x5_1) == x1_1) = false := beq_eq_false_iff_ne.mpr c5
    have c5b1 : ((rd l0 x5_1) != x1_1) = true := bne_iff_ne.mpr c5
    obtain rfl := Option.some.inj H
    have p234 : 0 ≤ (x5_1 : Int) := of_decide_eq_true (by first | (with_reducible assumption) | assumption)
    have q234 : x5_1 < (l0.length : Int) := of_decide_eq_true (by first | (with_reducible assumption) | assumption)
    obtain ⟨ad234, e234, hx234_0⟩ := Kd.at_int HR0.out x5_1 p234 q234
    cases e234
    replace p234 := eq_true p234
    replace q234 := eq_true q234
    go_wp2
    go_ret
    exact ⟨by first | rfl | (simp; done) | (simp [*]; done), by repeat (first | exact Drawn0.refl _ | apply Drawn0.step)⟩
   rw [if_pos c5] at H
   have c5b0 : ((rd l0 x5_1) == x1_1) = true := beq_iff_eq.mpr c5
   have c5b1 : ((rd l0 x5_1) != x1_1) = false := bne_eq_false_iff_eq.mpr c5
   clear c5
   have H' := Aside0.mk H
   clear H
   have p234 : 0 ≤ (x5_1 : Int) := of_decide_eq_true (by first | (with_reducible assumption) | assumption)
   have q234 : x5_1 < (l0.length : Int) := of_decide_eq_true (by first | (with_reducible assumption) | assumption)
   obtain ⟨ad234, e234, hx234_0⟩ := Kd.at_int HR0.out x5_1 p234 q234
   cases e234
   replace p234 := eq_true p234
   replace q234 := eq_true q234
   go_wp2
   go_roundg k1
   case measure => have := HK1.out; omega
   case rel => exact ⟨(wrap64 (x1_1 + 1)), (wrap64 (x5_1 + 1)), (by first | rfl | (simp; done) | (simp [*]; done)), (by first | rfl | (simp; done) | (simp [*]; done)), H', ⟨by have := HK1.out; omega⟩, by repeat (first | exact Drawn0.refl _ | apply Drawn0.step)⟩

end Go.Proofs.Ytcohgnafealcoaa.X
