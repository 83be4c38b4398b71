-- Written by a program of this session (wip/gen/xp.py, over the kit's printer). Not trusted: Lean checks it.
import Derived.Test.YtafdeppeacmpdaaX0
import Derived.Test.YtafdeppeacmpdaaXf18
import Derived.Test.YtafdeppeacmpdaaXf19
import Derived.Test.YtafdeppeacmpdaaXf37
import Derived.Test.YtafdeppeacmpdaaXf50
import Derived.Test.YtafdeppeacmpdaaXf52
namespace Go.Proofs.Ytafdeppeacmpdaa.X
open Go.RowKit Go.Proofs.YtafdeppeacmpdaaW.PrintWords Go.Proofs.YtafdeppeacmpdaaW.PrintLast Go.Proofs.YtafdeppeacmpdaaW.PrintMore
attribute [local go_sem] max2_int min2_int max_two min_two max_three min_three max_four min_four   -- for this text's walks alone
set_option linter.unusedVariables false
set_option linter.unusedSimpArgs false

/-! ### laws_FnExactNewConsole: function 12 -/
mutual
def laws_FnExactNewConsole.j0 : Nat → Bool → Bool → Bool → Int → Int → Int → List (S148) → List (S150) → Int → Int → Int → List (S137) → List (S135) → ByteArray → ByteArray → Int → Int → Int → Int → List (S137) → List (S135) → Int → Int → Int → List (S137) → List (S135) → ByteArray → ByteArray → Int → Option (Bool)
 | 0, _, _, _, _, _, _, _, _, _, _, _, _, _, _, _, _, _, _, _, _, _, _, _, _, _, _, _, _, _ => none
 | k + 1, x5, x8, x40, x944000, x944001, x944002, x944003, x944004, x968000, x968001, x968002, x968003, x968004, x968005, x968006, x968007, x978000, x978001, x978002, x978003, x978004, x992000, x992001, x992002, x992003, x992004, x992005, x992006, x992007 => if x40 = true then (some false) else ((laws_toDispatcher.f k x944000 x944001 x944002 x944003 x944004).bind fun bt993 => ((laws_eqDispatcher.f k x978000 x978001 x978002 x978003 x978004 bt993.1 bt993.2.1 bt993.2.2.1 bt993.2.2.2.1 bt993.2.2.2.2).bind fun t1002 => (if t1002 = true then ((laws_markDispatcher.f k x978000 x978001 x978002 x978003 x978004 1).bind fun bt1003 => (if bt1003.1 < 0 then (laws_FnExactNewConsole.j1 k x5 true x944000 x944001 x944002 x944003 x944004 x968000 x968001 x968002 x968003 x968004 x968005 x968006 x968007 x992000 x992001 x992002 x992003 x992004 x992005 x992006 x992007) else ((laws_eqConsole.f k x992000 x992001 x992002 x992003 x992004 x992005 x992006 x992007 x968000 x968001 x968002 x968003 x968004 x968005 x968006 x968007).bind fun t1006 => (if t1006 = true then (laws_FnExactNewConsole.j1 k x5 (x8 != x5) x944000 x944001 x944002 x944003 x944004 x968000 x968001 x968002 x968003 x968004 x968005 x968006 x968007 x992000 x992001 x992002 x992003 x992004 x992005 x992006 x992007) else (laws_FnExactNewConsole.j1 k x5 true x944000 x944001 x944002 x944003 x944004 x968000 x968001 x968002 x968003 x968004 x968005 x968006 x968007 x992000 x992001 x992002 x992003 x992004 x992005 x992006 x992007))))) else (some false))))
def laws_FnExactNewConsole.j1 : Nat → Bool → Bool → Int → Int → Int → List (S148) → List (S150) → Int → Int → Int → List (S137) → List (S135) → ByteArray → ByteArray → Int → Int → Int → Int → List (S137) → List (S135) → ByteArray → ByteArray → Int → Option (Bool)
 | 0, _, _, _, _, _, _, _, _, _, _, _, _, _, _, _, _, _, _, _, _, _, _, _ => none
 | k + 1, x5, x61, x944000, x944001, x944002, x944003, x944004, x968000, x968001, x968002, x968003, x968004, x968005, x968006, x968007, x992000, x992001, x992002, x992003, x992004, x992005, x992006, x992007 => if x61 = true then (some false) else ((laws_markConsole.f k x992000 x992001 x992002 x992003 x992004 x992005 x992006 x992007 1).bind fun bt1007 => ((laws_heldConsole.f k x992000 x992001 x992002 bt1007.2.1 bt1007.2.2 x992005 x992006 x992007 1).bind fun t1010 => (if t1010 < 0 then (some false) else (if t1010 = bt1007.1 then ((laws_toDispatcher.f k x944000 x944001 x944002 x944003 x944004).bind fun bt1011 => ((impl_NewConsole.f k bt1011.1 bt1011.2.1 bt1011.2.2.1 bt1011.2.2.2.1 bt1011.2.2.2.2).bind fun bt1020 => ((laws_eqConsole.f k bt1020.1 bt1020.2.1 bt1020.2.2.1 bt1020.2.2.2.1 bt1020.2.2.2.2.1 bt1020.2.2.2.2.2.1 bt1020.2.2.2.2.2.2.1 bt1020.2.2.2.2.2.2.2.1 x968000 x968001 x968002 x968003 x968004 x968005 x968006 x968007).bind fun t1034 => (if t1034 = true then (laws_FnExactNewConsole.j2 k bt1007.1 (bt1020.2.2.2.2.2.2.2.2 != x5) x992000 x992001 x992002 bt1007.2.1 bt1007.2.2 x992005 x992006 x992007) else (laws_FnExactNewConsole.j2 k bt1007.1 true x992000 x992001 x992002 bt1007.2.1 bt1007.2.2 x992005 x992006 x992007))))) else (some false)))))
def laws_FnExactNewConsole.j2 : Nat → Int → Bool → Int → Int → Int → List (S137) → List (S135) → ByteArray → ByteArray → Int → Option (Bool)
 | 0, _, _, _, _, _, _, _, _, _, _ => none
 | k + 1, x10, x87, x992000, x992001, x992002, x992003, x992004, x992005, x992006, x992007 => if x87 = true then (some false) else ((laws_heldConsole.f k x992000 x992001 x992002 x992003 x992004 x992005 x992006 x992007 1).bind fun t1035 => (if t1035 < 0 then (some false) else (if t1035 = x10 then (some true) else (some false))))
end
def laws_FnExactNewConsole.f (k : Nat) (a0_0 : Int) (a0_1 : Int) (a0_2 : Int) (l0_3 : List (S148)) (l0_4 : List (S150)) : Option (Bool) := (laws_szDispatcher.f a0_0 a0_1 a0_2 l0_3 l0_4 1048576).bind fun t944 => (if t944 < 0 then (some true) else ((laws_toDispatcher.f k a0_0 a0_1 a0_2 l0_3 l0_4).bind fun bt945 => ((spec_NewConsole.f k bt945.1 bt945.2.1 bt945.2.2.1 bt945.2.2.2.1 bt945.2.2.2.2).bind fun bt954 => ((laws_toDispatcher.f k a0_0 a0_1 a0_2 l0_3 l0_4).bind fun bt968 => ((impl_NewConsole.f k bt968.1 bt968.2.1 bt968.2.2.1 bt968.2.2.2.1 bt968.2.2.2.2).bind fun bt978 => ((laws_eqConsole.f k bt978.1 bt978.2.1 bt978.2.2.1 bt978.2.2.2.1 bt978.2.2.2.2.1 bt978.2.2.2.2.2.1 bt978.2.2.2.2.2.2.1 bt978.2.2.2.2.2.2.2.1 bt954.1 bt954.2.1 bt954.2.2.1 bt954.2.2.2.1 bt954.2.2.2.2.1 bt954.2.2.2.2.2.1 bt954.2.2.2.2.2.2.1 bt954.2.2.2.2.2.2.2.1).bind fun t992 => (if t992 = true then (laws_FnExactNewConsole.j0 k bt954.2.2.2.2.2.2.2.2 bt978.2.2.2.2.2.2.2.2 (bt978.2.2.2.2.2.2.2.2 != bt954.2.2.2.2.2.2.2.2) a0_0 a0_1 a0_2 l0_3 l0_4 bt954.1 bt954.2.1 bt954.2.2.1 bt954.2.2.2.1 bt954.2.2.2.2.1 bt954.2.2.2.2.2.1 bt954.2.2.2.2.2.2.1 bt954.2.2.2.2.2.2.2.1 bt968.1 bt968.2.1 bt968.2.2.1 bt968.2.2.2.1 bt968.2.2.2.2 bt978.1 bt978.2.1 bt978.2.2.1 bt978.2.2.2.1 bt978.2.2.2.2.1 bt978.2.2.2.2.2.1 bt978.2.2.2.2.2.2.1 bt978.2.2.2.2.2.2.2.1) else (laws_FnExactNewConsole.j0 k bt954.2.2.2.2.2.2.2.2 bt978.2.2.2.2.2.2.2.2 true a0_0 a0_1 a0_2 l0_3 l0_4 bt954.1 bt954.2.1 bt954.2.2.1 bt954.2.2.2.1 bt954.2.2.2.2.1 bt954.2.2.2.2.2.1 bt954.2.2.2.2.2.2.1 bt954.2.2.2.2.2.2.2.1 bt968.1 bt968.2.1 bt968.2.2.1 bt968.2.2.2.1 bt968.2.2.2.2 bt978.1 bt978.2.1 bt978.2.2.1 bt978.2.2.2.1 bt978.2.2.2.2.1 bt978.2.2.2.2.2.1 bt978.2.2.2.2.2.2.1 bt978.2.2.2.2.2.2.2.1))))))))
theorem laws_FnExactNewConsole.mono_l : ∀ k, (∀ y0 y1 y2 y3 y4 y5 y6 y7 y8 y9 y10 y11 y12 y13 y14 y15 y16 y17 y18 y19 y20 y21 y22 y23 y24 y25 y26 y27 y28, LeO (laws_FnExactNewConsole.j0 k y0 y1 y2 y3 y4 y5 y6 y7 y8 y9 y10 y11 y12 y13 y14 y15 y16 y17 y18 y19 y20 y21 y22 y23 y24 y25 y26 y27 y28) (laws_FnExactNewConsole.j0 (k + 1) y0 y1 y2 y3 y4 y5 y6 y7 y8 y9 y10 y11 y12 y13 y14 y15 y16 y17 y18 y19 y20 y21 y22 y23 y24 y25 y26 y27 y28)) ∧ (∀ y0 y1 y2 y3 y4 y5 y6 y7 y8 y9 y10 y11 y12 y13 y14 y15 y16 y17 y18 y19 y20 y21 y22, LeO (laws_FnExactNewConsole.j1 k y0 y1 y2 y3 y4 y5 y6 y7 y8 y9 y10 y11 y12 y13 y14 y15 y16 y17 y18 y19 y20 y21 y22) (laws_FnExactNewConsole.j1 (k + 1) y0 y1 y2 y3 y4 y5 y6 y7 y8 y9 y10 y11 y12 y13 y14 y15 y16 y17 y18 y19 y20 y21 y22)) ∧ (∀ y0 y1 y2 y3 y4 y5 y6 y7 y8 y9, LeO (laws_FnExactNewConsole.j2 k y0 y1 y2 y3 y4 y5 y6 y7 y8 y9) (laws_FnExactNewConsole.j2 (k + 1) y0 y1 y2 y3 y4 y5 y6 y7 y8 y9))
 | 0 => ⟨fun _ _ _ _ _ _ _ _ _ _ _ _ _ _ _ _ _ _ _ _ _ _ _ _ _ _ _ _ _ r h => by simp [laws_FnExactNewConsole.j0] at h, fun _ _ _ _ _ _ _ _ _ _ _ _ _ _ _ _ _ _ _ _ _ _ _ r h => by simp [laws_FnExactNewConsole.j1] at h, fun _ _ _ _ _ _ _ _ _ _ r h => by simp [laws_FnExactNewConsole.j2] at h⟩
 | k + 1 => by
  obtain ⟨ih0, ih1, ih2⟩ := laws_FnExactNewConsole.mono_l k
  refine ⟨?_, ?_, ?_⟩
  ·intro y0 y1 y2 y3 y4 y5 y6 y7 y8 y9 y10 y11 y12 y13 y14 y15 y16 y17 y18 y19 y20 y21 y22 y23 y24 y25 y26 y27 y28
   unfold laws_FnExactNewConsole.j0
   repeat' first
   | (with_reducible exact ih0 _ _ _ _ _ _ _ _ _ _ _ _ _ _ _ _ _ _ _ _ _ _ _ _ _ _ _ _ _)
   | (with_reducible exact ih1 _ _ _ _ _ _ _ _ _ _ _ _ _ _ _ _ _ _ _ _ _ _ _)
   | (with_reducible exact ih2 _ _ _ _ _ _ _ _ _ _)
   | (with_reducible exact impl_NewConsole.mono _ _ _ _ _ _)
   | (with_reducible exact laws_eqConsole.mono _ _ _ _ _ _ _ _ _ _ _ _ _ _ _ _ _)
   | (with_reducible exact laws_eqDispatcher.mono _ _ _ _ _ _ _ _ _ _ _)
   | (with_reducible exact laws_heldConsole.mono _ _ _ _ _ _ _ _ _ _)
   | (with_reducible exact laws_markConsole.mono _ _ _ _ _ _ _ _ _ _)
   | (with_reducible exact laws_markDispatcher.mono _ _ _ _ _ _ _)
   | (with_reducible exact laws_toDispatcher.mono _ _ _ _ _ _)
   | (with_reducible exact spec_NewConsole.mono _ _ _ _ _ _)
   | (with_reducible exact LeO.refl _)
   | (with_reducible exact LeO.none _)
   | (with_reducible refine LeO.ite ?_ ?_)
   | (with_reducible refine LeO.bind ?_ (fun _ => ?_))
   | exact ih0 _ _ _ _ _ _ _ _ _ _ _ _ _ _ _ _ _ _ _ _ _ _ _ _ _ _ _ _ _
   | exact ih1 _ _ _ _ _ _ _ _ _ _ _ _ _ _ _ _ _ _ _ _ _ _ _
   | exact ih2 _ _ _ _ _ _ _ _ _ _
   | exact impl_NewConsole.mono _ _ _ _ _ _
   | exact laws_eqConsole.mono _ _ _ _ _ _ _ _ _ _ _ _ _ _ _ _ _
   | exact laws_eqDispatcher.mono _ _ _ _ _ _ _ _ _ _ _
   | exact laws_heldConsole.mono _ _ _ _ _ _ _ _ _ _
   | exact laws_markConsole.mono _ _ _ _ _ _ _ _ _ _
   | exact laws_markDispatcher.mono _ _ _ _ _ _ _
   | exact laws_toDispatcher.mono _ _ _ _ _ _
   | exact spec_NewConsole.mono _ _ _ _ _ _
   | exact LeO.none _
   | refine LeO.ite ?_ ?_
   | refine LeO.bind ?_ (fun _ => ?_)
  ·intro y0 y1 y2 y3 y4 y5 y6 y7 y8 y9 y10 y11 y12 y13 y14 y15 y16 y17 y18 y19 y20 y21 y22
   unfold laws_FnExactNewConsole.j1
   repeat' first
   | (with_reducible exact ih0 _ _ _ _ _ _ _ _ _ _ _ _ _ _ _ _ _ _ _ _ _ _ _ _ _ _ _ _ _)
   | (with_reducible exact ih1 _ _ _ _ _ _ _ _ _ _ _ _ _ _ _ _ _ _ _ _ _ _ _)
   | (with_reducible exact ih2 _ _ _ _ _ _ _ _ _ _)
   | (with_reducible exact impl_NewConsole.mono _ _ _ _ _ _)
   | (with_reducible exact laws_eqConsole.mono _ _ _ _ _ _ _ _ _ _ _ _ _ _ _ _ _)
   | (with_reducible exact laws_eqDispatcher.mono _ _ _ _ _ _ _ _ _ _ _)
   | (with_reducible exact laws_heldConsole.mono _ _ _ _ _ _ _ _ _ _)
   | (with_reducible exact laws_markConsole.mono _ _ _ _ _ _ _ _ _ _)
   | (with_reducible exact laws_markDispatcher.mono _ _ _ _ _ _ _)
   | (with_reducible exact laws_toDispatcher.mono _ _ _ _ _ _)
   | (with_reducible exact spec_NewConsole.mono _ _ _ _ _ _)
   | (with_reducible exact LeO.refl _)
   | (with_reducible exact LeO.none _)
   | (with_reducible refine LeO.ite ?_ ?_)
   | (with_reducible refine LeO.bind ?_ (fun _ => ?_))
   | exact ih0 _ _ _ _ _ _ _ _ _ _ _ _ _ _ _ _ _ _ _ _ _ _ _ _ _ _ _ _ _
   | exact ih1 _ _ _ _ _ _ _ _ _ _ _ _ _ _ _ _ _ _ _ _ _ _ _
   | exact ih2 _ _ _ _ _ _ _ _ _ _
   | exact impl_NewConsole.mono _ _ _ _ _ _
   | exact laws_eqConsole.mono _ _ _ _ _ _ _ _ _ _ _ _ _ _ _ _ _
   | exact laws_eqDispatcher.mono _ _ _ _ _ _ _ _ _ _ _
   | exact laws_heldConsole.mono _ _ _ _ _ _ _ _ _ _
   | exact laws_markConsole.mono _ _ _ _ _ _ _ _ _ _
   | exact laws_markDispatcher.mono _ _ _ _ _ _ _
   | exact laws_toDispatcher.mono _ _ _ _ _ _
   | exact spec_NewConsole.mono _ _ _ _ _ _
   | exact LeO.none _
   | refine LeO.ite ?_ ?_
   | refine LeO.bind ?_ (fun _ => ?_)
  ·intro y0 y1 y2 y3 y4 y5 y6 y7 y8 y9
   unfold laws_FnExactNewConsole.j2
   repeat' first
   | (with_reducible exact ih0 _ _ _ _ _ _ _ _ _ _ _ _ _ _ _ _ _ _ _ _ _ _ _ _ _ _ _ _ _)
   | (with_reducible exact ih1 _ _ _ _ _ _ _ _ _ _ _ _ _ _ _ _ _ _ _ _ _ _ _)
   | (with_reducible exact ih2 _ _ _ _ _ _ _ _ _ _)
   | (with_reducible exact impl_NewConsole.mono _ _ _ _ _ _)
   | (with_reducible exact laws_eqConsole.mono _ _ _ _ _ _ _ _ _ _ _ _ _ _ _ _ _)
   | (with_reducible exact laws_eqDispatcher.mono _ _ _ _ _ _ _ _ _ _ _)
   | (with_reducible exact laws_heldConsole.mono _ _ _ _ _ _ _ _ _ _)
   | (with_reducible exact laws_markConsole.mono _ _ _ _ _ _ _ _ _ _)
   | (with_reducible exact laws_markDispatcher.mono _ _ _ _ _ _ _)
   | (with_reducible exact laws_toDispatcher.mono _ _ _ _ _ _)
   | (with_reducible exact spec_NewConsole.mono _ _ _ _ _ _)
   | (with_reducible exact LeO.refl _)
   | (with_reducible exact LeO.none _)
   | (with_reducible refine LeO.ite ?_ ?_)
   | (with_reducible refine LeO.bind ?_ (fun _ => ?_))
   | exact ih0 _ _ _ _ _ _ _ _ _ _ _ _ _ _ _ _ _ _ _ _ _ _ _ _ _ _ _ _ _
   | exact ih1 _ _ _ _ _ _ _ _ _ _ _ _ _ _ _ _ _ _ _ _ _ _ _
   | exact ih2 _ _ _ _ _ _ _ _ _ _
   | exact impl_NewConsole.mono _ _ _ _ _ _
   | exact laws_eqConsole.mono _ _ _ _ _ _ _ _ _ _ _ _ _ _ _ _ _
   | exact laws_eqDispatcher.mono _ _ _ _ _ _ _ _ _ _ _
   | exact laws_heldConsole.mono _ _ _ _ _ _ _ _ _ _
   | exact laws_markConsole.mono _ _ _ _ _ _ _ _ _ _
   | exact laws_markDispatcher.mono _ _ _ _ _ _ _
   | exact laws_toDispatcher.mono _ _ _ _ _ _
   | exact spec_NewConsole.mono _ _ _ _ _ _
   | exact LeO.none _
   | refine LeO.ite ?_ ?_
   | refine LeO.bind ?_ (fun _ => ?_)
theorem laws_FnExactNewConsole.mono : ∀ a0 a1 a2 a3 a4 k, LeO (laws_FnExactNewConsole.f k a0 a1 a2 a3 a4) (laws_FnExactNewConsole.f (k + 1) a0 a1 a2 a3 a4) := by
 intro a0 a1 a2 a3 a4 k
 obtain ⟨ih0, ih1, ih2⟩ := laws_FnExactNewConsole.mono_l k
 unfold laws_FnExactNewConsole.f
 repeat' first
   | (with_reducible exact ih0 _ _ _ _ _ _ _ _ _ _ _ _ _ _ _ _ _ _ _ _ _ _ _ _ _ _ _ _ _)
   | (with_reducible exact ih1 _ _ _ _ _ _ _ _ _ _ _ _ _ _ _ _ _ _ _ _ _ _ _)
   | (with_reducible exact ih2 _ _ _ _ _ _ _ _ _ _)
   | (with_reducible exact impl_NewConsole.mono _ _ _ _ _ _)
   | (with_reducible exact laws_eqConsole.mono _ _ _ _ _ _ _ _ _ _ _ _ _ _ _ _ _)
   | (with_reducible exact laws_eqDispatcher.mono _ _ _ _ _ _ _ _ _ _ _)
   | (with_reducible exact laws_heldConsole.mono _ _ _ _ _ _ _ _ _ _)
   | (with_reducible exact laws_markConsole.mono _ _ _ _ _ _ _ _ _ _)
   | (with_reducible exact laws_markDispatcher.mono _ _ _ _ _ _ _)
   | (with_reducible exact laws_toDispatcher.mono _ _ _ _ _ _)
   | (with_reducible exact spec_NewConsole.mono _ _ _ _ _ _)
   | (with_reducible exact LeO.refl _)
   | (with_reducible exact LeO.none _)
   | (with_reducible refine LeO.ite ?_ ?_)
   | (with_reducible refine LeO.bind ?_ (fun _ => ?_))
   | exact ih0 _ _ _ _ _ _ _ _ _ _ _ _ _ _ _ _ _ _ _ _ _ _ _ _ _ _ _ _ _
   | exact ih1 _ _ _ _ _ _ _ _ _ _ _ _ _ _ _ _ _ _ _ _ _ _ _
   | exact ih2 _ _ _ _ _ _ _ _ _ _
   | exact impl_NewConsole.mono _ _ _ _ _ _
   | exact laws_eqConsole.mono _ _ _ _ _ _ _ _ _ _ _ _ _ _ _ _ _
   | exact laws_eqDispatcher.mono _ _ _ _ _ _ _ _ _ _ _
   | exact laws_heldConsole.mono _ _ _ _ _ _ _ _ _ _
   | exact laws_markConsole.mono _ _ _ _ _ _ _ _ _ _
   | exact laws_markDispatcher.mono _ _ _ _ _ _ _
   | exact laws_toDispatcher.mono _ _ _ _ _ _
   | exact spec_NewConsole.mono _ _ _ _ _ _
   | exact LeO.none _
   | refine LeO.ite ?_ ?_
   | refine LeO.bind ?_ (fun _ => ?_)
set_option maxHeartbeats 8000000 in
set_option maxRecDepth 100000 in
theorem laws_FnExactNewConsole.calls (k : Nat) (a0_0 : Int) (a0_1 : Int) (a0_2 : Int) (A0_3 : Option Addr) (c0_3 : Nat) (l0_3 : List (S148)) (A0_4 : Option Addr) (c0_4 : Nat) (l0_4 : List (S150)) (r : Bool) (w : World) (hr0_3 : Kd.C k148 w A0_3 l0_3.length l0_3) (hc0_3 : l0_3.length ≤ c0_3) (hr0_4 : Kd.C k150 w A0_4 l0_4.length l0_4) (hc0_4 : l0_4.length ≤ c0_4) (h : laws_FnExactNewConsole.f k a0_0 a0_1 a0_2 l0_3 l0_4 = some r) :
  Calls Try.prog 12 #[.agg #[.int .i64 a0_0, .int .i64 a0_1, .int .i64 a0_2, .slice A0_3 l0_3.length c0_3, .slice A0_4 l0_4.length c0_4]] w fun e w' => e = .returned (.bool r) ∧ Below w.heap.size w w' := by
 have hu59 := Try.underlying59
 have hu72 := Try.underlying72
 have hu25 := Try.underlying25
 have HR0_3 := Aside0.mk hr0_3
 have HC0_3 := Aside0.mk hc0_3
 clear hr0_3 hc0_3
 have HR0_4 := Aside0.mk hr0_4
 have HC0_4 := Aside0.mk hc0_4
 clear hr0_4 hc0_4
 have HB := Aside0.mk (Below.refl w.heap.size w)
 have H : ((laws_szDispatcher.f a0_0 a0_1 a0_2 l0_3 l0_4 1048576).bind fun t944 => (if t944 < 0 then (some true) else ((laws_toDispatcher.f k a0_0 a0_1 a0_2 l0_3 l0_4).bind fun bt945 => ((spec_NewConsole.f k bt945.1 bt945.2.1 bt945.2.2.1 bt945.2.2.2.1 bt945.2.2.2.2).bind fun bt954 => ((laws_toDispatcher.f k a0_0 a0_1 a0_2 l0_3 l0_4).bind fun bt968 => ((impl_NewConsole.f k bt968.1 bt968.2.1 bt968.2.2.1 bt968.2.2.2.1 bt968.2.2.2.2).bind fun bt978 => ((laws_eqConsole.f k bt978.1 bt978.2.1 bt978.2.2.1 bt978.2.2.2.1 bt978.2.2.2.2.1 bt978.2.2.2.2.2.1 bt978.2.2.2.2.2.2.1 bt978.2.2.2.2.2.2.2.1 bt954.1 bt954.2.1 bt954.2.2.1 bt954.2.2.2.1 bt954.2.2.2.2.1 bt954.2.2.2.2.2.1 bt954.2.2.2.2.2.2.1 bt954.2.2.2.2.2.2.2.1).bind fun t992 => (if t992 = true then (laws_FnExactNewConsole.j0 k bt954.2.2.2.2.2.2.2.2 bt978.2.2.2.2.2.2.2.2 (bt978.2.2.2.2.2.2.2.2 != bt954.2.2.2.2.2.2.2.2) a0_0 a0_1 a0_2 l0_3 l0_4 bt954.1 bt954.2.1 bt954.2.2.1 bt954.2.2.2.1 bt954.2.2.2.2.1 bt954.2.2.2.2.2.1 bt954.2.2.2.2.2.2.1 bt954.2.2.2.2.2.2.2.1 bt968.1 bt968.2.1 bt968.2.2.1 bt968.2.2.2.1 bt968.2.2.2.2 bt978.1 bt978.2.1 bt978.2.2.1 bt978.2.2.2.1 bt978.2.2.2.2.1 bt978.2.2.2.2.2.1 bt978.2.2.2.2.2.2.1 bt978.2.2.2.2.2.2.2.1) else (laws_FnExactNewConsole.j0 k bt954.2.2.2.2.2.2.2.2 bt978.2.2.2.2.2.2.2.2 true a0_0 a0_1 a0_2 l0_3 l0_4 bt954.1 bt954.2.1 bt954.2.2.1 bt954.2.2.2.1 bt954.2.2.2.2.1 bt954.2.2.2.2.2.1 bt954.2.2.2.2.2.2.1 bt954.2.2.2.2.2.2.2.1 bt968.1 bt968.2.1 bt968.2.2.1 bt968.2.2.2.1 bt968.2.2.2.2 bt978.1 bt978.2.1 bt978.2.2.1 bt978.2.2.2.1 bt978.2.2.2.2.1 bt978.2.2.2.2.2.1 bt978.2.2.2.2.2.2.1 bt978.2.2.2.2.2.2.2.1))))))))) = some r := h
 clear h
 replace H := Option.bind_eq_some_iff.mp H
 obtain ⟨t944, A20, H⟩ := H
 replace H : (if t944 < 0 then (some true) else ((laws_toDispatcher.f k a0_0 a0_1 a0_2 l0_3 l0_4).bind fun bt945 => ((spec_NewConsole.f k bt945.1 bt945.2.1 bt945.2.2.1 bt945.2.2.2.1 bt945.2.2.2.2).bind fun bt954 => ((laws_toDispatcher.f k a0_0 a0_1 a0_2 l0_3 l0_4).bind fun bt968 => ((impl_NewConsole.f k bt968.1 bt968.2.1 bt968.2.2.1 bt968.2.2.2.1 bt968.2.2.2.2).bind fun bt978 => ((laws_eqConsole.f k bt978.1 bt978.2.1 bt978.2.2.1 bt978.2.2.2.1 bt978.2.2.2.2.1 bt978.2.2.2.2.2.1 bt978.2.2.2.2.2.2.1 bt978.2.2.2.2.2.2.2.1 bt954.1 bt954.2.1 bt954.2.2.1 bt954.2.2.2.1 bt954.2.2.2.2.1 bt954.2.2.2.2.2.1 bt954.2.2.2.2.2.2.1 bt954.2.2.2.2.2.2.2.1).bind fun t992 => (if t992 = true then (laws_FnExactNewConsole.j0 k bt954.2.2.2.2.2.2.2.2 bt978.2.2.2.2.2.2.2.2 (bt978.2.2.2.2.2.2.2.2 != bt954.2.2.2.2.2.2.2.2) a0_0 a0_1 a0_2 l0_3 l0_4 bt954.1 bt954.2.1 bt954.2.2.1 bt954.2.2.2.1 bt954.2.2.2.2.1 bt954.2.2.2.2.2.1 bt954.2.2.2.2.2.2.1 bt954.2.2.2.2.2.2.2.1 bt968.1 bt968.2.1 bt968.2.2.1 bt968.2.2.2.1 bt968.2.2.2.2 bt978.1 bt978.2.1 bt978.2.2.1 bt978.2.2.2.1 bt978.2.2.2.2.1 bt978.2.2.2.2.2.1 bt978.2.2.2.2.2.2.1 bt978.2.2.2.2.2.2.2.1) else (laws_FnExactNewConsole.j0 k bt954.2.2.2.2.2.2.2.2 bt978.2.2.2.2.2.2.2.2 true a0_0 a0_1 a0_2 l0_3 l0_4 bt954.1 bt954.2.1 bt954.2.2.1 bt954.2.2.2.1 bt954.2.2.2.2.1 bt954.2.2.2.2.2.1 bt954.2.2.2.2.2.2.1 bt954.2.2.2.2.2.2.2.1 bt968.1 bt968.2.1 bt968.2.2.1 bt968.2.2.2.1 bt968.2.2.2.2 bt978.1 bt978.2.1 bt978.2.2.1 bt978.2.2.2.1 bt978.2.2.2.2.1 bt978.2.2.2.2.2.1 bt978.2.2.2.2.2.2.1 bt978.2.2.2.2.2.2.2.1)))))))) = some r := H
 have A2 := Aside0.mk A20
 clear A20
 by_cases c3 : t944 < 0
 ·rw [if_pos c3] at H
  have c3b0 : decide (t944 < 0) = true := decide_eq_true c3
  clear c3
  obtain rfl := Option.some.inj H
  go_enter Try.func12, Try.ntmps12
  go_wp2_with (first | ((with_reducible refine gate_dst (N := 1) rfl ?_); refine box_event ?hg (N := 1) ?hd (cs := #[.int .i64 a0_0, .int .i64 a0_1, .int .i64 a0_2, .slice A0_3 l0_3.length c0_3, .slice A0_4 l0_4.length c0_4]) (t := 59) ?hr ?_; (case hd => rfl); (case hg => rfl); (case hr => first | (go_simp; done) | (go_simp; rfl)); intro gb943 hg w4 hbox hb; have n0_ := Aside0.mk (below_step (bw HB.out) hb); have n1_ := Aside0.mk (hbox); have n2_ := ge_ hg HB.out; have n3_ := ge_ hg HB.out; replace HB := n0_; have BK943 := n1_; have GW943 := n2_; have GE943 := n3_; clear n0_ n1_ n2_ n3_; clear hb hbox hg; obtain ⟨hcz5_0, hcz5_1, hcz5_2, hcz5_3, hcz5_4, hfz5_0, hfz5_1, hfz5_2, hfz5_3, hfz5_4⟩ := bz5 BK943.out) | ((with_reducible refine gate_callee (f := 37) rfl ?_); refine goesL_ (some 16) rfl rfl Try.func37 (by kernel_rfl) rfl #[.agg #[.int .i64 a0_0, .int .i64 a0_1, .int .i64 a0_2, .slice A0_3 l0_3.length c0_3, .slice A0_4 l0_4.length c0_4], .int .i64 1048576] rfl (by (try simp only [mA_]); first | done | rfl | (simp only [List.length_drop, List.length_take]; rfl)) ?_; (with_reducible refine (laws_szDispatcher.calls a0_0 a0_1 a0_2 _ _ l0_3 _ _ l0_4 1048576 t944 _ ?side1 ?side2 ?side3 ?side4 A2.out).mono ?_); (case side1 => first | exact bC HR0_3.out HB.out | exact Kd.C_below HR0_3.out HB.out); (case side2 => exact HC0_3.out); (case side3 => first | exact bC HR0_4.out HB.out | exact Kd.C_below HR0_4.out HB.out); (case side4 => exact HC0_4.out); rintro e w6 ⟨rfl, hb⟩; refine ⟨_, rfl, ?_⟩; have n0_ := Aside0.mk (blk_below (bs BK943.out) hb); have n1_ := Aside0.mk (below_step (by repeat (first | (with_reducible first | exact bw HB.out | refine bset ?_ | apply bA | apply bN | apply bD) | exact HB.out)) hb); replace BK943 := n0_; replace HB := n1_; clear n0_ n1_; (try clear hb); (try clear hb2); (try clear hk); (try clear hi)))
  go_ret
  exact ⟨by first | rfl | (simp [errW_none, errW_some] <;> rfl) | (simp [*, errW_none, errW_some] <;> rfl), by repeat (first | (with_reducible first | exact bw HB.out | refine bset ?_ | apply bA | apply bN | apply bD) | exact HB.out)⟩
 rw [if_neg c3] at H
 have c3b0 : decide (t944 < 0) = false := decide_eq_false c3
 clear c3
 replace H := Option.bind_eq_some_iff.mp H
 obtain ⟨⟨t945, t946, t947, t948, t951⟩, A70, H⟩ := H
 replace H : ((spec_NewConsole.f k t945 t946 t947 t948 t951).bind fun bt954 => ((laws_toDispatcher.f k a0_0 a0_1 a0_2 l0_3 l0_4).bind fun bt968 => ((impl_NewConsole.f k bt968.1 bt968.2.1 bt968.2.2.1 bt968.2.2.2.1 bt968.2.2.2.2).bind fun bt978 => ((laws_eqConsole.f k bt978.1 bt978.2.1 bt978.2.2.1 bt978.2.2.2.1 bt978.2.2.2.2.1 bt978.2.2.2.2.2.1 bt978.2.2.2.2.2.2.1 bt978.2.2.2.2.2.2.2.1 bt954.1 bt954.2.1 bt954.2.2.1 bt954.2.2.2.1 bt954.2.2.2.2.1 bt954.2.2.2.2.2.1 bt954.2.2.2.2.2.2.1 bt954.2.2.2.2.2.2.2.1).bind fun t992 => (if t992 = true then (laws_FnExactNewConsole.j0 k bt954.2.2.2.2.2.2.2.2 bt978.2.2.2.2.2.2.2.2 (bt978.2.2.2.2.2.2.2.2 != bt954.2.2.2.2.2.2.2.2) a0_0 a0_1 a0_2 l0_3 l0_4 bt954.1 bt954.2.1 bt954.2.2.1 bt954.2.2.2.1 bt954.2.2.2.2.1 bt954.2.2.2.2.2.1 bt954.2.2.2.2.2.2.1 bt954.2.2.2.2.2.2.2.1 bt968.1 bt968.2.1 bt968.2.2.1 bt968.2.2.2.1 bt968.2.2.2.2 bt978.1 bt978.2.1 bt978.2.2.1 bt978.2.2.2.1 bt978.2.2.2.2.1 bt978.2.2.2.2.2.1 bt978.2.2.2.2.2.2.1 bt978.2.2.2.2.2.2.2.1) else (laws_FnExactNewConsole.j0 k bt954.2.2.2.2.2.2.2.2 bt978.2.2.2.2.2.2.2.2 true a0_0 a0_1 a0_2 l0_3 l0_4 bt954.1 bt954.2.1 bt954.2.2.1 bt954.2.2.2.1 bt954.2.2.2.2.1 bt954.2.2.2.2.2.1 bt954.2.2.2.2.2.2.1 bt954.2.2.2.2.2.2.2.1 bt968.1 bt968.2.1 bt968.2.2.1 bt968.2.2.2.1 bt968.2.2.2.2 bt978.1 bt978.2.1 bt978.2.2.1 bt978.2.2.2.1 bt978.2.2.2.2.1 bt978.2.2.2.2.2.1 bt978.2.2.2.2.2.2.1 bt978.2.2.2.2.2.2.2.1)))))) = some r := H
 have A7 := Aside0.mk A70
 clear A70
 replace H := Option.bind_eq_some_iff.mp H
 obtain ⟨⟨t954, t955, t956, t957, t960, t963, t964, t965, t966⟩, A80, H⟩ := H
 replace H : ((laws_toDispatcher.f k a0_0 a0_1 a0_2 l0_3 l0_4).bind fun bt968 => ((impl_NewConsole.f k bt968.1 bt968.2.1 bt968.2.2.1 bt968.2.2.2.1 bt968.2.2.2.2).bind fun bt978 => ((laws_eqConsole.f k bt978.1 bt978.2.1 bt978.2.2.1 bt978.2.2.2.1 bt978.2.2.2.2.1 bt978.2.2.2.2.2.1 bt978.2.2.2.2.2.2.1 bt978.2.2.2.2.2.2.2.1 t954 t955 t956 t957 t960 t963 t964 t965).bind fun t992 => (if t992 = true then (laws_FnExactNewConsole.j0 k t966 bt978.2.2.2.2.2.2.2.2 (bt978.2.2.2.2.2.2.2.2 != t966) a0_0 a0_1 a0_2 l0_3 l0_4 t954 t955 t956 t957 t960 t963 t964 t965 bt968.1 bt968.2.1 bt968.2.2.1 bt968.2.2.2.1 bt968.2.2.2.2 bt978.1 bt978.2.1 bt978.2.2.1 bt978.2.2.2.1 bt978.2.2.2.2.1 bt978.2.2.2.2.2.1 bt978.2.2.2.2.2.2.1 bt978.2.2.2.2.2.2.2.1) else (laws_FnExactNewConsole.j0 k t966 bt978.2.2.2.2.2.2.2.2 true a0_0 a0_1 a0_2 l0_3 l0_4 t954 t955 t956 t957 t960 t963 t964 t965 bt968.1 bt968.2.1 bt968.2.2.1 bt968.2.2.2.1 bt968.2.2.2.2 bt978.1 bt978.2.1 bt978.2.2.1 bt978.2.2.2.1 bt978.2.2.2.2.1 bt978.2.2.2.2.2.1 bt978.2.2.2.2.2.2.1 bt978.2.2.2.2.2.2.2.1))))) = some r := H
 have A8 := Aside0.mk A80
 clear A80
 replace H := Option.bind_eq_some_iff.mp H
 obtain ⟨⟨t968, t969, t970, t971, t974⟩, A90, H⟩ := H
 replace H : ((impl_NewConsole.f k t968 t969 t970 t971 t974).bind fun bt978 => ((laws_eqConsole.f k bt978.1 bt978.2.1 bt978.2.2.1 bt978.2.2.2.1 bt978.2.2.2.2.1 bt978.2.2.2.2.2.1 bt978.2.2.2.2.2.2.1 bt978.2.2.2.2.2.2.2.1 t954 t955 t956 t957 t960 t963 t964 t965).bind fun t992 => (if t992 = true then (laws_FnExactNewConsole.j0 k t966 bt978.2.2.2.2.2.2.2.2 (bt978.2.2.2.2.2.2.2.2 != t966) a0_0 a0_1 a0_2 l0_3 l0_4 t954 t955 t956 t957 t960 t963 t964 t965 t968 t969 t970 t971 t974 bt978.1 bt978.2.1 bt978.2.2.1 bt978.2.2.2.1 bt978.2.2.2.2.1 bt978.2.2.2.2.2.1 bt978.2.2.2.2.2.2.1 bt978.2.2.2.2.2.2.2.1) else (laws_FnExactNewConsole.j0 k t966 bt978.2.2.2.2.2.2.2.2 true a0_0 a0_1 a0_2 l0_3 l0_4 t954 t955 t956 t957 t960 t963 t964 t965 t968 t969 t970 t971 t974 bt978.1 bt978.2.1 bt978.2.2.1 bt978.2.2.2.1 bt978.2.2.2.2.1 bt978.2.2.2.2.2.1 bt978.2.2.2.2.2.2.1 bt978.2.2.2.2.2.2.2.1)))) = some r := H
 have A9 := Aside0.mk A90
 clear A90
 replace H := Option.bind_eq_some_iff.mp H
 obtain ⟨⟨t978, t979, t980, t981, t984, t987, t988, t989, t990⟩, A100, H⟩ := H
 replace H : ((laws_eqConsole.f k t978 t979 t980 t981 t984 t987 t988 t989 t954 t955 t956 t957 t960 t963 t964 t965).bind fun t992 => (if t992 = true then (laws_FnExactNewConsole.j0 k t966 t990 (t990 != t966) a0_0 a0_1 a0_2 l0_3 l0_4 t954 t955 t956 t957 t960 t963 t964 t965 t968 t969 t970 t971 t974 t978 t979 t980 t981 t984 t987 t988 t989) else (laws_FnExactNewConsole.j0 k t966 t990 true a0_0 a0_1 a0_2 l0_3 l0_4 t954 t955 t956 t957 t960 t963 t964 t965 t968 t969 t970 t971 t974 t978 t979 t980 t981 t984 t987 t988 t989))) = some r := H
 have A10 := Aside0.mk A100
 clear A100
 have HC11 := Aside0.mk H
 clear H
 go_enter Try.func12, Try.ntmps12
 go_upto_region 8 with (first | ((with_reducible refine gate_dst (N := 1) rfl ?_); refine box_event ?hg (N := 1) ?hd (cs := #[.int .i64 a0_0, .int .i64 a0_1, .int .i64 a0_2, .slice A0_3 l0_3.length c0_3, .slice A0_4 l0_4.length c0_4]) (t := 59) ?hr ?_; (case hd => rfl); (case hg => rfl); (case hr => first | (go_simp; done) | (go_simp; rfl)); intro gb943 hg w12 hbox hb; have n0_ := Aside0.mk (below_step (bw HB.out) hb); have n1_ := Aside0.mk (hbox); have n2_ := ge_ hg HB.out; have n3_ := ge_ hg HB.out; replace HB := n0_; have BK943 := n1_; have GW943 := n2_; have GE943 := n3_; clear n0_ n1_ n2_ n3_; clear hb hbox hg; obtain ⟨hcz13_0, hcz13_1, hcz13_2, hcz13_3, hcz13_4, hfz13_0, hfz13_1, hfz13_2, hfz13_3, hfz13_4⟩ := bz5 BK943.out) | ((with_reducible refine gate_callee (f := 37) rfl ?_); refine goesL_ (some 16) rfl rfl Try.func37 (by kernel_rfl) rfl #[.agg #[.int .i64 a0_0, .int .i64 a0_1, .int .i64 a0_2, .slice A0_3 l0_3.length c0_3, .slice A0_4 l0_4.length c0_4], .int .i64 1048576] rfl (by (try simp only [mA_]); first | done | rfl | (simp only [List.length_drop, List.length_take]; rfl)) ?_; (with_reducible refine (laws_szDispatcher.calls a0_0 a0_1 a0_2 _ _ l0_3 _ _ l0_4 1048576 t944 _ ?side1 ?side2 ?side3 ?side4 A2.out).mono ?_); (case side1 => first | exact bC HR0_3.out HB.out | exact Kd.C_below HR0_3.out HB.out); (case side2 => exact HC0_3.out); (case side3 => first | exact bC HR0_4.out HB.out | exact Kd.C_below HR0_4.out HB.out); (case side4 => exact HC0_4.out); rintro e w14 ⟨rfl, hb⟩; refine ⟨_, rfl, ?_⟩; have n0_ := Aside0.mk (blk_below (bs BK943.out) hb); have n1_ := Aside0.mk (below_step (by repeat (first | (with_reducible first | exact bw HB.out | refine bset ?_ | apply bA | apply bN | apply bD) | exact HB.out)) hb); replace BK943 := n0_; replace HB := n1_; clear n0_ n1_; (try clear hb); (try clear hb2); (try clear hk); (try clear hi); obtain ⟨hcz15_0, hcz15_1, hcz15_2, hcz15_3, hcz15_4, hfz15_0, hfz15_1, hfz15_2, hfz15_3, hfz15_4⟩ := bz5 BK943.out) | ((with_reducible refine gate_callee (f := 39) rfl ?_); refine goesL_ (some 21) rfl rfl Try.func39 (by kernel_rfl) rfl #[.agg #[.int .i64 a0_0, .int .i64 a0_1, .int .i64 a0_2, .slice A0_3 l0_3.length c0_3, .slice A0_4 l0_4.length c0_4]] rfl (by (try simp only [mA_]); first | done | rfl | (simp only [List.length_drop, List.length_take]; rfl)) ?_; (with_reducible refine (laws_toDispatcher.calls k a0_0 a0_1 a0_2 _ _ l0_3 _ _ l0_4 t945 t946 t947 t948 t951 _ ?side1 ?side2 ?side3 ?side4 A7.out).mono ?_); (case side1 => first | exact bC HR0_3.out HB.out | exact Kd.C_below HR0_3.out HB.out); (case side2 => exact HC0_3.out); (case side3 => first | exact bC HR0_4.out HB.out | exact Kd.C_below HR0_4.out HB.out); (case side4 => exact HC0_4.out); rintro e w16 ⟨v949, v952, rfl, ho0, ho1, hb⟩; refine ⟨_, rfl, ?_⟩; have n0_ := Aside0.mk (Kd.R_lower ho0 (below_size (by repeat (first | (with_reducible first | exact bw HB.out | refine bset ?_ | apply bA | apply bN | apply bD) | exact HB.out)))); have n1_ := Aside0.mk (Kd.R_lower ho1 (below_size (by repeat (first | (with_reducible first | exact bw HB.out | refine bset ?_ | apply bA | apply bN | apply bD) | exact HB.out)))); have n2_ := Aside0.mk (blk_below (bs BK943.out) hb); have n3_ := Aside0.mk (below_step (by repeat (first | (with_reducible first | exact bw HB.out | refine bset ?_ | apply bA | apply bN | apply bD) | exact HB.out)) hb); have HO950 := n0_; have HO953 := n1_; replace BK943 := n2_; replace HB := n3_; clear n0_ n1_ n2_ n3_; (try clear hb); (try clear hb2); (try clear hk); (try clear hi); (try clear ho0); (try clear ho1); obtain ⟨Ao17, co17, eo17⟩ := Kd.R_slice HO950.out; subst eo17; obtain ⟨Ao18, co18, eo18⟩ := Kd.R_slice HO953.out; subst eo18) | ((with_reducible refine gate_callee (f := 50) rfl ?_); refine goesL_ (some 22) rfl rfl Try.func50 (by kernel_rfl) rfl #[.agg #[.int .i64 t945, .int .i64 t946, .int .i64 t947, .slice Ao17 t948.length co17, .slice Ao18 t951.length co18]] rfl (by (try simp only [mA_]); first | done | rfl | (simp only [List.length_drop, List.length_take]; rfl)) ?_; (with_reducible refine (spec_NewConsole.calls k t945 t946 t947 _ _ t948 _ _ t951 t954 t955 t956 t957 t960 t963 t964 t965 t966 _ ?side1 ?side2 ?side3 ?side4 A8.out).mono ?_); (case side1 => repeat (first | exact (Kd.R_reads' HO950.out).2.2 | (with_reducible refine Kd.C_alloc ?_ _) | (with_reducible refine Kd.C_drewN ?_ _) | (with_reducible refine Kd.C_drew ?_))); (case side2 => exact (Kd.R_reads' HO950.out).2.1); (case side3 => repeat (first | exact (Kd.R_reads' HO953.out).2.2 | (with_reducible refine Kd.C_alloc ?_ _) | (with_reducible refine Kd.C_drewN ?_ _) | (with_reducible refine Kd.C_drew ?_))); (case side4 => exact (Kd.R_reads' HO953.out).2.1); rintro e w19 ⟨v958, v961, rfl, ho0, ho1, hb⟩; refine ⟨_, rfl, ?_⟩; have n0_ := Aside0.mk (Kd.R_elder' (bR HO950.out) (Kd.R_base ho0) hb); have n1_ := Aside0.mk (Kd.R_elder' (bR HO953.out) (Kd.R_base ho1) hb); have n2_ := Aside0.mk (Kd.R_lower (Kd.R_new' ho0 (Kd.R_lt (bR HO950.out))) (below_size (by repeat (first | (with_reducible first | exact bw HB.out | refine bset ?_ | apply bA | apply bN | apply bD) | exact HB.out)))); have n3_ := Aside0.mk (Kd.R_lower (Kd.R_new' ho1 (Kd.R_lt (bR HO953.out))) (below_size (by repeat (first | (with_reducible first | exact bw HB.out | refine bset ?_ | apply bA | apply bN | apply bD) | exact HB.out)))); have n4_ := Aside0.mk (blk_below (bs BK943.out) hb); have n5_ := Aside0.mk (below_step (by repeat (first | (with_reducible first | exact bw HB.out | refine bset ?_ | apply bA | apply bN | apply bD) | exact HB.out)) hb); replace HO950 := n0_; replace HO953 := n1_; have HO959 := n2_; have HO962 := n3_; replace BK943 := n4_; replace HB := n5_; clear n0_ n1_ n2_ n3_ n4_ n5_; (try clear hb); (try clear hb2); (try clear hk); (try clear hi); (try clear ho0); (try clear ho1)) | ((with_reducible refine gate_dst (N := 4) rfl ?_); refine box_event ?hg (N := 4) ?hd (cs := #[.int .i64 0, .int .i64 0, .int .i64 0, .slice none 0 0, .slice none 0 0, .string (⟨#[]⟩ : ByteArray), .string (⟨#[]⟩ : ByteArray), .int .i64 0]) (t := 72) ?hr ?_; (case hd => rfl); (case hg => rfl); (case hr => first | (go_simp; done) | (go_simp; rfl)); intro gb967 hg w20 hbox hb; have n0_ := Aside0.mk (Kd.R_below (bR HO950.out) hb); have n1_ := Aside0.mk (Kd.R_below (bR HO953.out) hb); have n2_ := Aside0.mk (Kd.R_below (bR HO959.out) hb); have n3_ := Aside0.mk (Kd.R_below (bR HO962.out) hb); have n4_ := Aside0.mk (blk_below (bs BK943.out) hb); have n5_ := Aside0.mk (below_step (by repeat (first | (with_reducible first | exact bw HB.out | refine bset ?_ | apply bA | apply bN | apply bD) | exact HB.out)) hb); have n6_ := Aside0.mk (hbox); have n7_ := Aside0.mk ((by rw [hg]; exact (below_size (by repeat (first | (with_reducible first | exact bw HB.out | refine bset ?_ | apply bA | apply bN | apply bD) | exact HB.out))) : w.heap.size ≤ gb967)); have n8_ := Aside0.mk ((by rw [hg]; exact (below_size (by repeat (first | (with_reducible first | exact bw HB.out | refine bset ?_ | apply bA | apply bN | apply bD) | exact HB.out))) : w.heap.size ≤ gb967)); have n9_ := ne_ hg BK943.out; have n10_ := en_ hg BK943.out; replace HO950 := n0_; replace HO953 := n1_; replace HO959 := n2_; replace HO962 := n3_; replace BK943 := n4_; replace HB := n5_; have BK967 := n6_; have GW967 := n7_; have GE967 := n8_; have NB943_967 := n9_; have NB967_943 := n10_; clear n0_ n1_ n2_ n3_ n4_ n5_ n6_ n7_ n8_ n9_ n10_; clear hb hbox hg; have hnb21 := NB967_943.out; have hnc21 := NB943_967.out; obtain ⟨hcz22_0, hcz22_1, hcz22_2, hcz22_3, hcz22_4, hcz22_5, hcz22_6, hcz22_7, hfz22_0, hfz22_1, hfz22_2, hfz22_3, hfz22_4, hfz22_5, hfz22_6, hfz22_7⟩ := bz8 BK967.out; obtain ⟨Ao23, co23, eo23⟩ := Kd.R_slice HO959.out; subst eo23; obtain ⟨Ao24, co24, eo24⟩ := Kd.R_slice HO962.out; subst eo24; obtain ⟨hcz25_0, hcz25_1, hcz25_2, hcz25_3, hcz25_4, hfz25_0, hfz25_1, hfz25_2, hfz25_3, hfz25_4⟩ := bz5 BK943.out) | ((with_reducible refine gate_callee (f := 39) rfl ?_); refine goesL_ (some 26) rfl rfl Try.func39 (by kernel_rfl) rfl #[.agg #[.int .i64 a0_0, .int .i64 a0_1, .int .i64 a0_2, .slice A0_3 l0_3.length c0_3, .slice A0_4 l0_4.length c0_4]] rfl (by (try simp only [mA_]); first | done | rfl | (simp only [List.length_drop, List.length_take]; rfl)) ?_; (with_reducible refine (laws_toDispatcher.calls k a0_0 a0_1 a0_2 _ _ l0_3 _ _ l0_4 t968 t969 t970 t971 t974 _ ?side1 ?side2 ?side3 ?side4 A9.out).mono ?_); (case side1 => exact Kd.C_below HR0_3.out (by repeat (first | (with_reducible first | exact bw HB.out | refine bset ?_ | apply bA | apply bN | apply bD) | exact HB.out))); (case side2 => exact HC0_3.out); (case side3 => exact Kd.C_below HR0_4.out (by repeat (first | (with_reducible first | exact bw HB.out | refine bset ?_ | apply bA | apply bN | apply bD) | exact HB.out))); (case side4 => exact HC0_4.out); rintro e w26 ⟨v972, v975, rfl, ho0, ho1, hb⟩; refine ⟨_, rfl, ?_⟩; have n0_ := Aside0.mk (Kd.R_elder' (by (with_reducible repeat (first | apply Kd.R_alloc | apply Kd.R_drewN | apply Kd.R_drew)); exact (Kd.R_mono (Kd.R_far (p := ⟨gb967, 7, none⟩) (Kd.R_far (p := ⟨gb967, 6, none⟩) (Kd.R_far (p := ⟨gb967, 5, none⟩) (Kd.R_far (p := ⟨gb967, 4, none⟩) (Kd.R_far (p := ⟨gb967, 3, none⟩) (Kd.R_far (p := ⟨gb967, 2, none⟩) (Kd.R_far (p := ⟨gb967, 1, none⟩) (Kd.R_far (p := ⟨gb967, 0, none⟩) (Kd.R_types HO950.out BK967.out (by decide)) (fun _ hk => hk.2) (.int .i64 t954)) (fun _ hk => hk.2) (.int .i64 t955)) (fun _ hk => hk.2) (.int .i64 t956)) (fun _ hk => hk.2) (.slice Ao23 t957.length co23)) (fun _ hk => hk.2) (.slice Ao24 t960.length co24)) (fun _ hk => hk.2) (.string t963)) (fun _ hk => hk.2) (.string t964)) (fun _ hk => hk.2) (.int .i64 t965)) (fun _ h_ => h_.1))) (Kd.R_base ho0) hb); have n1_ := Aside0.mk (Kd.R_elder' (by (with_reducible repeat (first | apply Kd.R_alloc | apply Kd.R_drewN | apply Kd.R_drew)); exact (Kd.R_mono (Kd.R_far (p := ⟨gb967, 7, none⟩) (Kd.R_far (p := ⟨gb967, 6, none⟩) (Kd.R_far (p := ⟨gb967, 5, none⟩) (Kd.R_far (p := ⟨gb967, 4, none⟩) (Kd.R_far (p := ⟨gb967, 3, none⟩) (Kd.R_far (p := ⟨gb967, 2, none⟩) (Kd.R_far (p := ⟨gb967, 1, none⟩) (Kd.R_far (p := ⟨gb967, 0, none⟩) (Kd.R_types HO953.out BK967.out (by decide)) (fun _ hk => hk.2) (.int .i64 t954)) (fun _ hk => hk.2) (.int .i64 t955)) (fun _ hk => hk.2) (.int .i64 t956)) (fun _ hk => hk.2) (.slice Ao23 t957.length co23)) (fun _ hk => hk.2) (.slice Ao24 t960.length co24)) (fun _ hk => hk.2) (.string t963)) (fun _ hk => hk.2) (.string t964)) (fun _ hk => hk.2) (.int .i64 t965)) (fun _ h_ => h_.1))) (Kd.R_base ho1) hb); have n2_ := Aside0.mk (Kd.R_elder' (by (with_reducible repeat (first | apply Kd.R_alloc | apply Kd.R_drewN | apply Kd.R_drew)); exact (Kd.R_mono (Kd.R_far (p := ⟨gb967, 7, none⟩) (Kd.R_far (p := ⟨gb967, 6, none⟩) (Kd.R_far (p := ⟨gb967, 5, none⟩) (Kd.R_far (p := ⟨gb967, 4, none⟩) (Kd.R_far (p := ⟨gb967, 3, none⟩) (Kd.R_far (p := ⟨gb967, 2, none⟩) (Kd.R_far (p := ⟨gb967, 1, none⟩) (Kd.R_far (p := ⟨gb967, 0, none⟩) (Kd.R_types HO959.out BK967.out (by decide)) (fun _ hk => hk.2) (.int .i64 t954)) (fun _ hk => hk.2) (.int .i64 t955)) (fun _ hk => hk.2) (.int .i64 t956)) (fun _ hk => hk.2) (.slice Ao23 t957.length co23)) (fun _ hk => hk.2) (.slice Ao24 t960.length co24)) (fun _ hk => hk.2) (.string t963)) (fun _ hk => hk.2) (.string t964)) (fun _ hk => hk.2) (.int .i64 t965)) (fun _ h_ => h_.1))) (Kd.R_base ho0) hb); have n3_ := Aside0.mk (Kd.R_elder' (by (with_reducible repeat (first | apply Kd.R_alloc | apply Kd.R_drewN | apply Kd.R_drew)); exact (Kd.R_mono (Kd.R_far (p := ⟨gb967, 7, none⟩) (Kd.R_far (p := ⟨gb967, 6, none⟩) (Kd.R_far (p := ⟨gb967, 5, none⟩) (Kd.R_far (p := ⟨gb967, 4, none⟩) (Kd.R_far (p := ⟨gb967, 3, none⟩) (Kd.R_far (p := ⟨gb967, 2, none⟩) (Kd.R_far (p := ⟨gb967, 1, none⟩) (Kd.R_far (p := ⟨gb967, 0, none⟩) (Kd.R_types HO962.out BK967.out (by decide)) (fun _ hk => hk.2) (.int .i64 t954)) (fun _ hk => hk.2) (.int .i64 t955)) (fun _ hk => hk.2) (.int .i64 t956)) (fun _ hk => hk.2) (.slice Ao23 t957.length co23)) (fun _ hk => hk.2) (.slice Ao24 t960.length co24)) (fun _ hk => hk.2) (.string t963)) (fun _ hk => hk.2) (.string t964)) (fun _ hk => hk.2) (.int .i64 t965)) (fun _ h_ => h_.1))) (Kd.R_base ho1) hb); have n4_ := Aside0.mk (Kd.R_lower (Kd.R_new' (Kd.R_new' ho0 (Kd.R_lt (by (with_reducible repeat (first | apply Kd.R_alloc | apply Kd.R_drewN | apply Kd.R_drew)); exact (Kd.R_mono (Kd.R_far (p := ⟨gb967, 7, none⟩) (Kd.R_far (p := ⟨gb967, 6, none⟩) (Kd.R_far (p := ⟨gb967, 5, none⟩) (Kd.R_far (p := ⟨gb967, 4, none⟩) (Kd.R_far (p := ⟨gb967, 3, none⟩) (Kd.R_far (p := ⟨gb967, 2, none⟩) (Kd.R_far (p := ⟨gb967, 1, none⟩) (Kd.R_far (p := ⟨gb967, 0, none⟩) (Kd.R_types HO950.out BK967.out (by decide)) (fun _ hk => hk.2) (.int .i64 t954)) (fun _ hk => hk.2) (.int .i64 t955)) (fun _ hk => hk.2) (.int .i64 t956)) (fun _ hk => hk.2) (.slice Ao23 t957.length co23)) (fun _ hk => hk.2) (.slice Ao24 t960.length co24)) (fun _ hk => hk.2) (.string t963)) (fun _ hk => hk.2) (.string t964)) (fun _ hk => hk.2) (.int .i64 t965)) (fun _ h_ => h_.1))))) (Kd.R_lt (by (with_reducible repeat (first | apply Kd.R_alloc | apply Kd.R_drewN | apply Kd.R_drew)); exact (Kd.R_mono (Kd.R_far (p := ⟨gb967, 7, none⟩) (Kd.R_far (p := ⟨gb967, 6, none⟩) (Kd.R_far (p := ⟨gb967, 5, none⟩) (Kd.R_far (p := ⟨gb967, 4, none⟩) (Kd.R_far (p := ⟨gb967, 3, none⟩) (Kd.R_far (p := ⟨gb967, 2, none⟩) (Kd.R_far (p := ⟨gb967, 1, none⟩) (Kd.R_far (p := ⟨gb967, 0, none⟩) (Kd.R_types HO959.out BK967.out (by decide)) (fun _ hk => hk.2) (.int .i64 t954)) (fun _ hk => hk.2) (.int .i64 t955)) (fun _ hk => hk.2) (.int .i64 t956)) (fun _ hk => hk.2) (.slice Ao23 t957.length co23)) (fun _ hk => hk.2) (.slice Ao24 t960.length co24)) (fun _ hk => hk.2) (.string t963)) (fun _ hk => hk.2) (.string t964)) (fun _ hk => hk.2) (.int .i64 t965)) (fun _ h_ => h_.1))))) (below_size (by repeat (first | (with_reducible first | exact bw HB.out | refine bset ?_ | apply bA | apply bN | apply bD) | exact HB.out)))); have n5_ := Aside0.mk (Kd.R_lower (Kd.R_new' (Kd.R_new' ho1 (Kd.R_lt (by (with_reducible repeat (first | apply Kd.R_alloc | apply Kd.R_drewN | apply Kd.R_drew)); exact (Kd.R_mono (Kd.R_far (p := ⟨gb967, 7, none⟩) (Kd.R_far (p := ⟨gb967, 6, none⟩) (Kd.R_far (p := ⟨gb967, 5, none⟩) (Kd.R_far (p := ⟨gb967, 4, none⟩) (Kd.R_far (p := ⟨gb967, 3, none⟩) (Kd.R_far (p := ⟨gb967, 2, none⟩) (Kd.R_far (p := ⟨gb967, 1, none⟩) (Kd.R_far (p := ⟨gb967, 0, none⟩) (Kd.R_types HO953.out BK967.out (by decide)) (fun _ hk => hk.2) (.int .i64 t954)) (fun _ hk => hk.2) (.int .i64 t955)) (fun _ hk => hk.2) (.int .i64 t956)) (fun _ hk => hk.2) (.slice Ao23 t957.length co23)) (fun _ hk => hk.2) (.slice Ao24 t960.length co24)) (fun _ hk => hk.2) (.string t963)) (fun _ hk => hk.2) (.string t964)) (fun _ hk => hk.2) (.int .i64 t965)) (fun _ h_ => h_.1))))) (Kd.R_lt (by (with_reducible repeat (first | apply Kd.R_alloc | apply Kd.R_drewN | apply Kd.R_drew)); exact (Kd.R_mono (Kd.R_far (p := ⟨gb967, 7, none⟩) (Kd.R_far (p := ⟨gb967, 6, none⟩) (Kd.R_far (p := ⟨gb967, 5, none⟩) (Kd.R_far (p := ⟨gb967, 4, none⟩) (Kd.R_far (p := ⟨gb967, 3, none⟩) (Kd.R_far (p := ⟨gb967, 2, none⟩) (Kd.R_far (p := ⟨gb967, 1, none⟩) (Kd.R_far (p := ⟨gb967, 0, none⟩) (Kd.R_types HO962.out BK967.out (by decide)) (fun _ hk => hk.2) (.int .i64 t954)) (fun _ hk => hk.2) (.int .i64 t955)) (fun _ hk => hk.2) (.int .i64 t956)) (fun _ hk => hk.2) (.slice Ao23 t957.length co23)) (fun _ hk => hk.2) (.slice Ao24 t960.length co24)) (fun _ hk => hk.2) (.string t963)) (fun _ hk => hk.2) (.string t964)) (fun _ hk => hk.2) (.int .i64 t965)) (fun _ h_ => h_.1))))) (below_size (by repeat (first | (with_reducible first | exact bw HB.out | refine bset ?_ | apply bA | apply bN | apply bD) | exact HB.out)))); have n6_ := Aside0.mk (blk_below (g := gb943) (o := .cells #[.int .i64 a0_0, .int .i64 a0_1, .int .i64 a0_2, .slice A0_3 l0_3.length c0_3, .slice A0_4 l0_4.length c0_4] 59 (0, 0)) (by (with_reducible repeat (first | refine blk_drewN ?_ _ | refine blk_drew ?_ | refine blk_alloc ?_ _)); refine blk_far ?_ NB943_967.out _; (with_reducible repeat (first | refine blk_drewN ?_ _ | refine blk_drew ?_ | refine blk_alloc ?_ _)); refine blk_far ?_ NB943_967.out _; (with_reducible repeat (first | refine blk_drewN ?_ _ | refine blk_drew ?_ | refine blk_alloc ?_ _)); refine blk_far ?_ NB943_967.out _; (with_reducible repeat (first | refine blk_drewN ?_ _ | refine blk_drew ?_ | refine blk_alloc ?_ _)); refine blk_far ?_ NB943_967.out _; (with_reducible repeat (first | refine blk_drewN ?_ _ | refine blk_drew ?_ | refine blk_alloc ?_ _)); refine blk_far ?_ NB943_967.out _; (with_reducible repeat (first | refine blk_drewN ?_ _ | refine blk_drew ?_ | refine blk_alloc ?_ _)); refine blk_far ?_ NB943_967.out _; (with_reducible repeat (first | refine blk_drewN ?_ _ | refine blk_drew ?_ | refine blk_alloc ?_ _)); refine blk_far ?_ NB943_967.out _; (with_reducible repeat (first | refine blk_drewN ?_ _ | refine blk_drew ?_ | refine blk_alloc ?_ _)); refine blk_far ?_ NB943_967.out _; exact bs BK943.out) hb); have n7_ := Aside0.mk (blk_below (g := gb967) (o := .cells #[.int .i64 t954, .int .i64 t955, .int .i64 t956, .slice Ao23 t957.length co23, .slice Ao24 t960.length co24, .string t963, .string t964, .int .i64 t965] 72 (0, 0)) (by (with_reducible repeat (first | refine blk_drewN ?_ _ | refine blk_drew ?_ | refine blk_alloc ?_ _)); refine blk_put (cs := #[.int .i64 t954, .int .i64 t955, .int .i64 t956, .slice Ao23 t957.length co23, .slice Ao24 t960.length co24, .string t963, .string t964, .int .i64 0]) ?_ 7 _ rfl; (with_reducible repeat (first | refine blk_drewN ?_ _ | refine blk_drew ?_ | refine blk_alloc ?_ _)); refine blk_put (cs := #[.int .i64 t954, .int .i64 t955, .int .i64 t956, .slice Ao23 t957.length co23, .slice Ao24 t960.length co24, .string t963, .string (⟨#[]⟩ : ByteArray), .int .i64 0]) ?_ 6 _ rfl; (with_reducible repeat (first | refine blk_drewN ?_ _ | refine blk_drew ?_ | refine blk_alloc ?_ _)); refine blk_put (cs := #[.int .i64 t954, .int .i64 t955, .int .i64 t956, .slice Ao23 t957.length co23, .slice Ao24 t960.length co24, .string (⟨#[]⟩ : ByteArray), .string (⟨#[]⟩ : ByteArray), .int .i64 0]) ?_ 5 _ rfl; (with_reducible repeat (first | refine blk_drewN ?_ _ | refine blk_drew ?_ | refine blk_alloc ?_ _)); refine blk_put (cs := #[.int .i64 t954, .int .i64 t955, .int .i64 t956, .slice Ao23 t957.length co23, .slice none 0 0, .string (⟨#[]⟩ : ByteArray), .string (⟨#[]⟩ : ByteArray), .int .i64 0]) ?_ 4 _ rfl; (with_reducible repeat (first | refine blk_drewN ?_ _ | refine blk_drew ?_ | refine blk_alloc ?_ _)); refine blk_put (cs := #[.int .i64 t954, .int .i64 t955, .int .i64 t956, .slice none 0 0, .slice none 0 0, .string (⟨#[]⟩ : ByteArray), .string (⟨#[]⟩ : ByteArray), .int .i64 0]) ?_ 3 _ rfl; (with_reducible repeat (first | refine blk_drewN ?_ _ | refine blk_drew ?_ | refine blk_alloc ?_ _)); refine blk_put (cs := #[.int .i64 t954, .int .i64 t955, .int .i64 0, .slice none 0 0, .slice none 0 0, .string (⟨#[]⟩ : ByteArray), .string (⟨#[]⟩ : ByteArray), .int .i64 0]) ?_ 2 _ rfl; (with_reducible repeat (first | refine blk_drewN ?_ _ | refine blk_drew ?_ | refine blk_alloc ?_ _)); refine blk_put (cs := #[.int .i64 t954, .int .i64 0, .int .i64 0, .slice none 0 0, .slice none 0 0, .string (⟨#[]⟩ : ByteArray), .string (⟨#[]⟩ : ByteArray), .int .i64 0]) ?_ 1 _ rfl; (with_reducible repeat (first | refine blk_drewN ?_ _ | refine blk_drew ?_ | refine blk_alloc ?_ _)); refine blk_put (cs := #[.int .i64 0, .int .i64 0, .int .i64 0, .slice none 0 0, .slice none 0 0, .string (⟨#[]⟩ : ByteArray), .string (⟨#[]⟩ : ByteArray), .int .i64 0]) ?_ 0 _ rfl; exact bs BK967.out) hb); have n8_ := Aside0.mk (below_step (by repeat (first | (with_reducible first | exact bw HB.out | refine bset ?_ | apply bA | apply bN | apply bD) | exact HB.out)) hb); replace HO950 := n0_; replace HO953 := n1_; replace HO959 := n2_; replace HO962 := n3_; have HO973 := n4_; have HO976 := n5_; replace BK943 := n6_; replace BK967 := n7_; replace HB := n8_; clear n0_ n1_ n2_ n3_ n4_ n5_ n6_ n7_ n8_; (try clear hb); (try clear hb2); (try clear hk); (try clear hi); (try clear ho0); (try clear ho1)) | ((with_reducible refine gate_dst (N := 6) rfl ?_); refine box_event ?hg (N := 6) ?hd (cs := #[.int .i64 0, .int .i64 0, .int .i64 0, .slice none 0 0, .slice none 0 0]) (t := 25) ?hr ?_; (case hd => rfl); (case hg => rfl); (case hr => first | (go_simp; done) | (go_simp; rfl)); intro gb977 hg w27 hbox hb; have n0_ := Aside0.mk (Kd.R_below (bR HO950.out) hb); have n1_ := Aside0.mk (Kd.R_below (bR HO953.out) hb); have n2_ := Aside0.mk (Kd.R_below (bR HO959.out) hb); have n3_ := Aside0.mk (Kd.R_below (bR HO962.out) hb); have n4_ := Aside0.mk (Kd.R_below (bR HO973.out) hb); have n5_ := Aside0.mk (Kd.R_below (bR HO976.out) hb); have n6_ := Aside0.mk (blk_below (bs BK943.out) hb); have n7_ := Aside0.mk (blk_below (bs BK967.out) hb); have n8_ := Aside0.mk (below_step (by repeat (first | (with_reducible first | exact bw HB.out | refine bset ?_ | apply bA | apply bN | apply bD) | exact HB.out)) hb); have n9_ := Aside0.mk (hbox); have n10_ := Aside0.mk ((by rw [hg]; exact (below_size (by repeat (first | (with_reducible first | exact bw HB.out | refine bset ?_ | apply bA | apply bN | apply bD) | exact HB.out))) : w.heap.size ≤ gb977)); have n11_ := Aside0.mk ((by rw [hg]; exact (below_size (by repeat (first | (with_reducible first | exact bw HB.out | refine bset ?_ | apply bA | apply bN | apply bD) | exact HB.out))) : w.heap.size ≤ gb977)); have n12_ := ne_ hg BK943.out; have n13_ := en_ hg BK943.out; have n14_ := ne_ hg BK967.out; have n15_ := en_ hg BK967.out; replace HO950 := n0_; replace HO953 := n1_; replace HO959 := n2_; replace HO962 := n3_; replace HO973 := n4_; replace HO976 := n5_; replace BK943 := n6_; replace BK967 := n7_; replace HB := n8_; have BK977 := n9_; have GW977 := n10_; have GE977 := n11_; have NB943_977 := n12_; have NB977_943 := n13_; have NB967_977 := n14_; have NB977_967 := n15_; clear n0_ n1_ n2_ n3_ n4_ n5_ n6_ n7_ n8_ n9_ n10_ n11_ n12_ n13_ n14_ n15_; clear hb hbox hg; have hnb28 := NB977_943.out; have hnc28 := NB943_977.out; have hnb29 := NB977_967.out; have hnc29 := NB967_977.out; obtain ⟨hcz30_0, hcz30_1, hcz30_2, hcz30_3, hcz30_4, hfz30_0, hfz30_1, hfz30_2, hfz30_3, hfz30_4⟩ := bz5 BK977.out; obtain ⟨Ao31, co31, eo31⟩ := Kd.R_slice HO973.out; subst eo31; obtain ⟨Ao32, co32, eo32⟩ := Kd.R_slice HO976.out; subst eo32) | ((with_reducible refine gate_callee (f := 51) rfl ?_); refine goesL_ (some 29) rfl rfl Try.func51 (by kernel_rfl) rfl #[.agg #[.int .i64 t968, .int .i64 t969, .int .i64 t970, .slice Ao31 t971.length co31, .slice Ao32 t974.length co32]] rfl (by (try simp only [mA_]); first | done | rfl | (simp only [List.length_drop, List.length_take]; rfl)) ?_; (with_reducible refine (impl_NewConsole.calls k t968 t969 t970 _ _ t971 _ _ t974 t978 t979 t980 t981 t984 t987 t988 t989 t990 _ ?side1 ?side2 ?side3 ?side4 A10.out).mono ?_); (case side1 => refine (Kd.R_reads' (e := 137) (base := w.heap.size) (ok := fun k_ => ((True ∧ some k_ ≠ (.slice Ao17 t948.length co17 : Value).ownBlock) ∧ some k_ ≠ (.slice Ao23 t957.length co23 : Value).ownBlock)) (n := t971.length) (c := co31) ?_).2.2; exact (by (with_reducible repeat (first | apply Kd.R_alloc | apply Kd.R_drewN | apply Kd.R_drew)); exact (Kd.R_mono (Kd.R_far (p := ⟨gb977, 4, none⟩) (Kd.R_far (p := ⟨gb977, 3, none⟩) (Kd.R_far (p := ⟨gb977, 2, none⟩) (Kd.R_far (p := ⟨gb977, 1, none⟩) (Kd.R_far (p := ⟨gb977, 0, none⟩) (Kd.R_types HO973.out BK977.out (by decide)) (fun _ hk => hk.2) (.int .i64 t968)) (fun _ hk => hk.2) (.int .i64 t969)) (fun _ hk => hk.2) (.int .i64 t970)) (fun _ hk => hk.2) (.slice Ao31 t971.length co31)) (fun _ hk => hk.2) (.slice Ao32 t974.length co32)) (fun _ h_ => h_.1)))); (case side2 => exact (Kd.R_reads' HO973.out).2.1); (case side3 => refine (Kd.R_reads' (e := 135) (base := w.heap.size) (ok := fun k_ => ((True ∧ some k_ ≠ (.slice Ao18 t951.length co18 : Value).ownBlock) ∧ some k_ ≠ (.slice Ao24 t960.length co24 : Value).ownBlock)) (n := t974.length) (c := co32) ?_).2.2; exact (by (with_reducible repeat (first | apply Kd.R_alloc | apply Kd.R_drewN | apply Kd.R_drew)); exact (Kd.R_mono (Kd.R_far (p := ⟨gb977, 4, none⟩) (Kd.R_far (p := ⟨gb977, 3, none⟩) (Kd.R_far (p := ⟨gb977, 2, none⟩) (Kd.R_far (p := ⟨gb977, 1, none⟩) (Kd.R_far (p := ⟨gb977, 0, none⟩) (Kd.R_types HO976.out BK977.out (by decide)) (fun _ hk => hk.2) (.int .i64 t968)) (fun _ hk => hk.2) (.int .i64 t969)) (fun _ hk => hk.2) (.int .i64 t970)) (fun _ hk => hk.2) (.slice Ao31 t971.length co31)) (fun _ hk => hk.2) (.slice Ao32 t974.length co32)) (fun _ h_ => h_.1)))); (case side4 => exact (Kd.R_reads' HO976.out).2.1); rintro e w33 ⟨v982, v985, rfl, ho0, ho1, hb⟩; refine ⟨_, rfl, ?_⟩; have n0_ := Aside0.mk (Kd.R_elder' (by (with_reducible repeat (first | apply Kd.R_alloc | apply Kd.R_drewN | apply Kd.R_drew)); exact (Kd.R_mono (Kd.R_far (p := ⟨gb977, 4, none⟩) (Kd.R_far (p := ⟨gb977, 3, none⟩) (Kd.R_far (p := ⟨gb977, 2, none⟩) (Kd.R_far (p := ⟨gb977, 1, none⟩) (Kd.R_far (p := ⟨gb977, 0, none⟩) (Kd.R_types HO950.out BK977.out (by decide)) (fun _ hk => hk.2) (.int .i64 t968)) (fun _ hk => hk.2) (.int .i64 t969)) (fun _ hk => hk.2) (.int .i64 t970)) (fun _ hk => hk.2) (.slice Ao31 t971.length co31)) (fun _ hk => hk.2) (.slice Ao32 t974.length co32)) (fun _ h_ => h_.1))) (Kd.R_base ho0) hb); have n1_ := Aside0.mk (Kd.R_elder' (by (with_reducible repeat (first | apply Kd.R_alloc | apply Kd.R_drewN | apply Kd.R_drew)); exact (Kd.R_mono (Kd.R_far (p := ⟨gb977, 4, none⟩) (Kd.R_far (p := ⟨gb977, 3, none⟩) (Kd.R_far (p := ⟨gb977, 2, none⟩) (Kd.R_far (p := ⟨gb977, 1, none⟩) (Kd.R_far (p := ⟨gb977, 0, none⟩) (Kd.R_types HO953.out BK977.out (by decide)) (fun _ hk => hk.2) (.int .i64 t968)) (fun _ hk => hk.2) (.int .i64 t969)) (fun _ hk => hk.2) (.int .i64 t970)) (fun _ hk => hk.2) (.slice Ao31 t971.length co31)) (fun _ hk => hk.2) (.slice Ao32 t974.length co32)) (fun _ h_ => h_.1))) (Kd.R_base ho1) hb); have n2_ := Aside0.mk (Kd.R_elder' (by (with_reducible repeat (first | apply Kd.R_alloc | apply Kd.R_drewN | apply Kd.R_drew)); exact (Kd.R_mono (Kd.R_far (p := ⟨gb977, 4, none⟩) (Kd.R_far (p := ⟨gb977, 3, none⟩) (Kd.R_far (p := ⟨gb977, 2, none⟩) (Kd.R_far (p := ⟨gb977, 1, none⟩) (Kd.R_far (p := ⟨gb977, 0, none⟩) (Kd.R_types HO959.out BK977.out (by decide)) (fun _ hk => hk.2) (.int .i64 t968)) (fun _ hk => hk.2) (.int .i64 t969)) (fun _ hk => hk.2) (.int .i64 t970)) (fun _ hk => hk.2) (.slice Ao31 t971.length co31)) (fun _ hk => hk.2) (.slice Ao32 t974.length co32)) (fun _ h_ => h_.1))) (Kd.R_base ho0) hb); have n3_ := Aside0.mk (Kd.R_elder' (by (with_reducible repeat (first | apply Kd.R_alloc | apply Kd.R_drewN | apply Kd.R_drew)); exact (Kd.R_mono (Kd.R_far (p := ⟨gb977, 4, none⟩) (Kd.R_far (p := ⟨gb977, 3, none⟩) (Kd.R_far (p := ⟨gb977, 2, none⟩) (Kd.R_far (p := ⟨gb977, 1, none⟩) (Kd.R_far (p := ⟨gb977, 0, none⟩) (Kd.R_types HO962.out BK977.out (by decide)) (fun _ hk => hk.2) (.int .i64 t968)) (fun _ hk => hk.2) (.int .i64 t969)) (fun _ hk => hk.2) (.int .i64 t970)) (fun _ hk => hk.2) (.slice Ao31 t971.length co31)) (fun _ hk => hk.2) (.slice Ao32 t974.length co32)) (fun _ h_ => h_.1))) (Kd.R_base ho1) hb); have n4_ := Aside0.mk (Kd.R_elder' (by (with_reducible repeat (first | apply Kd.R_alloc | apply Kd.R_drewN | apply Kd.R_drew)); exact (Kd.R_mono (Kd.R_far (p := ⟨gb977, 4, none⟩) (Kd.R_far (p := ⟨gb977, 3, none⟩) (Kd.R_far (p := ⟨gb977, 2, none⟩) (Kd.R_far (p := ⟨gb977, 1, none⟩) (Kd.R_far (p := ⟨gb977, 0, none⟩) (Kd.R_types HO973.out BK977.out (by decide)) (fun _ hk => hk.2) (.int .i64 t968)) (fun _ hk => hk.2) (.int .i64 t969)) (fun _ hk => hk.2) (.int .i64 t970)) (fun _ hk => hk.2) (.slice Ao31 t971.length co31)) (fun _ hk => hk.2) (.slice Ao32 t974.length co32)) (fun _ h_ => h_.1))) (Kd.R_base ho0) hb); have n5_ := Aside0.mk (Kd.R_elder' (by (with_reducible repeat (first | apply Kd.R_alloc | apply Kd.R_drewN | apply Kd.R_drew)); exact (Kd.R_mono (Kd.R_far (p := ⟨gb977, 4, none⟩) (Kd.R_far (p := ⟨gb977, 3, none⟩) (Kd.R_far (p := ⟨gb977, 2, none⟩) (Kd.R_far (p := ⟨gb977, 1, none⟩) (Kd.R_far (p := ⟨gb977, 0, none⟩) (Kd.R_types HO976.out BK977.out (by decide)) (fun _ hk => hk.2) (.int .i64 t968)) (fun _ hk => hk.2) (.int .i64 t969)) (fun _ hk => hk.2) (.int .i64 t970)) (fun _ hk => hk.2) (.slice Ao31 t971.length co31)) (fun _ hk => hk.2) (.slice Ao32 t974.length co32)) (fun _ h_ => h_.1))) (Kd.R_base ho1) hb); have n6_ := Aside0.mk (Kd.R_lower (Kd.R_new' (Kd.R_new' (Kd.R_new' ho0 (Kd.R_lt (by (with_reducible repeat (first | apply Kd.R_alloc | apply Kd.R_drewN | apply Kd.R_drew)); exact (Kd.R_mono (Kd.R_far (p := ⟨gb977, 4, none⟩) (Kd.R_far (p := ⟨gb977, 3, none⟩) (Kd.R_far (p := ⟨gb977, 2, none⟩) (Kd.R_far (p := ⟨gb977, 1, none⟩) (Kd.R_far (p := ⟨gb977, 0, none⟩) (Kd.R_types HO950.out BK977.out (by decide)) (fun _ hk => hk.2) (.int .i64 t968)) (fun _ hk => hk.2) (.int .i64 t969)) (fun _ hk => hk.2) (.int .i64 t970)) (fun _ hk => hk.2) (.slice Ao31 t971.length co31)) (fun _ hk => hk.2) (.slice Ao32 t974.length co32)) (fun _ h_ => h_.1))))) (Kd.R_lt (by (with_reducible repeat (first | apply Kd.R_alloc | apply Kd.R_drewN | apply Kd.R_drew)); exact (Kd.R_mono (Kd.R_far (p := ⟨gb977, 4, none⟩) (Kd.R_far (p := ⟨gb977, 3, none⟩) (Kd.R_far (p := ⟨gb977, 2, none⟩) (Kd.R_far (p := ⟨gb977, 1, none⟩) (Kd.R_far (p := ⟨gb977, 0, none⟩) (Kd.R_types HO959.out BK977.out (by decide)) (fun _ hk => hk.2) (.int .i64 t968)) (fun _ hk => hk.2) (.int .i64 t969)) (fun _ hk => hk.2) (.int .i64 t970)) (fun _ hk => hk.2) (.slice Ao31 t971.length co31)) (fun _ hk => hk.2) (.slice Ao32 t974.length co32)) (fun _ h_ => h_.1))))) (Kd.R_lt (by (with_reducible repeat (first | apply Kd.R_alloc | apply Kd.R_drewN | apply Kd.R_drew)); exact (Kd.R_mono (Kd.R_far (p := ⟨gb977, 4, none⟩) (Kd.R_far (p := ⟨gb977, 3, none⟩) (Kd.R_far (p := ⟨gb977, 2, none⟩) (Kd.R_far (p := ⟨gb977, 1, none⟩) (Kd.R_far (p := ⟨gb977, 0, none⟩) (Kd.R_types HO973.out BK977.out (by decide)) (fun _ hk => hk.2) (.int .i64 t968)) (fun _ hk => hk.2) (.int .i64 t969)) (fun _ hk => hk.2) (.int .i64 t970)) (fun _ hk => hk.2) (.slice Ao31 t971.length co31)) (fun _ hk => hk.2) (.slice Ao32 t974.length co32)) (fun _ h_ => h_.1))))) (below_size (by repeat (first | (with_reducible first | exact bw HB.out | refine bset ?_ | apply bA | apply bN | apply bD) | exact HB.out)))); have n7_ := Aside0.mk (Kd.R_lower (Kd.R_new' (Kd.R_new' (Kd.R_new' ho1 (Kd.R_lt (by (with_reducible repeat (first | apply Kd.R_alloc | apply Kd.R_drewN | apply Kd.R_drew)); exact (Kd.R_mono (Kd.R_far (p := ⟨gb977, 4, none⟩) (Kd.R_far (p := ⟨gb977, 3, none⟩) (Kd.R_far (p := ⟨gb977, 2, none⟩) (Kd.R_far (p := ⟨gb977, 1, none⟩) (Kd.R_far (p := ⟨gb977, 0, none⟩) (Kd.R_types HO953.out BK977.out (by decide)) (fun _ hk => hk.2) (.int .i64 t968)) (fun _ hk => hk.2) (.int .i64 t969)) (fun _ hk => hk.2) (.int .i64 t970)) (fun _ hk => hk.2) (.slice Ao31 t971.length co31)) (fun _ hk => hk.2) (.slice Ao32 t974.length co32)) (fun _ h_ => h_.1))))) (Kd.R_lt (by (with_reducible repeat (first | apply Kd.R_alloc | apply Kd.R_drewN | apply Kd.R_drew)); exact (Kd.R_mono (Kd.R_far (p := ⟨gb977, 4, none⟩) (Kd.R_far (p := ⟨gb977, 3, none⟩) (Kd.R_far (p := ⟨gb977, 2, none⟩) (Kd.R_far (p := ⟨gb977, 1, none⟩) (Kd.R_far (p := ⟨gb977, 0, none⟩) (Kd.R_types HO962.out BK977.out (by decide)) (fun _ hk => hk.2) (.int .i64 t968)) (fun _ hk => hk.2) (.int .i64 t969)) (fun _ hk => hk.2) (.int .i64 t970)) (fun _ hk => hk.2) (.slice Ao31 t971.length co31)) (fun _ hk => hk.2) (.slice Ao32 t974.length co32)) (fun _ h_ => h_.1))))) (Kd.R_lt (by (with_reducible repeat (first | apply Kd.R_alloc | apply Kd.R_drewN | apply Kd.R_drew)); exact (Kd.R_mono (Kd.R_far (p := ⟨gb977, 4, none⟩) (Kd.R_far (p := ⟨gb977, 3, none⟩) (Kd.R_far (p := ⟨gb977, 2, none⟩) (Kd.R_far (p := ⟨gb977, 1, none⟩) (Kd.R_far (p := ⟨gb977, 0, none⟩) (Kd.R_types HO976.out BK977.out (by decide)) (fun _ hk => hk.2) (.int .i64 t968)) (fun _ hk => hk.2) (.int .i64 t969)) (fun _ hk => hk.2) (.int .i64 t970)) (fun _ hk => hk.2) (.slice Ao31 t971.length co31)) (fun _ hk => hk.2) (.slice Ao32 t974.length co32)) (fun _ h_ => h_.1))))) (below_size (by repeat (first | (with_reducible first | exact bw HB.out | refine bset ?_ | apply bA | apply bN | apply bD) | exact HB.out)))); have n8_ := Aside0.mk (blk_below (g := gb943) (o := .cells #[.int .i64 a0_0, .int .i64 a0_1, .int .i64 a0_2, .slice A0_3 l0_3.length c0_3, .slice A0_4 l0_4.length c0_4] 59 (0, 0)) (by (with_reducible repeat (first | refine blk_drewN ?_ _ | refine blk_drew ?_ | refine blk_alloc ?_ _)); refine blk_far ?_ NB943_977.out _; (with_reducible repeat (first | refine blk_drewN ?_ _ | refine blk_drew ?_ | refine blk_alloc ?_ _)); refine blk_far ?_ NB943_977.out _; (with_reducible repeat (first | refine blk_drewN ?_ _ | refine blk_drew ?_ | refine blk_alloc ?_ _)); refine blk_far ?_ NB943_977.out _; (with_reducible repeat (first | refine blk_drewN ?_ _ | refine blk_drew ?_ | refine blk_alloc ?_ _)); refine blk_far ?_ NB943_977.out _; (with_reducible repeat (first | refine blk_drewN ?_ _ | refine blk_drew ?_ | refine blk_alloc ?_ _)); refine blk_far ?_ NB943_977.out _; exact bs BK943.out) hb); have n9_ := Aside0.mk (blk_below (g := gb967) (o := .cells #[.int .i64 t954, .int .i64 t955, .int .i64 t956, .slice Ao23 t957.length co23, .slice Ao24 t960.length co24, .string t963, .string t964, .int .i64 t965] 72 (0, 0)) (by (with_reducible repeat (first | refine blk_drewN ?_ _ | refine blk_drew ?_ | refine blk_alloc ?_ _)); refine blk_far ?_ NB967_977.out _; (with_reducible repeat (first | refine blk_drewN ?_ _ | refine blk_drew ?_ | refine blk_alloc ?_ _)); refine blk_far ?_ NB967_977.out _; (with_reducible repeat (first | refine blk_drewN ?_ _ | refine blk_drew ?_ | refine blk_alloc ?_ _)); refine blk_far ?_ NB967_977.out _; (with_reducible repeat (first | refine blk_drewN ?_ _ | refine blk_drew ?_ | refine blk_alloc ?_ _)); refine blk_far ?_ NB967_977.out _; (with_reducible repeat (first | refine blk_drewN ?_ _ | refine blk_drew ?_ | refine blk_alloc ?_ _)); refine blk_far ?_ NB967_977.out _; exact bs BK967.out) hb); have n10_ := Aside0.mk (blk_below (g := gb977) (o := .cells #[.int .i64 t968, .int .i64 t969, .int .i64 t970, .slice Ao31 t971.length co31, .slice Ao32 t974.length co32] 25 (0, 0)) (by (with_reducible repeat (first | refine blk_drewN ?_ _ | refine blk_drew ?_ | refine blk_alloc ?_ _)); refine blk_put (cs := #[.int .i64 t968, .int .i64 t969, .int .i64 t970, .slice Ao31 t971.length co31, .slice none 0 0]) ?_ 4 _ rfl; (with_reducible repeat (first | refine blk_drewN ?_ _ | refine blk_drew ?_ | refine blk_alloc ?_ _)); refine blk_put (cs := #[.int .i64 t968, .int .i64 t969, .int .i64 t970, .slice none 0 0, .slice none 0 0]) ?_ 3 _ rfl; (with_reducible repeat (first | refine blk_drewN ?_ _ | refine blk_drew ?_ | refine blk_alloc ?_ _)); refine blk_put (cs := #[.int .i64 t968, .int .i64 t969, .int .i64 0, .slice none 0 0, .slice none 0 0]) ?_ 2 _ rfl; (with_reducible repeat (first | refine blk_drewN ?_ _ | refine blk_drew ?_ | refine blk_alloc ?_ _)); refine blk_put (cs := #[.int .i64 t968, .int .i64 0, .int .i64 0, .slice none 0 0, .slice none 0 0]) ?_ 1 _ rfl; (with_reducible repeat (first | refine blk_drewN ?_ _ | refine blk_drew ?_ | refine blk_alloc ?_ _)); refine blk_put (cs := #[.int .i64 0, .int .i64 0, .int .i64 0, .slice none 0 0, .slice none 0 0]) ?_ 0 _ rfl; exact bs BK977.out) hb); have n11_ := Aside0.mk (below_step (by repeat (first | (with_reducible first | exact bw HB.out | refine bset ?_ | apply bA | apply bN | apply bD) | exact HB.out)) hb); replace HO950 := n0_; replace HO953 := n1_; replace HO959 := n2_; replace HO962 := n3_; replace HO973 := n4_; replace HO976 := n5_; have HO983 := n6_; have HO986 := n7_; replace BK943 := n8_; replace BK967 := n9_; replace BK977 := n10_; replace HB := n11_; clear n0_ n1_ n2_ n3_ n4_ n5_ n6_ n7_ n8_ n9_ n10_ n11_; (try clear hb); (try clear hb2); (try clear hk); (try clear hi); (try clear ho0); (try clear ho1)) | ((with_reducible refine gate_dst (N := 7) rfl ?_); refine box_event ?hg (N := 7) ?hd (cs := #[.int .i64 0, .int .i64 0, .int .i64 0, .slice none 0 0, .slice none 0 0, .string (⟨#[]⟩ : ByteArray), .string (⟨#[]⟩ : ByteArray), .int .i64 0]) (t := 72) ?hr ?_; (case hd => rfl); (case hg => rfl); (case hr => first | (go_simp; done) | (go_simp; rfl)); intro gb991 hg w34 hbox hb; have n0_ := Aside0.mk (Kd.R_below (bR HO950.out) hb); have n1_ := Aside0.mk (Kd.R_below (bR HO953.out) hb); have n2_ := Aside0.mk (Kd.R_below (bR HO959.out) hb); have n3_ := Aside0.mk (Kd.R_below (bR HO962.out) hb); have n4_ := Aside0.mk (Kd.R_below (bR HO973.out) hb); have n5_ := Aside0.mk (Kd.R_below (bR HO976.out) hb); have n6_ := Aside0.mk (Kd.R_below (bR HO983.out) hb); have n7_ := Aside0.mk (Kd.R_below (bR HO986.out) hb); have n8_ := Aside0.mk (blk_below (bs BK943.out) hb); have n9_ := Aside0.mk (blk_below (bs BK967.out) hb); have n10_ := Aside0.mk (blk_below (bs BK977.out) hb); have n11_ := Aside0.mk (below_step (by repeat (first | (with_reducible first | exact bw HB.out | refine bset ?_ | apply bA | apply bN | apply bD) | exact HB.out)) hb); have n12_ := Aside0.mk (hbox); have n13_ := Aside0.mk ((by rw [hg]; exact (below_size (by repeat (first | (with_reducible first | exact bw HB.out | refine bset ?_ | apply bA | apply bN | apply bD) | exact HB.out))) : w.heap.size ≤ gb991)); have n14_ := Aside0.mk ((by rw [hg]; exact (below_size (by repeat (first | (with_reducible first | exact bw HB.out | refine bset ?_ | apply bA | apply bN | apply bD) | exact HB.out))) : w.heap.size ≤ gb991)); have n15_ := ne_ hg BK943.out; have n16_ := en_ hg BK943.out; have n17_ := ne_ hg BK967.out; have n18_ := en_ hg BK967.out; have n19_ := ne_ hg BK977.out; have n20_ := en_ hg BK977.out; replace HO950 := n0_; replace HO953 := n1_; replace HO959 := n2_; replace HO962 := n3_; replace HO973 := n4_; replace HO976 := n5_; replace HO983 := n6_; replace HO986 := n7_; replace BK943 := n8_; replace BK967 := n9_; replace BK977 := n10_; replace HB := n11_; have BK991 := n12_; have GW991 := n13_; have GE991 := n14_; have NB943_991 := n15_; have NB991_943 := n16_; have NB967_991 := n17_; have NB991_967 := n18_; have NB977_991 := n19_; have NB991_977 := n20_; clear n0_ n1_ n2_ n3_ n4_ n5_ n6_ n7_ n8_ n9_ n10_ n11_ n12_ n13_ n14_ n15_ n16_ n17_ n18_ n19_ n20_; clear hb hbox hg; have hnb35 := NB991_943.out; have hnc35 := NB943_991.out; have hnb36 := NB991_967.out; have hnc36 := NB967_991.out; have hnb37 := NB991_977.out; have hnc37 := NB977_991.out; obtain ⟨hcz38_0, hcz38_1, hcz38_2, hcz38_3, hcz38_4, hcz38_5, hcz38_6, hcz38_7, hfz38_0, hfz38_1, hfz38_2, hfz38_3, hfz38_4, hfz38_5, hfz38_6, hfz38_7⟩ := bz8 BK991.out; obtain ⟨Ao39, co39, eo39⟩ := Kd.R_slice HO983.out; subst eo39; obtain ⟨Ao40, co40, eo40⟩ := Kd.R_slice HO986.out; subst eo40))
 (try simp only [Act.put, List.setIfInBounds_toArray, List.set_cons_zero, List.set_cons_succ])
 go_cut [40] (fun v40 wc => ∃ (kq : Nat) (x40_10 : Bool), v40 = .bool x40_10 ∧ Aside0 (laws_FnExactNewConsole.j0 kq t966 t990 x40_10 a0_0 a0_1 a0_2 l0_3 l0_4 t954 t955 t956 t957 t960 t963 t964 t965 t968 t969 t970 t971 t974 t978 t979 t980 t981 t984 t987 t988 t989 = some r) ∧ Aside0 (kq ≤ k) ∧ Aside0 (Kd.R k137 137 wc w.heap.size (fun k_ => some k_ ≠ ((.slice Ao31 t971.length co31) : Value).ownBlock ∧ some k_ ≠ ((.slice Ao39 t981.length co39) : Value).ownBlock) (.slice Ao23 t957.length co23) t957) ∧ Aside0 (Kd.R k135 135 wc w.heap.size (fun k_ => some k_ ≠ ((.slice Ao32 t974.length co32) : Value).ownBlock ∧ some k_ ≠ ((.slice Ao40 t984.length co40) : Value).ownBlock) (.slice Ao24 t960.length co24) t960) ∧ Aside0 (Kd.R k137 137 wc w.heap.size (fun k_ => some k_ ≠ ((.slice Ao23 t957.length co23) : Value).ownBlock ∧ some k_ ≠ ((.slice Ao39 t981.length co39) : Value).ownBlock) (.slice Ao31 t971.length co31) t971) ∧ Aside0 (Kd.R k135 135 wc w.heap.size (fun k_ => some k_ ≠ ((.slice Ao24 t960.length co24) : Value).ownBlock ∧ some k_ ≠ ((.slice Ao40 t984.length co40) : Value).ownBlock) (.slice Ao32 t974.length co32) t974) ∧ Aside0 (Kd.R k137 137 wc w.heap.size (fun k_ => some k_ ≠ ((.slice Ao23 t957.length co23) : Value).ownBlock ∧ some k_ ≠ ((.slice Ao31 t971.length co31) : Value).ownBlock) (.slice Ao39 t981.length co39) t981) ∧ Aside0 (Kd.R k135 135 wc w.heap.size (fun k_ => some k_ ≠ ((.slice Ao24 t960.length co24) : Value).ownBlock ∧ some k_ ≠ ((.slice Ao32 t974.length co32) : Value).ownBlock) (.slice Ao40 t984.length co40) t984) ∧ Aside0 (wc.heap[gb943]? = some (.cells #[.int .i64 a0_0, .int .i64 a0_1, .int .i64 a0_2, (.slice A0_3 l0_3.length c0_3), (.slice A0_4 l0_4.length c0_4)] 59 (0, 0))) ∧ Aside0 (wc.heap[gb967]? = some (.cells #[.int .i64 t954, .int .i64 t955, .int .i64 t956, (.slice Ao23 t957.length co23), (.slice Ao24 t960.length co24), .string t963, .string t964, .int .i64 t965] 72 (0, 0))) ∧ Aside0 (wc.heap[gb977]? = some (.cells #[.int .i64 t968, .int .i64 t969, .int .i64 t970, (.slice Ao31 t971.length co31), (.slice Ao32 t974.length co32)] 25 (0, 0))) ∧ Aside0 (wc.heap[gb991]? = some (.cells #[.int .i64 t978, .int .i64 t979, .int .i64 t980, (.slice Ao39 t981.length co39), (.slice Ao40 t984.length co40), .string t987, .string t988, .int .i64 t989] 72 (0, 0))) ∧ Aside0 (Below w.heap.size w wc))
 case first =>
  have H := HC11.out
  clear HC11
  replace H := Option.bind_eq_some_iff.mp H
  obtain ⟨t992, A410, H⟩ := H
  replace H : (if t992 = true then (laws_FnExactNewConsole.j0 k t966 t990 (t990 != t966) a0_0 a0_1 a0_2 l0_3 l0_4 t954 t955 t956 t957 t960 t963 t964 t965 t968 t969 t970 t971 t974 t978 t979 t980 t981 t984 t987 t988 t989) else (laws_FnExactNewConsole.j0 k t966 t990 true a0_0 a0_1 a0_2 l0_3 l0_4 t954 t955 t956 t957 t960 t963 t964 t965 t968 t969 t970 t971 t974 t978 t979 t980 t981 t984 t987 t988 t989)) = some r := H
  have A41 := Aside0.mk A410
  clear A410
  by_cases c42 : t992 = true
  ·subst c42
   have H1 : (laws_FnExactNewConsole.j0 k t966 t990 (t990 != t966) a0_0 a0_1 a0_2 l0_3 l0_4 t954 t955 t956 t957 t960 t963 t964 t965 t968 t969 t970 t971 t974 t978 t979 t980 t981 t984 t987 t988 t989) = some r := by rw [if_pos rfl] at H; exact H
   clear H
   have H := H1
   clear H1
   have H' := Aside0.mk H
   clear H
   have hnb43 := NB991_943.out
   have hnc43 := NB943_991.out
   have hnb44 := NB991_967.out
   have hnc44 := NB967_991.out
   have hnb45 := NB991_977.out
   have hnc45 := NB977_991.out
   obtain ⟨hcz46_0, hcz46_1, hcz46_2, hcz46_3, hcz46_4, hcz46_5, hcz46_6, hcz46_7, hfz46_0, hfz46_1, hfz46_2, hfz46_3, hfz46_4, hfz46_5, hfz46_6, hfz46_7⟩ := bz8 BK991.out
   have hnb47 := NB967_943.out
   have hnc47 := NB943_967.out
   have hnb48 := NB967_977.out
   have hnc48 := NB977_967.out
   obtain ⟨hcz49_0, hcz49_1, hcz49_2, hcz49_3, hcz49_4, hcz49_5, hcz49_6, hcz49_7, hfz49_0, hfz49_1, hfz49_2, hfz49_3, hfz49_4, hfz49_5, hfz49_6, hfz49_7⟩ := bz8 BK967.out
   go_wp2_with (first | ((with_reducible refine gate_callee (f := 52) rfl ?_); refine goesL_ (some 34) rfl rfl Try.func52 (by kernel_rfl) rfl #[.agg #[.int .i64 t978, .int .i64 t979, .int .i64 t980, .slice Ao39 t981.length co39, .slice Ao40 t984.length co40, .string t987, .string t988, .int .i64 t989], .agg #[.int .i64 t954, .int .i64 t955, .int .i64 t956, .slice Ao23 t957.length co23, .slice Ao24 t960.length co24, .string t963, .string t964, .int .i64 t965]] rfl (by (try simp only [mA_]); first | done | rfl | (simp only [List.length_drop, List.length_take]; rfl)) ?_; (with_reducible refine (laws_eqConsole.calls k t978 t979 t980 _ _ t981 _ _ t984 t987 t988 t989 t954 t955 t956 _ _ t957 _ _ t960 t963 t964 t965 true _ ?side1 ?side2 ?side3 ?side4 ?side5 ?side6 ?side7 ?side8 A41.out).mono ?_); (case side1 => refine (Kd.R_reads' (e := 137) (base := w.heap.size) (ok := fun k_ => (((True ∧ some k_ ≠ (.slice Ao17 t948.length co17 : Value).ownBlock) ∧ some k_ ≠ (.slice Ao23 t957.length co23 : Value).ownBlock) ∧ some k_ ≠ (.slice Ao31 t971.length co31 : Value).ownBlock)) (n := t981.length) (c := co39) ?_).2.2; exact (by (with_reducible repeat (first | apply Kd.R_alloc | apply Kd.R_drewN | apply Kd.R_drew)); exact (Kd.R_mono (Kd.R_far (p := ⟨gb991, 7, none⟩) (Kd.R_far (p := ⟨gb991, 6, none⟩) (Kd.R_far (p := ⟨gb991, 5, none⟩) (Kd.R_far (p := ⟨gb991, 4, none⟩) (Kd.R_far (p := ⟨gb991, 3, none⟩) (Kd.R_far (p := ⟨gb991, 2, none⟩) (Kd.R_far (p := ⟨gb991, 1, none⟩) (Kd.R_far (p := ⟨gb991, 0, none⟩) (Kd.R_types HO983.out BK991.out (by decide)) (fun _ hk => hk.2) (.int .i64 t978)) (fun _ hk => hk.2) (.int .i64 t979)) (fun _ hk => hk.2) (.int .i64 t980)) (fun _ hk => hk.2) (.slice Ao39 t981.length co39)) (fun _ hk => hk.2) (.slice Ao40 t984.length co40)) (fun _ hk => hk.2) (.string t987)) (fun _ hk => hk.2) (.string t988)) (fun _ hk => hk.2) (.int .i64 t989)) (fun _ h_ => h_.1)))); (case side2 => exact (Kd.R_reads' HO983.out).2.1); (case side3 => refine (Kd.R_reads' (e := 135) (base := w.heap.size) (ok := fun k_ => (((True ∧ some k_ ≠ (.slice Ao18 t951.length co18 : Value).ownBlock) ∧ some k_ ≠ (.slice Ao24 t960.length co24 : Value).ownBlock) ∧ some k_ ≠ (.slice Ao32 t974.length co32 : Value).ownBlock)) (n := t984.length) (c := co40) ?_).2.2; exact (by (with_reducible repeat (first | apply Kd.R_alloc | apply Kd.R_drewN | apply Kd.R_drew)); exact (Kd.R_mono (Kd.R_far (p := ⟨gb991, 7, none⟩) (Kd.R_far (p := ⟨gb991, 6, none⟩) (Kd.R_far (p := ⟨gb991, 5, none⟩) (Kd.R_far (p := ⟨gb991, 4, none⟩) (Kd.R_far (p := ⟨gb991, 3, none⟩) (Kd.R_far (p := ⟨gb991, 2, none⟩) (Kd.R_far (p := ⟨gb991, 1, none⟩) (Kd.R_far (p := ⟨gb991, 0, none⟩) (Kd.R_types HO986.out BK991.out (by decide)) (fun _ hk => hk.2) (.int .i64 t978)) (fun _ hk => hk.2) (.int .i64 t979)) (fun _ hk => hk.2) (.int .i64 t980)) (fun _ hk => hk.2) (.slice Ao39 t981.length co39)) (fun _ hk => hk.2) (.slice Ao40 t984.length co40)) (fun _ hk => hk.2) (.string t987)) (fun _ hk => hk.2) (.string t988)) (fun _ hk => hk.2) (.int .i64 t989)) (fun _ h_ => h_.1)))); (case side4 => exact (Kd.R_reads' HO986.out).2.1); (case side5 => refine (Kd.R_reads' (e := 137) (base := w.heap.size) (ok := fun k_ => (((True ∧ some k_ ≠ (.slice Ao17 t948.length co17 : Value).ownBlock) ∧ some k_ ≠ (.slice Ao31 t971.length co31 : Value).ownBlock) ∧ some k_ ≠ (.slice Ao39 t981.length co39 : Value).ownBlock)) (n := t957.length) (c := co23) ?_).2.2; exact (by (with_reducible repeat (first | apply Kd.R_alloc | apply Kd.R_drewN | apply Kd.R_drew)); exact (Kd.R_mono (Kd.R_far (p := ⟨gb991, 7, none⟩) (Kd.R_far (p := ⟨gb991, 6, none⟩) (Kd.R_far (p := ⟨gb991, 5, none⟩) (Kd.R_far (p := ⟨gb991, 4, none⟩) (Kd.R_far (p := ⟨gb991, 3, none⟩) (Kd.R_far (p := ⟨gb991, 2, none⟩) (Kd.R_far (p := ⟨gb991, 1, none⟩) (Kd.R_far (p := ⟨gb991, 0, none⟩) (Kd.R_types HO959.out BK991.out (by decide)) (fun _ hk => hk.2) (.int .i64 t978)) (fun _ hk => hk.2) (.int .i64 t979)) (fun _ hk => hk.2) (.int .i64 t980)) (fun _ hk => hk.2) (.slice Ao39 t981.length co39)) (fun _ hk => hk.2) (.slice Ao40 t984.length co40)) (fun _ hk => hk.2) (.string t987)) (fun _ hk => hk.2) (.string t988)) (fun _ hk => hk.2) (.int .i64 t989)) (fun _ h_ => h_.1)))); (case side6 => exact (Kd.R_reads' HO959.out).2.1); (case side7 => refine (Kd.R_reads' (e := 135) (base := w.heap.size) (ok := fun k_ => (((True ∧ some k_ ≠ (.slice Ao18 t951.length co18 : Value).ownBlock) ∧ some k_ ≠ (.slice Ao32 t974.length co32 : Value).ownBlock) ∧ some k_ ≠ (.slice Ao40 t984.length co40 : Value).ownBlock)) (n := t960.length) (c := co24) ?_).2.2; exact (by (with_reducible repeat (first | apply Kd.R_alloc | apply Kd.R_drewN | apply Kd.R_drew)); exact (Kd.R_mono (Kd.R_far (p := ⟨gb991, 7, none⟩) (Kd.R_far (p := ⟨gb991, 6, none⟩) (Kd.R_far (p := ⟨gb991, 5, none⟩) (Kd.R_far (p := ⟨gb991, 4, none⟩) (Kd.R_far (p := ⟨gb991, 3, none⟩) (Kd.R_far (p := ⟨gb991, 2, none⟩) (Kd.R_far (p := ⟨gb991, 1, none⟩) (Kd.R_far (p := ⟨gb991, 0, none⟩) (Kd.R_types HO962.out BK991.out (by decide)) (fun _ hk => hk.2) (.int .i64 t978)) (fun _ hk => hk.2) (.int .i64 t979)) (fun _ hk => hk.2) (.int .i64 t980)) (fun _ hk => hk.2) (.slice Ao39 t981.length co39)) (fun _ hk => hk.2) (.slice Ao40 t984.length co40)) (fun _ hk => hk.2) (.string t987)) (fun _ hk => hk.2) (.string t988)) (fun _ hk => hk.2) (.int .i64 t989)) (fun _ h_ => h_.1)))); (case side8 => exact (Kd.R_reads' HO962.out).2.1); rintro e w50 ⟨rfl, hb⟩; refine ⟨_, rfl, ?_⟩; have n0_ := Aside0.mk (Kd.R_below (by (with_reducible repeat (first | apply Kd.R_alloc | apply Kd.R_drewN | apply Kd.R_drew)); exact (Kd.R_mono (Kd.R_far (p := ⟨gb991, 7, none⟩) (Kd.R_far (p := ⟨gb991, 6, none⟩) (Kd.R_far (p := ⟨gb991, 5, none⟩) (Kd.R_far (p := ⟨gb991, 4, none⟩) (Kd.R_far (p := ⟨gb991, 3, none⟩) (Kd.R_far (p := ⟨gb991, 2, none⟩) (Kd.R_far (p := ⟨gb991, 1, none⟩) (Kd.R_far (p := ⟨gb991, 0, none⟩) (Kd.R_types HO950.out BK991.out (by decide)) (fun _ hk => hk.2) (.int .i64 t978)) (fun _ hk => hk.2) (.int .i64 t979)) (fun _ hk => hk.2) (.int .i64 t980)) (fun _ hk => hk.2) (.slice Ao39 t981.length co39)) (fun _ hk => hk.2) (.slice Ao40 t984.length co40)) (fun _ hk => hk.2) (.string t987)) (fun _ hk => hk.2) (.string t988)) (fun _ hk => hk.2) (.int .i64 t989)) (fun _ h_ => h_.1))) hb); have n1_ := Aside0.mk (Kd.R_below (by (with_reducible repeat (first | apply Kd.R_alloc | apply Kd.R_drewN | apply Kd.R_drew)); exact (Kd.R_mono (Kd.R_far (p := ⟨gb991, 7, none⟩) (Kd.R_far (p := ⟨gb991, 6, none⟩) (Kd.R_far (p := ⟨gb991, 5, none⟩) (Kd.R_far (p := ⟨gb991, 4, none⟩) (Kd.R_far (p := ⟨gb991, 3, none⟩) (Kd.R_far (p := ⟨gb991, 2, none⟩) (Kd.R_far (p := ⟨gb991, 1, none⟩) (Kd.R_far (p := ⟨gb991, 0, none⟩) (Kd.R_types HO953.out BK991.out (by decide)) (fun _ hk => hk.2) (.int .i64 t978)) (fun _ hk => hk.2) (.int .i64 t979)) (fun _ hk => hk.2) (.int .i64 t980)) (fun _ hk => hk.2) (.slice Ao39 t981.length co39)) (fun _ hk => hk.2) (.slice Ao40 t984.length co40)) (fun _ hk => hk.2) (.string t987)) (fun _ hk => hk.2) (.string t988)) (fun _ hk => hk.2) (.int .i64 t989)) (fun _ h_ => h_.1))) hb); have n2_ := Aside0.mk (Kd.R_below (by (with_reducible repeat (first | apply Kd.R_alloc | apply Kd.R_drewN | apply Kd.R_drew)); exact (Kd.R_mono (Kd.R_far (p := ⟨gb991, 7, none⟩) (Kd.R_far (p := ⟨gb991, 6, none⟩) (Kd.R_far (p := ⟨gb991, 5, none⟩) (Kd.R_far (p := ⟨gb991, 4, none⟩) (Kd.R_far (p := ⟨gb991, 3, none⟩) (Kd.R_far (p := ⟨gb991, 2, none⟩) (Kd.R_far (p := ⟨gb991, 1, none⟩) (Kd.R_far (p := ⟨gb991, 0, none⟩) (Kd.R_types HO959.out BK991.out (by decide)) (fun _ hk => hk.2) (.int .i64 t978)) (fun _ hk => hk.2) (.int .i64 t979)) (fun _ hk => hk.2) (.int .i64 t980)) (fun _ hk => hk.2) (.slice Ao39 t981.length co39)) (fun _ hk => hk.2) (.slice Ao40 t984.length co40)) (fun _ hk => hk.2) (.string t987)) (fun _ hk => hk.2) (.string t988)) (fun _ hk => hk.2) (.int .i64 t989)) (fun _ h_ => h_.1))) hb); have n3_ := Aside0.mk (Kd.R_below (by (with_reducible repeat (first | apply Kd.R_alloc | apply Kd.R_drewN | apply Kd.R_drew)); exact (Kd.R_mono (Kd.R_far (p := ⟨gb991, 7, none⟩) (Kd.R_far (p := ⟨gb991, 6, none⟩) (Kd.R_far (p := ⟨gb991, 5, none⟩) (Kd.R_far (p := ⟨gb991, 4, none⟩) (Kd.R_far (p := ⟨gb991, 3, none⟩) (Kd.R_far (p := ⟨gb991, 2, none⟩) (Kd.R_far (p := ⟨gb991, 1, none⟩) (Kd.R_far (p := ⟨gb991, 0, none⟩) (Kd.R_types HO962.out BK991.out (by decide)) (fun _ hk => hk.2) (.int .i64 t978)) (fun _ hk => hk.2) (.int .i64 t979)) (fun _ hk => hk.2) (.int .i64 t980)) (fun _ hk => hk.2) (.slice Ao39 t981.length co39)) (fun _ hk => hk.2) (.slice Ao40 t984.length co40)) (fun _ hk => hk.2) (.string t987)) (fun _ hk => hk.2) (.string t988)) (fun _ hk => hk.2) (.int .i64 t989)) (fun _ h_ => h_.1))) hb); have n4_ := Aside0.mk (Kd.R_below (by (with_reducible repeat (first | apply Kd.R_alloc | apply Kd.R_drewN | apply Kd.R_drew)); exact (Kd.R_mono (Kd.R_far (p := ⟨gb991, 7, none⟩) (Kd.R_far (p := ⟨gb991, 6, none⟩) (Kd.R_far (p := ⟨gb991, 5, none⟩) (Kd.R_far (p := ⟨gb991, 4, none⟩) (Kd.R_far (p := ⟨gb991, 3, none⟩) (Kd.R_far (p := ⟨gb991, 2, none⟩) (Kd.R_far (p := ⟨gb991, 1, none⟩) (Kd.R_far (p := ⟨gb991, 0, none⟩) (Kd.R_types HO973.out BK991.out (by decide)) (fun _ hk => hk.2) (.int .i64 t978)) (fun _ hk => hk.2) (.int .i64 t979)) (fun _ hk => hk.2) (.int .i64 t980)) (fun _ hk => hk.2) (.slice Ao39 t981.length co39)) (fun _ hk => hk.2) (.slice Ao40 t984.length co40)) (fun _ hk => hk.2) (.string t987)) (fun _ hk => hk.2) (.string t988)) (fun _ hk => hk.2) (.int .i64 t989)) (fun _ h_ => h_.1))) hb); have n5_ := Aside0.mk (Kd.R_below (by (with_reducible repeat (first | apply Kd.R_alloc | apply Kd.R_drewN | apply Kd.R_drew)); exact (Kd.R_mono (Kd.R_far (p := ⟨gb991, 7, none⟩) (Kd.R_far (p := ⟨gb991, 6, none⟩) (Kd.R_far (p := ⟨gb991, 5, none⟩) (Kd.R_far (p := ⟨gb991, 4, none⟩) (Kd.R_far (p := ⟨gb991, 3, none⟩) (Kd.R_far (p := ⟨gb991, 2, none⟩) (Kd.R_far (p := ⟨gb991, 1, none⟩) (Kd.R_far (p := ⟨gb991, 0, none⟩) (Kd.R_types HO976.out BK991.out (by decide)) (fun _ hk => hk.2) (.int .i64 t978)) (fun _ hk => hk.2) (.int .i64 t979)) (fun _ hk => hk.2) (.int .i64 t980)) (fun _ hk => hk.2) (.slice Ao39 t981.length co39)) (fun _ hk => hk.2) (.slice Ao40 t984.length co40)) (fun _ hk => hk.2) (.string t987)) (fun _ hk => hk.2) (.string t988)) (fun _ hk => hk.2) (.int .i64 t989)) (fun _ h_ => h_.1))) hb); have n6_ := Aside0.mk (Kd.R_below (by (with_reducible repeat (first | apply Kd.R_alloc | apply Kd.R_drewN | apply Kd.R_drew)); exact (Kd.R_mono (Kd.R_far (p := ⟨gb991, 7, none⟩) (Kd.R_far (p := ⟨gb991, 6, none⟩) (Kd.R_far (p := ⟨gb991, 5, none⟩) (Kd.R_far (p := ⟨gb991, 4, none⟩) (Kd.R_far (p := ⟨gb991, 3, none⟩) (Kd.R_far (p := ⟨gb991, 2, none⟩) (Kd.R_far (p := ⟨gb991, 1, none⟩) (Kd.R_far (p := ⟨gb991, 0, none⟩) (Kd.R_types HO983.out BK991.out (by decide)) (fun _ hk => hk.2) (.int .i64 t978)) (fun _ hk => hk.2) (.int .i64 t979)) (fun _ hk => hk.2) (.int .i64 t980)) (fun _ hk => hk.2) (.slice Ao39 t981.length co39)) (fun _ hk => hk.2) (.slice Ao40 t984.length co40)) (fun _ hk => hk.2) (.string t987)) (fun _ hk => hk.2) (.string t988)) (fun _ hk => hk.2) (.int .i64 t989)) (fun _ h_ => h_.1))) hb); have n7_ := Aside0.mk (Kd.R_below (by (with_reducible repeat (first | apply Kd.R_alloc | apply Kd.R_drewN | apply Kd.R_drew)); exact (Kd.R_mono (Kd.R_far (p := ⟨gb991, 7, none⟩) (Kd.R_far (p := ⟨gb991, 6, none⟩) (Kd.R_far (p := ⟨gb991, 5, none⟩) (Kd.R_far (p := ⟨gb991, 4, none⟩) (Kd.R_far (p := ⟨gb991, 3, none⟩) (Kd.R_far (p := ⟨gb991, 2, none⟩) (Kd.R_far (p := ⟨gb991, 1, none⟩) (Kd.R_far (p := ⟨gb991, 0, none⟩) (Kd.R_types HO986.out BK991.out (by decide)) (fun _ hk => hk.2) (.int .i64 t978)) (fun _ hk => hk.2) (.int .i64 t979)) (fun _ hk => hk.2) (.int .i64 t980)) (fun _ hk => hk.2) (.slice Ao39 t981.length co39)) (fun _ hk => hk.2) (.slice Ao40 t984.length co40)) (fun _ hk => hk.2) (.string t987)) (fun _ hk => hk.2) (.string t988)) (fun _ hk => hk.2) (.int .i64 t989)) (fun _ h_ => h_.1))) hb); have n8_ := Aside0.mk (blk_below (g := gb943) (o := .cells #[.int .i64 a0_0, .int .i64 a0_1, .int .i64 a0_2, .slice A0_3 l0_3.length c0_3, .slice A0_4 l0_4.length c0_4] 59 (0, 0)) (by (with_reducible repeat (first | refine blk_drewN ?_ _ | refine blk_drew ?_ | refine blk_alloc ?_ _)); refine blk_far ?_ NB943_991.out _; (with_reducible repeat (first | refine blk_drewN ?_ _ | refine blk_drew ?_ | refine blk_alloc ?_ _)); refine blk_far ?_ NB943_991.out _; (with_reducible repeat (first | refine blk_drewN ?_ _ | refine blk_drew ?_ | refine blk_alloc ?_ _)); refine blk_far ?_ NB943_991.out _; (with_reducible repeat (first | refine blk_drewN ?_ _ | refine blk_drew ?_ | refine blk_alloc ?_ _)); refine blk_far ?_ NB943_991.out _; (with_reducible repeat (first | refine blk_drewN ?_ _ | refine blk_drew ?_ | refine blk_alloc ?_ _)); refine blk_far ?_ NB943_991.out _; (with_reducible repeat (first | refine blk_drewN ?_ _ | refine blk_drew ?_ | refine blk_alloc ?_ _)); refine blk_far ?_ NB943_991.out _; (with_reducible repeat (first | refine blk_drewN ?_ _ | refine blk_drew ?_ | refine blk_alloc ?_ _)); refine blk_far ?_ NB943_991.out _; (with_reducible repeat (first | refine blk_drewN ?_ _ | refine blk_drew ?_ | refine blk_alloc ?_ _)); refine blk_far ?_ NB943_991.out _; exact bs BK943.out) hb); have n9_ := Aside0.mk (blk_below (g := gb967) (o := .cells #[.int .i64 t954, .int .i64 t955, .int .i64 t956, .slice Ao23 t957.length co23, .slice Ao24 t960.length co24, .string t963, .string t964, .int .i64 t965] 72 (0, 0)) (by (with_reducible repeat (first | refine blk_drewN ?_ _ | refine blk_drew ?_ | refine blk_alloc ?_ _)); refine blk_far ?_ NB967_991.out _; (with_reducible repeat (first | refine blk_drewN ?_ _ | refine blk_drew ?_ | refine blk_alloc ?_ _)); refine blk_far ?_ NB967_991.out _; (with_reducible repeat (first | refine blk_drewN ?_ _ | refine blk_drew ?_ | refine blk_alloc ?_ _)); refine blk_far ?_ NB967_991.out _; (with_reducible repeat (first | refine blk_drewN ?_ _ | refine blk_drew ?_ | refine blk_alloc ?_ _)); refine blk_far ?_ NB967_991.out _; (with_reducible repeat (first | refine blk_drewN ?_ _ | refine blk_drew ?_ | refine blk_alloc ?_ _)); refine blk_far ?_ NB967_991.out _; (with_reducible repeat (first | refine blk_drewN ?_ _ | refine blk_drew ?_ | refine blk_alloc ?_ _)); refine blk_far ?_ NB967_991.out _; (with_reducible repeat (first | refine blk_drewN ?_ _ | refine blk_drew ?_ | refine blk_alloc ?_ _)); refine blk_far ?_ NB967_991.out _; (with_reducible repeat (first | refine blk_drewN ?_ _ | refine blk_drew ?_ | refine blk_alloc ?_ _)); refine blk_far ?_ NB967_991.out _; exact bs BK967.out) hb); have n10_ := Aside0.mk (blk_below (g := gb977) (o := .cells #[.int .i64 t968, .int .i64 t969, .int .i64 t970, .slice Ao31 t971.length co31, .slice Ao32 t974.length co32] 25 (0, 0)) (by (with_reducible repeat (first | refine blk_drewN ?_ _ | refine blk_drew ?_ | refine blk_alloc ?_ _)); refine blk_far ?_ NB977_991.out _; (with_reducible repeat (first | refine blk_drewN ?_ _ | refine blk_drew ?_ | refine blk_alloc ?_ _)); refine blk_far ?_ NB977_991.out _; (with_reducible repeat (first | refine blk_drewN ?_ _ | refine blk_drew ?_ | refine blk_alloc ?_ _)); refine blk_far ?_ NB977_991.out _; (with_reducible repeat (first | refine blk_drewN ?_ _ | refine blk_drew ?_ | refine blk_alloc ?_ _)); refine blk_far ?_ NB977_991.out _; (with_reducible repeat (first | refine blk_drewN ?_ _ | refine blk_drew ?_ | refine blk_alloc ?_ _)); refine blk_far ?_ NB977_991.out _; (with_reducible repeat (first | refine blk_drewN ?_ _ | refine blk_drew ?_ | refine blk_alloc ?_ _)); refine blk_far ?_ NB977_991.out _; (with_reducible repeat (first | refine blk_drewN ?_ _ | refine blk_drew ?_ | refine blk_alloc ?_ _)); refine blk_far ?_ NB977_991.out _; (with_reducible repeat (first | refine blk_drewN ?_ _ | refine blk_drew ?_ | refine blk_alloc ?_ _)); refine blk_far ?_ NB977_991.out _; exact bs BK977.out) hb); have n11_ := Aside0.mk (blk_below (g := gb991) (o := .cells #[.int .i64 t978, .int .i64 t979, .int .i64 t980, .slice Ao39 t981.length co39, .slice Ao40 t984.length co40, .string t987, .string t988, .int .i64 t989] 72 (0, 0)) (by (with_reducible repeat (first | refine blk_drewN ?_ _ | refine blk_drew ?_ | refine blk_alloc ?_ _)); refine blk_put (cs := #[.int .i64 t978, .int .i64 t979, .int .i64 t980, .slice Ao39 t981.length co39, .slice Ao40 t984.length co40, .string t987, .string t988, .int .i64 0]) ?_ 7 _ rfl; (with_reducible repeat (first | refine blk_drewN ?_ _ | refine blk_drew ?_ | refine blk_alloc ?_ _)); refine blk_put (cs := #[.int .i64 t978, .int .i64 t979, .int .i64 t980, .slice Ao39 t981.length co39, .slice Ao40 t984.length co40, .string t987, .string (⟨#[]⟩ : ByteArray), .int .i64 0]) ?_ 6 _ rfl; (with_reducible repeat (first | refine blk_drewN ?_ _ | refine blk_drew ?_ | refine blk_alloc ?_ _)); refine blk_put (cs := #[.int .i64 t978, .int .i64 t979, .int .i64 t980, .slice Ao39 t981.length co39, .slice Ao40 t984.length co40, .string (⟨#[]⟩ : ByteArray), .string (⟨#[]⟩ : ByteArray), .int .i64 0]) ?_ 5 _ rfl; (with_reducible repeat (first | refine blk_drewN ?_ _ | refine blk_drew ?_ | refine blk_alloc ?_ _)); refine blk_put (cs := #[.int .i64 t978, .int .i64 t979, .int .i64 t980, .slice Ao39 t981.length co39, .slice none 0 0, .string (⟨#[]⟩ : ByteArray), .string (⟨#[]⟩ : ByteArray), .int .i64 0]) ?_ 4 _ rfl; (with_reducible repeat (first | refine blk_drewN ?_ _ | refine blk_drew ?_ | refine blk_alloc ?_ _)); refine blk_put (cs := #[.int .i64 t978, .int .i64 t979, .int .i64 t980, .slice none 0 0, .slice none 0 0, .string (⟨#[]⟩ : ByteArray), .string (⟨#[]⟩ : ByteArray), .int .i64 0]) ?_ 3 _ rfl; (with_reducible repeat (first | refine blk_drewN ?_ _ | refine blk_drew ?_ | refine blk_alloc ?_ _)); refine blk_put (cs := #[.int .i64 t978, .int .i64 t979, .int .i64 0, .slice none 0 0, .slice none 0 0, .string (⟨#[]⟩ : ByteArray), .string (⟨#[]⟩ : ByteArray), .int .i64 0]) ?_ 2 _ rfl; (with_reducible repeat (first | refine blk_drewN ?_ _ | refine blk_drew ?_ | refine blk_alloc ?_ _)); refine blk_put (cs := #[.int .i64 t978, .int .i64 0, .int .i64 0, .slice none 0 0, .slice none 0 0, .string (⟨#[]⟩ : ByteArray), .string (⟨#[]⟩ : ByteArray), .int .i64 0]) ?_ 1 _ rfl; (with_reducible repeat (first | refine blk_drewN ?_ _ | refine blk_drew ?_ | refine blk_alloc ?_ _)); refine blk_put (cs := #[.int .i64 0, .int .i64 0, .int .i64 0, .slice none 0 0, .slice none 0 0, .string (⟨#[]⟩ : ByteArray), .string (⟨#[]⟩ : ByteArray), .int .i64 0]) ?_ 0 _ rfl; exact bs BK991.out) hb); have n12_ := Aside0.mk (below_step (by repeat (first | (with_reducible first | exact bw HB.out | refine bset ?_ | apply bA | apply bN | apply bD) | exact HB.out)) hb); replace HO950 := n0_; replace HO953 := n1_; replace HO959 := n2_; replace HO962 := n3_; replace HO973 := n4_; replace HO976 := n5_; replace HO983 := n6_; replace HO986 := n7_; replace BK943 := n8_; replace BK967 := n9_; replace BK977 := n10_; replace BK991 := n11_; replace HB := n12_; clear n0_ n1_ n2_ n3_ n4_ n5_ n6_ n7_ n8_ n9_ n10_ n11_ n12_; (try clear hb); (try clear hb2); (try clear hk); (try clear hi)))
   go_meet
   case rel => exact ⟨_, ((t990 != t966)), (by first | rfl | (simp; done) | (simp [*]; done)), H', ⟨by first | omega | exact Nat.le_refl _⟩, ⟨by (with_reducible repeat (first | apply Kd.R_alloc | apply Kd.R_drewN | apply Kd.R_drew)); exact Kd.R_mono HO959.out (fun _ hk => ⟨hk.1.2, hk.2⟩)⟩, ⟨by (with_reducible repeat (first | apply Kd.R_alloc | apply Kd.R_drewN | apply Kd.R_drew)); exact Kd.R_mono HO962.out (fun _ hk => ⟨hk.1.2, hk.2⟩)⟩, ⟨by (with_reducible repeat (first | apply Kd.R_alloc | apply Kd.R_drewN | apply Kd.R_drew)); exact Kd.R_mono HO973.out (fun _ hk => ⟨hk.1.2, hk.2⟩)⟩, ⟨by (with_reducible repeat (first | apply Kd.R_alloc | apply Kd.R_drewN | apply Kd.R_drew)); exact Kd.R_mono HO976.out (fun _ hk => ⟨hk.1.2, hk.2⟩)⟩, ⟨by (with_reducible repeat (first | apply Kd.R_alloc | apply Kd.R_drewN | apply Kd.R_drew)); exact Kd.R_mono HO983.out (fun _ hk => ⟨hk.1.2, hk.2⟩)⟩, ⟨by (with_reducible repeat (first | apply Kd.R_alloc | apply Kd.R_drewN | apply Kd.R_drew)); exact Kd.R_mono HO986.out (fun _ hk => ⟨hk.1.2, hk.2⟩)⟩, ⟨bs BK943.out⟩, ⟨bs BK967.out⟩, ⟨bs BK977.out⟩, ⟨bs BK991.out⟩, ⟨by repeat (first | (with_reducible first | exact bw HB.out | refine bset ?_ | apply bA | apply bN | apply bD) | exact HB.out)⟩⟩
  replace c42 := Bool.eq_false_iff.mpr c42
  subst c42
  have H1 : (laws_FnExactNewConsole.j0 k t966 t990 true a0_0 a0_1 a0_2 l0_3 l0_4 t954 t955 t956 t957 t960 t963 t964 t965 t968 t969 t970 t971 t974 t978 t979 t980 t981 t984 t987 t988 t989) = some r := by rw [if_neg (show ¬ (false = true) by decide)] at H; exact H
  clear H
  have H := H1
  clear H1
  have H' := Aside0.mk H
  clear H
  have hnb51 := NB991_943.out
  have hnc51 := NB943_991.out
  have hnb52 := NB991_967.out
  have hnc52 := NB967_991.out
  have hnb53 := NB991_977.out
  have hnc53 := NB977_991.out
  obtain ⟨hcz54_0, hcz54_1, hcz54_2, hcz54_3, hcz54_4, hcz54_5, hcz54_6, hcz54_7, hfz54_0, hfz54_1, hfz54_2, hfz54_3, hfz54_4, hfz54_5, hfz54_6, hfz54_7⟩ := bz8 BK991.out
  have hnb55 := NB967_943.out
  have hnc55 := NB943_967.out
  have hnb56 := NB967_977.out
  have hnc56 := NB977_967.out
  obtain ⟨hcz57_0, hcz57_1, hcz57_2, hcz57_3, hcz57_4, hcz57_5, hcz57_6, hcz57_7, hfz57_0, hfz57_1, hfz57_2, hfz57_3, hfz57_4, hfz57_5, hfz57_6, hfz57_7⟩ := bz8 BK967.out
  go_wp2_with (first | ((with_reducible refine gate_callee (f := 52) rfl ?_); refine goesL_ (some 34) rfl rfl Try.func52 (by kernel_rfl) rfl #[.agg #[.int .i64 t978, .int .i64 t979, .int .i64 t980, .slice Ao39 t981.length co39, .slice Ao40 t984.length co40, .string t987, .string t988, .int .i64 t989], .agg #[.int .i64 t954, .int .i64 t955, .int .i64 t956, .slice Ao23 t957.length co23, .slice Ao24 t960.length co24, .string t963, .string t964, .int .i64 t965]] rfl (by (try simp only [mA_]); first | done | rfl | (simp only [List.length_drop, List.length_take]; rfl)) ?_; (with_reducible refine (laws_eqConsole.calls k t978 t979 t980 _ _ t981 _ _ t984 t987 t988 t989 t954 t955 t956 _ _ t957 _ _ t960 t963 t964 t965 false _ ?side1 ?side2 ?side3 ?side4 ?side5 ?side6 ?side7 ?side8 A41.out).mono ?_); (case side1 => refine (Kd.R_reads' (e := 137) (base := w.heap.size) (ok := fun k_ => (((True ∧ some k_ ≠ (.slice Ao17 t948.length co17 : Value).ownBlock) ∧ some k_ ≠ (.slice Ao23 t957.length co23 : Value).ownBlock) ∧ some k_ ≠ (.slice Ao31 t971.length co31 : Value).ownBlock)) (n := t981.length) (c := co39) ?_).2.2; exact (by (with_reducible repeat (first | apply Kd.R_alloc | apply Kd.R_drewN | apply Kd.R_drew)); exact (Kd.R_mono (Kd.R_far (p := ⟨gb991, 7, none⟩) (Kd.R_far (p := ⟨gb991, 6, none⟩) (Kd.R_far (p := ⟨gb991, 5, none⟩) (Kd.R_far (p := ⟨gb991, 4, none⟩) (Kd.R_far (p := ⟨gb991, 3, none⟩) (Kd.R_far (p := ⟨gb991, 2, none⟩) (Kd.R_far (p := ⟨gb991, 1, none⟩) (Kd.R_far (p := ⟨gb991, 0, none⟩) (Kd.R_types HO983.out BK991.out (by decide)) (fun _ hk => hk.2) (.int .i64 t978)) (fun _ hk => hk.2) (.int .i64 t979)) (fun _ hk => hk.2) (.int .i64 t980)) (fun _ hk => hk.2) (.slice Ao39 t981.length co39)) (fun _ hk => hk.2) (.slice Ao40 t984.length co40)) (fun _ hk => hk.2) (.string t987)) (fun _ hk => hk.2) (.string t988)) (fun _ hk => hk.2) (.int .i64 t989)) (fun _ h_ => h_.1)))); (case side2 => exact (Kd.R_reads' HO983.out).2.1); (case side3 => refine (Kd.R_reads' (e := 135) (base := w.heap.size) (ok := fun k_ => (((True ∧ some k_ ≠ (.slice Ao18 t951.length co18 : Value).ownBlock) ∧ some k_ ≠ (.slice Ao24 t960.length co24 : Value).ownBlock) ∧ some k_ ≠ (.slice Ao32 t974.length co32 : Value).ownBlock)) (n := t984.length) (c := co40) ?_).2.2; exact (by (with_reducible repeat (first | apply Kd.R_alloc | apply Kd.R_drewN | apply Kd.R_drew)); exact (Kd.R_mono (Kd.R_far (p := ⟨gb991, 7, none⟩) (Kd.R_far (p := ⟨gb991, 6, none⟩) (Kd.R_far (p := ⟨gb991, 5, none⟩) (Kd.R_far (p := ⟨gb991, 4, none⟩) (Kd.R_far (p := ⟨gb991, 3, none⟩) (Kd.R_far (p := ⟨gb991, 2, none⟩) (Kd.R_far (p := ⟨gb991, 1, none⟩) (Kd.R_far (p := ⟨gb991, 0, none⟩) (Kd.R_types HO986.out BK991.out (by decide)) (fun _ hk => hk.2) (.int .i64 t978)) (fun _ hk => hk.2) (.int .i64 t979)) (fun _ hk => hk.2) (.int .i64 t980)) (fun _ hk => hk.2) (.slice Ao39 t981.length co39)) (fun _ hk => hk.2) (.slice Ao40 t984.length co40)) (fun _ hk => hk.2) (.string t987)) (fun _ hk => hk.2) (.string t988)) (fun _ hk => hk.2) (.int .i64 t989)) (fun _ h_ => h_.1)))); (case side4 => exact (Kd.R_reads' HO986.out).2.1); (case side5 => refine (Kd.R_reads' (e := 137) (base := w.heap.size) (ok := fun k_ => (((True ∧ some k_ ≠ (.slice Ao17 t948.length co17 : Value).ownBlock) ∧ some k_ ≠ (.slice Ao31 t971.length co31 : Value).ownBlock) ∧ some k_ ≠ (.slice Ao39 t981.length co39 : Value).ownBlock)) (n := t957.length) (c := co23) ?_).2.2; exact (by (with_reducible repeat (first | apply Kd.R_alloc | apply Kd.R_drewN | apply Kd.R_drew)); exact (Kd.R_mono (Kd.R_far (p := ⟨gb991, 7, none⟩) (Kd.R_far (p := ⟨gb991, 6, none⟩) (Kd.R_far (p := ⟨gb991, 5, none⟩) (Kd.R_far (p := ⟨gb991, 4, none⟩) (Kd.R_far (p := ⟨gb991, 3, none⟩) (Kd.R_far (p := ⟨gb991, 2, none⟩) (Kd.R_far (p := ⟨gb991, 1, none⟩) (Kd.R_far (p := ⟨gb991, 0, none⟩) (Kd.R_types HO959.out BK991.out (by decide)) (fun _ hk => hk.2) (.int .i64 t978)) (fun _ hk => hk.2) (.int .i64 t979)) (fun _ hk => hk.2) (.int .i64 t980)) (fun _ hk => hk.2) (.slice Ao39 t981.length co39)) (fun _ hk => hk.2) (.slice Ao40 t984.length co40)) (fun _ hk => hk.2) (.string t987)) (fun _ hk => hk.2) (.string t988)) (fun _ hk => hk.2) (.int .i64 t989)) (fun _ h_ => h_.1)))); (case side6 => exact (Kd.R_reads' HO959.out).2.1); (case side7 => refine (Kd.R_reads' (e := 135) (base := w.heap.size) (ok := fun k_ => (((True ∧ some k_ ≠ (.slice Ao18 t951.length co18 : Value).ownBlock) ∧ some k_ ≠ (.slice Ao32 t974.length co32 : Value).ownBlock) ∧ some k_ ≠ (.slice Ao40 t984.length co40 : Value).ownBlock)) (n := t960.length) (c := co24) ?_).2.2; exact (by (with_reducible repeat (first | apply Kd.R_alloc | apply Kd.R_drewN | apply Kd.R_drew)); exact (Kd.R_mono (Kd.R_far (p := ⟨gb991, 7, none⟩) (Kd.R_far (p := ⟨gb991, 6, none⟩) (Kd.R_far (p := ⟨gb991, 5, none⟩) (Kd.R_far (p := ⟨gb991, 4, none⟩) (Kd.R_far (p := ⟨gb991, 3, none⟩) (Kd.R_far (p := ⟨gb991, 2, none⟩) (Kd.R_far (p := ⟨gb991, 1, none⟩) (Kd.R_far (p := ⟨gb991, 0, none⟩) (Kd.R_types HO962.out BK991.out (by decide)) (fun _ hk => hk.2) (.int .i64 t978)) (fun _ hk => hk.2) (.int .i64 t979)) (fun _ hk => hk.2) (.int .i64 t980)) (fun _ hk => hk.2) (.slice Ao39 t981.length co39)) (fun _ hk => hk.2) (.slice Ao40 t984.length co40)) (fun _ hk => hk.2) (.string t987)) (fun _ hk => hk.2) (.string t988)) (fun _ hk => hk.2) (.int .i64 t989)) (fun _ h_ => h_.1)))); (case side8 => exact (Kd.R_reads' HO962.out).2.1); rintro e w58 ⟨rfl, hb⟩; refine ⟨_, rfl, ?_⟩; have n0_ := Aside0.mk (Kd.R_below (by (with_reducible repeat (first | apply Kd.R_alloc | apply Kd.R_drewN | apply Kd.R_drew)); exact (Kd.R_mono (Kd.R_far (p := ⟨gb991, 7, none⟩) (Kd.R_far (p := ⟨gb991, 6, none⟩) (Kd.R_far (p := ⟨gb991, 5, none⟩) (Kd.R_far (p := ⟨gb991, 4, none⟩) (Kd.R_far (p := ⟨gb991, 3, none⟩) (Kd.R_far (p := ⟨gb991, 2, none⟩) (Kd.R_far (p := ⟨gb991, 1, none⟩) (Kd.R_far (p := ⟨gb991, 0, none⟩) (Kd.R_types HO950.out BK991.out (by decide)) (fun _ hk => hk.2) (.int .i64 t978)) (fun _ hk => hk.2) (.int .i64 t979)) (fun _ hk => hk.2) (.int .i64 t980)) (fun _ hk => hk.2) (.slice Ao39 t981.length co39)) (fun _ hk => hk.2) (.slice Ao40 t984.length co40)) (fun _ hk => hk.2) (.string t987)) (fun _ hk => hk.2) (.string t988)) (fun _ hk => hk.2) (.int .i64 t989)) (fun _ h_ => h_.1))) hb); have n1_ := Aside0.mk (Kd.R_below (by (with_reducible repeat (first | apply Kd.R_alloc | apply Kd.R_drewN | apply Kd.R_drew)); exact (Kd.R_mono (Kd.R_far (p := ⟨gb991, 7, none⟩) (Kd.R_far (p := ⟨gb991, 6, none⟩) (Kd.R_far (p := ⟨gb991, 5, none⟩) (Kd.R_far (p := ⟨gb991, 4, none⟩) (Kd.R_far (p := ⟨gb991, 3, none⟩) (Kd.R_far (p := ⟨gb991, 2, none⟩) (Kd.R_far (p := ⟨gb991, 1, none⟩) (Kd.R_far (p := ⟨gb991, 0, none⟩) (Kd.R_types HO953.out BK991.out (by decide)) (fun _ hk => hk.2) (.int .i64 t978)) (fun _ hk => hk.2) (.int .i64 t979)) (fun _ hk => hk.2) (.int .i64 t980)) (fun _ hk => hk.2) (.slice Ao39 t981.length co39)) (fun _ hk => hk.2) (.slice Ao40 t984.length co40)) (fun _ hk => hk.2) (.string t987)) (fun _ hk => hk.2) (.string t988)) (fun _ hk => hk.2) (.int .i64 t989)) (fun _ h_ => h_.1))) hb); have n2_ := Aside0.mk (Kd.R_below (by (with_reducible repeat (first | apply Kd.R_alloc | apply Kd.R_drewN | apply Kd.R_drew)); exact (Kd.R_mono (Kd.R_far (p := ⟨gb991, 7, none⟩) (Kd.R_far (p := ⟨gb991, 6, none⟩) (Kd.R_far (p := ⟨gb991, 5, none⟩) (Kd.R_far (p := ⟨gb991, 4, none⟩) (Kd.R_far (p := ⟨gb991, 3, none⟩) (Kd.R_far (p := ⟨gb991, 2, none⟩) (Kd.R_far (p := ⟨gb991, 1, none⟩) (Kd.R_far (p := ⟨gb991, 0, none⟩) (Kd.R_types HO959.out BK991.out (by decide)) (fun _ hk => hk.2) (.int .i64 t978)) (fun _ hk => hk.2) (.int .i64 t979)) (fun _ hk => hk.2) (.int .i64 t980)) (fun _ hk => hk.2) (.slice Ao39 t981.length co39)) (fun _ hk => hk.2) (.slice Ao40 t984.length co40)) (fun _ hk => hk.2) (.string t987)) (fun _ hk => hk.2) (.string t988)) (fun _ hk => hk.2) (.int .i64 t989)) (fun _ h_ => h_.1))) hb); have n3_ := Aside0.mk (Kd.R_below (by (with_reducible repeat (first | apply Kd.R_alloc | apply Kd.R_drewN | apply Kd.R_drew)); exact (Kd.R_mono (Kd.R_far (p := ⟨gb991, 7, none⟩) (Kd.R_far (p := ⟨gb991, 6, none⟩) (Kd.R_far (p := ⟨gb991, 5, none⟩) (Kd.R_far (p := ⟨gb991, 4, none⟩) (Kd.R_far (p := ⟨gb991, 3, none⟩) (Kd.R_far (p := ⟨gb991, 2, none⟩) (Kd.R_far (p := ⟨gb991, 1, none⟩) (Kd.R_far (p := ⟨gb991, 0, none⟩) (Kd.R_types HO962.out BK991.out (by decide)) (fun _ hk => hk.2) (.int .i64 t978)) (fun _ hk => hk.2) (.int .i64 t979)) (fun _ hk => hk.2) (.int .i64 t980)) (fun _ hk => hk.2) (.slice Ao39 t981.length co39)) (fun _ hk => hk.2) (.slice Ao40 t984.length co40)) (fun _ hk => hk.2) (.string t987)) (fun _ hk => hk.2) (.string t988)) (fun _ hk => hk.2) (.int .i64 t989)) (fun _ h_ => h_.1))) hb); have n4_ := Aside0.mk (Kd.R_below (by (with_reducible repeat (first | apply Kd.R_alloc | apply Kd.R_drewN | apply Kd.R_drew)); exact (Kd.R_mono (Kd.R_far (p := ⟨gb991, 7, none⟩) (Kd.R_far (p := ⟨gb991, 6, none⟩) (Kd.R_far (p := ⟨gb991, 5, none⟩) (Kd.R_far (p := ⟨gb991, 4, none⟩) (Kd.R_far (p := ⟨gb991, 3, none⟩) (Kd.R_far (p := ⟨gb991, 2, none⟩) (Kd.R_far (p := ⟨gb991, 1, none⟩) (Kd.R_far (p := ⟨gb991, 0, none⟩) (Kd.R_types HO973.out BK991.out (by decide)) (fun _ hk => hk.2) (.int .i64 t978)) (fun _ hk => hk.2) (.int .i64 t979)) (fun _ hk => hk.2) (.int .i64 t980)) (fun _ hk => hk.2) (.slice Ao39 t981.length co39)) (fun _ hk => hk.2) (.slice Ao40 t984.length co40)) (fun _ hk => hk.2) (.string t987)) (fun _ hk => hk.2) (.string t988)) (fun _ hk => hk.2) (.int .i64 t989)) (fun _ h_ => h_.1))) hb); have n5_ := Aside0.mk (Kd.R_below (by (with_reducible repeat (first | apply Kd.R_alloc | apply Kd.R_drewN | apply Kd.R_drew)); exact (Kd.R_mono (Kd.R_far (p := ⟨gb991, 7, none⟩) (Kd.R_far (p := ⟨gb991, 6, none⟩) (Kd.R_far (p := ⟨gb991, 5, none⟩) (Kd.R_far (p := ⟨gb991, 4, none⟩) (Kd.R_far (p := ⟨gb991, 3, none⟩) (Kd.R_far (p := ⟨gb991, 2, none⟩) (Kd.R_far (p := ⟨gb991, 1, none⟩) (Kd.R_far (p := ⟨gb991, 0, none⟩) (Kd.R_types HO976.out BK991.out (by decide)) (fun _ hk => hk.2) (.int .i64 t978)) (fun _ hk => hk.2) (.int .i64 t979)) (fun _ hk => hk.2) (.int .i64 t980)) (fun _ hk => hk.2) (.slice Ao39 t981.length co39)) (fun _ hk => hk.2) (.slice Ao40 t984.length co40)) (fun _ hk => hk.2) (.string t987)) (fun _ hk => hk.2) (.string t988)) (fun _ hk => hk.2) (.int .i64 t989)) (fun _ h_ => h_.1))) hb); have n6_ := Aside0.mk (Kd.R_below (by (with_reducible repeat (first | apply Kd.R_alloc | apply Kd.R_drewN | apply Kd.R_drew)); exact (Kd.R_mono (Kd.R_far (p := ⟨gb991, 7, none⟩) (Kd.R_far (p := ⟨gb991, 6, none⟩) (Kd.R_far (p := ⟨gb991, 5, none⟩) (Kd.R_far (p := ⟨gb991, 4, none⟩) (Kd.R_far (p := ⟨gb991, 3, none⟩) (Kd.R_far (p := ⟨gb991, 2, none⟩) (Kd.R_far (p := ⟨gb991, 1, none⟩) (Kd.R_far (p := ⟨gb991, 0, none⟩) (Kd.R_types HO983.out BK991.out (by decide)) (fun _ hk => hk.2) (.int .i64 t978)) (fun _ hk => hk.2) (.int .i64 t979)) (fun _ hk => hk.2) (.int .i64 t980)) (fun _ hk => hk.2) (.slice Ao39 t981.length co39)) (fun _ hk => hk.2) (.slice Ao40 t984.length co40)) (fun _ hk => hk.2) (.string t987)) (fun _ hk => hk.2) (.string t988)) (fun _ hk => hk.2) (.int .i64 t989)) (fun _ h_ => h_.1))) hb); have n7_ := Aside0.mk (Kd.R_below (by (with_reducible repeat (first | apply Kd.R_alloc | apply Kd.R_drewN | apply Kd.R_drew)); exact (Kd.R_mono (Kd.R_far (p := ⟨gb991, 7, none⟩) (Kd.R_far (p := ⟨gb991, 6, none⟩) (Kd.R_far (p := ⟨gb991, 5, none⟩) (Kd.R_far (p := ⟨gb991, 4, none⟩) (Kd.R_far (p := ⟨gb991, 3, none⟩) (Kd.R_far (p := ⟨gb991, 2, none⟩) (Kd.R_far (p := ⟨gb991, 1, none⟩) (Kd.R_far (p := ⟨gb991, 0, none⟩) (Kd.R_types HO986.out BK991.out (by decide)) (fun _ hk => hk.2) (.int .i64 t978)) (fun _ hk => hk.2) (.int .i64 t979)) (fun _ hk => hk.2) (.int .i64 t980)) (fun _ hk => hk.2) (.slice Ao39 t981.length co39)) (fun _ hk => hk.2) (.slice Ao40 t984.length co40)) (fun _ hk => hk.2) (.string t987)) (fun _ hk => hk.2) (.string t988)) (fun _ hk => hk.2) (.int .i64 t989)) (fun _ h_ => h_.1))) hb); have n8_ := Aside0.mk (blk_below (g := gb943) (o := .cells #[.int .i64 a0_0, .int .i64 a0_1, .int .i64 a0_2, .slice A0_3 l0_3.length c0_3, .slice A0_4 l0_4.length c0_4] 59 (0, 0)) (by (with_reducible repeat (first | refine blk_drewN ?_ _ | refine blk_drew ?_ | refine blk_alloc ?_ _)); refine blk_far ?_ NB943_991.out _; (with_reducible repeat (first | refine blk_drewN ?_ _ | refine blk_drew ?_ | refine blk_alloc ?_ _)); refine blk_far ?_ NB943_991.out _; (with_reducible repeat (first | refine blk_drewN ?_ _ | refine blk_drew ?_ | refine blk_alloc ?_ _)); refine blk_far ?_ NB943_991.out _; (with_reducible repeat (first | refine blk_drewN ?_ _ | refine blk_drew ?_ | refine blk_alloc ?_ _)); refine blk_far ?_ NB943_991.out _; (with_reducible repeat (first | refine blk_drewN ?_ _ | refine blk_drew ?_ | refine blk_alloc ?_ _)); refine blk_far ?_ NB943_991.out _; (with_reducible repeat (first | refine blk_drewN ?_ _ | refine blk_drew ?_ | refine blk_alloc ?_ _)); refine blk_far ?_ NB943_991.out _; (with_reducible repeat (first | refine blk_drewN ?_ _ | refine blk_drew ?_ | refine blk_alloc ?_ _)); refine blk_far ?_ NB943_991.out _; (with_reducible repeat (first | refine blk_drewN ?_ _ | refine blk_drew ?_ | refine blk_alloc ?_ _)); refine blk_far ?_ NB943_991.out _; exact bs BK943.out) hb); have n9_ := Aside0.mk (blk_below (g := gb967) (o := .cells #[.int .i64 t954, .int .i64 t955, .int .i64 t956, .slice Ao23 t957.length co23, .slice Ao24 t960.length co24, .string t963, .string t964, .int .i64 t965] 72 (0, 0)) (by (with_reducible repeat (first | refine blk_drewN ?_ _ | refine blk_drew ?_ | refine blk_alloc ?_ _)); refine blk_far ?_ NB967_991.out _; (with_reducible repeat (first | refine blk_drewN ?_ _ | refine blk_drew ?_ | refine blk_alloc ?_ _)); refine blk_far ?_ NB967_991.out _; (with_reducible repeat (first | refine blk_drewN ?_ _ | refine blk_drew ?_ | refine blk_alloc ?_ _)); refine blk_far ?_ NB967_991.out _; (with_reducible repeat (first | refine blk_drewN ?_ _ | refine blk_drew ?_ | refine blk_alloc ?_ _)); refine blk_far ?_ NB967_991.out _; (with_reducible repeat (first | refine blk_drewN ?_ _ | refine blk_drew ?_ | refine blk_alloc ?_ _)); refine blk_far ?_ NB967_991.out _; (with_reducible repeat (first | refine blk_drewN ?_ _ | refine blk_drew ?_ | refine blk_alloc ?_ _)); refine blk_far ?_ NB967_991.out _; (with_reducible repeat (first | refine blk_drewN ?_ _ | refine blk_drew ?_ | refine blk_alloc ?_ _)); refine blk_far ?_ NB967_991.out _; (with_reducible repeat (first | refine blk_drewN ?_ _ | refine blk_drew ?_ | refine blk_alloc ?_ _)); refine blk_far ?_ NB967_991.out _; exact bs BK967.out) hb); have n10_ := Aside0.mk (blk_below (g := gb977) (o := .cells #[.int .i64 t968, .int .i64 t969, .int .i64 t970, .slice Ao31 t971.length co31, .slice Ao32 t974.length co32] 25 (0, 0)) (by (with_reducible repeat (first | refine blk_drewN ?_ _ | refine blk_drew ?_ | refine blk_alloc ?_ _)); refine blk_far ?_ NB977_991.out _; (with_reducible repeat (first | refine blk_drewN ?_ _ | refine blk_drew ?_ | refine blk_alloc ?_ _)); refine blk_far ?_ NB977_991.out _; (with_reducible repeat (first | refine blk_drewN ?_ _ | refine blk_drew ?_ | refine blk_alloc ?_ _)); refine blk_far ?_ NB977_991.out _; (with_reducible repeat (first | refine blk_drewN ?_ _ | refine blk_drew ?_ | refine blk_alloc ?_ _)); refine blk_far ?_ NB977_991.out _; (with_reducible repeat (first | refine blk_drewN ?_ _ | refine blk_drew ?_ | refine blk_alloc ?_ _)); refine blk_far ?_ NB977_991.out _; (with_reducible repeat (first | refine blk_drewN ?_ _ | refine blk_drew ?_ | refine blk_alloc ?_ _)); refine blk_far ?_ NB977_991.out _; (with_reducible repeat (first | refine blk_drewN ?_ _ | refine blk_drew ?_ | refine blk_alloc ?_ _)); refine blk_far ?_ NB977_991.out _; (with_reducible repeat (first | refine blk_drewN ?_ _ | refine blk_drew ?_ | refine blk_alloc ?_ _)); refine blk_far ?_ NB977_991.out _; exact bs BK977.out) hb); have n11_ := Aside0.mk (blk_below (g := gb991) (o := .cells #[.int .i64 t978, .int .i64 t979, .int .i64 t980, .slice Ao39 t981.length co39, .slice Ao40 t984.length co40, .string t987, .string t988, .int .i64 t989] 72 (0, 0)) (by (with_reducible repeat (first | refine blk_drewN ?_ _ | refine blk_drew ?_ | refine blk_alloc ?_ _)); refine blk_put (cs := #[.int .i64 t978, .int .i64 t979, .int .i64 t980, .slice Ao39 t981.length co39, .slice Ao40 t984.length co40, .string t987, .string t988, .int .i64 0]) ?_ 7 _ rfl; (with_reducible repeat (first | refine blk_drewN ?_ _ | refine blk_drew ?_ | refine blk_alloc ?_ _)); refine blk_put (cs := #[.int .i64 t978, .int .i64 t979, .int .i64 t980, .slice Ao39 t981.length co39, .slice Ao40 t984.length co40, .string t987, .string (⟨#[]⟩ : ByteArray), .int .i64 0]) ?_ 6 _ rfl; (with_reducible repeat (first | refine blk_drewN ?_ _ | refine blk_drew ?_ | refine blk_alloc ?_ _)); refine blk_put (cs := #[.int .i64 t978, .int .i64 t979, .int .i64 t980, .slice Ao39 t981.length co39, .slice Ao40 t984.length co40, .string (⟨#[]⟩ : ByteArray), .string (⟨#[]⟩ : ByteArray), .int .i64 0]) ?_ 5 _ rfl; (with_reducible repeat (first | refine blk_drewN ?_ _ | refine blk_drew ?_ | refine blk_alloc ?_ _)); refine blk_put (cs := #[.int .i64 t978, .int .i64 t979, .int .i64 t980, .slice Ao39 t981.length co39, .slice none 0 0, .string (⟨#[]⟩ : ByteArray), .string (⟨#[]⟩ : ByteArray), .int .i64 0]) ?_ 4 _ rfl; (with_reducible repeat (first | refine blk_drewN ?_ _ | refine blk_drew ?_ | refine blk_alloc ?_ _)); refine blk_put (cs := #[.int .i64 t978, .int .i64 t979, .int .i64 t980, .slice none 0 0, .slice none 0 0, .string (⟨#[]⟩ : ByteArray), .string (⟨#[]⟩ : ByteArray), .int .i64 0]) ?_ 3 _ rfl; (with_reducible repeat (first | refine blk_drewN ?_ _ | refine blk_drew ?_ | refine blk_alloc ?_ _)); refine blk_put (cs := #[.int .i64 t978, .int .i64 t979, .int .i64 0, .slice none 0 0, .slice none 0 0, .string (⟨#[]⟩ : ByteArray), .string (⟨#[]⟩ : ByteArray), .int .i64 0]) ?_ 2 _ rfl; (with_reducible repeat (first | refine blk_drewN ?_ _ | refine blk_drew ?_ | refine blk_alloc ?_ _)); refine blk_put (cs := #[.int .i64 t978, .int .i64 0, .int .i64 0, .slice none 0 0, .slice none 0 0, .string (⟨#[]⟩ : ByteArray), .string (⟨#[]⟩ : ByteArray), .int .i64 0]) ?_ 1 _ rfl; (with_reducible repeat (first | refine blk_drewN ?_ _ | refine blk_drew ?_ | refine blk_alloc ?_ _)); refine blk_put (cs := #[.int .i64 0, .int .i64 0, .int .i64 0, .slice none 0 0, .slice none 0 0, .string (⟨#[]⟩ : ByteArray), .string (⟨#[]⟩ : ByteArray), .int .i64 0]) ?_ 0 _ rfl; exact bs BK991.out) hb); have n12_ := Aside0.mk (below_step (by repeat (first | (with_reducible first | exact bw HB.out | refine bset ?_ | apply bA | apply bN | apply bD) | exact HB.out)) hb); replace HO950 := n0_; replace HO953 := n1_; replace HO959 := n2_; replace HO962 := n3_; replace HO973 := n4_; replace HO976 := n5_; replace HO983 := n6_; replace HO986 := n7_; replace BK943 := n8_; replace BK967 := n9_; replace BK977 := n10_; replace BK991 := n11_; replace HB := n12_; clear n0_ n1_ n2_ n3_ n4_ n5_ n6_ n7_ n8_ n9_ n10_ n11_ n12_; (try clear hb); (try clear hb2); (try clear hk); (try clear hi)))
  go_meet
  case rel => exact ⟨_, (true), (by first | rfl | (simp; done) | (simp [*]; done)), H', ⟨by first | omega | exact Nat.le_refl _⟩, ⟨by (with_reducible repeat (first | apply Kd.R_alloc | apply Kd.R_drewN | apply Kd.R_drew)); exact Kd.R_mono HO959.out (fun _ hk => ⟨hk.1.2, hk.2⟩)⟩, ⟨by (with_reducible repeat (first | apply Kd.R_alloc | apply Kd.R_drewN | apply Kd.R_drew)); exact Kd.R_mono HO962.out (fun _ hk => ⟨hk.1.2, hk.2⟩)⟩, ⟨by (with_reducible repeat (first | apply Kd.R_alloc | apply Kd.R_drewN | apply Kd.R_drew)); exact Kd.R_mono HO973.out (fun _ hk => ⟨hk.1.2, hk.2⟩)⟩, ⟨by (with_reducible repeat (first | apply Kd.R_alloc | apply Kd.R_drewN | apply Kd.R_drew)); exact Kd.R_mono HO976.out (fun _ hk => ⟨hk.1.2, hk.2⟩)⟩, ⟨by (with_reducible repeat (first | apply Kd.R_alloc | apply Kd.R_drewN | apply Kd.R_drew)); exact Kd.R_mono HO983.out (fun _ hk => ⟨hk.1.2, hk.2⟩)⟩, ⟨by (with_reducible repeat (first | apply Kd.R_alloc | apply Kd.R_drewN | apply Kd.R_drew)); exact Kd.R_mono HO986.out (fun _ hk => ⟨hk.1.2, hk.2⟩)⟩, ⟨bs BK943.out⟩, ⟨bs BK967.out⟩, ⟨bs BK977.out⟩, ⟨bs BK991.out⟩, ⟨by repeat (first | (with_reducible first | exact bw HB.out | refine bset ?_ | apply bA | apply bN | apply bD) | exact HB.out)⟩⟩
 case rest =>
  clear HC11
  try clear c1
  try clear c2
  try clear p2
  try clear c3
  try clear c3b0
  try clear c4
  try clear c5
  try clear c12
  try clear c21
  try clear c28
  try clear c29
  try clear c35
  try clear c36
  try clear c37
  try clear c39
  try clear c42
  try clear c43
  try clear c44
  try clear c45
  try clear c47
  try clear c48
  try clear c50
  try clear c51
  try clear c52
  try clear c53
  try clear c55
  try clear c56
  try clear hcz13_0
  try clear hcz13_1
  try clear hcz13_2
  try clear hcz13_3
  try clear hcz13_4
  try clear hcz15_0
  try clear hcz15_1
  try clear hcz15_2
  try clear hcz15_3
  try clear hcz15_4
  try clear hcz22_0
  try clear hcz22_1
  try clear hcz22_2
  try clear hcz22_3
  try clear hcz22_4
  try clear hcz22_5
  try clear hcz22_6
  try clear hcz22_7
  try clear hcz25_0
  try clear hcz25_1
  try clear hcz25_2
  try clear hcz25_3
  try clear hcz25_4
  try clear hcz30_0
  try clear hcz30_1
  try clear hcz30_2
  try clear hcz30_3
  try clear hcz30_4
  try clear hcz38_0
  try clear hcz38_1
  try clear hcz38_2
  try clear hcz38_3
  try clear hcz38_4
  try clear hcz38_5
  try clear hcz38_6
  try clear hcz38_7
  try clear hcz46_0
  try clear hcz46_1
  try clear hcz46_2
  try clear hcz46_3
  try clear hcz46_4
  try clear hcz46_5
  try clear hcz46_6
  try clear hcz46_7
  try clear hcz49_0
  try clear hcz49_1
  try clear hcz49_2
  try clear hcz49_3
  try clear hcz49_4
  try clear hcz49_5
  try clear hcz49_6
  try clear hcz49_7
  try clear hcz54_0
  try clear hcz54_1
  try clear hcz54_2
  try clear hcz54_3
  try clear hcz54_4
  try clear hcz54_5
  try clear hcz54_6
  try clear hcz54_7
  try clear hcz57_0
  try clear hcz57_1
  try clear hcz57_2
  try clear hcz57_3
  try clear hcz57_4
  try clear hcz57_5
  try clear hcz57_6
  try clear hcz57_7
  try clear hcz5_0
  try clear hcz5_1
  try clear hcz5_2
  try clear hcz5_3
  try clear hcz5_4
  try clear hfz13_0
  try clear hfz13_1
  try clear hfz13_2
  try clear hfz13_3
  try clear hfz13_4
  try clear hfz15_0
  try clear hfz15_1
  try clear hfz15_2
  try clear hfz15_3
  try clear hfz15_4
  try clear hfz22_0
  try clear hfz22_1
  try clear hfz22_2
  try clear hfz22_3
  try clear hfz22_4
  try clear hfz22_5
  try clear hfz22_6
  try clear hfz22_7
  try clear hfz25_0
  try clear hfz25_1
  try clear hfz25_2
  try clear hfz25_3
  try clear hfz25_4
  try clear hfz30_0
  try clear hfz30_1
  try clear hfz30_2
  try clear hfz30_3
  try clear hfz30_4
  try clear hfz38_0
  try clear hfz38_1
  try clear hfz38_2
  try clear hfz38_3
  try clear hfz38_4
  try clear hfz38_5
  try clear hfz38_6
  try clear hfz38_7
  try clear hfz46_0
  try clear hfz46_1
  try clear hfz46_2
  try clear hfz46_3
  try clear hfz46_4
  try clear hfz46_5
  try clear hfz46_6
  try clear hfz46_7
  try clear hfz49_0
  try clear hfz49_1
  try clear hfz49_2
  try clear hfz49_3
  try clear hfz49_4
  try clear hfz49_5
  try clear hfz49_6
  try clear hfz49_7
  try clear hfz54_0
  try clear hfz54_1
  try clear hfz54_2
  try clear hfz54_3
  try clear hfz54_4
  try clear hfz54_5
  try clear hfz54_6
  try clear hfz54_7
  try clear hfz57_0
  try clear hfz57_1
  try clear hfz57_2
  try clear hfz57_3
  try clear hfz57_4
  try clear hfz57_5
  try clear hfz57_6
  try clear hfz57_7
  try clear hfz5_0
  try clear hfz5_1
  try clear hfz5_2
  try clear hfz5_3
  try clear hfz5_4
  obtain ⟨kq, x40_10, rfl, HA, HJ10, HO_968003, HO_968004, HO_978003, HO_978004, HO_992003, HO_992004, BK943, BK967, BK977, BK991, HB⟩ := hcut
  cases kq with
  | zero => exact absurd HA.out (by simp [laws_FnExactNewConsole.j0])
  | succ kj10 =>
   have H := HA.out
   clear HA
   simp only [laws_FnExactNewConsole.j0] at H
   by_cases c59 : x40_10 = true
   ·subst c59
    have H1 : (some false) = some r := by rw [if_pos rfl] at H; exact H
    clear H
    have H := H1
    clear H1
    obtain rfl := Option.some.inj H
    go_wp2
    go_ret
    exact ⟨by first | rfl | (simp [errW_none, errW_some] <;> rfl) | (simp [*, errW_none, errW_some] <;> rfl), by repeat (first | (with_reducible first | exact bw HB.out | refine bset ?_ | apply bA | apply bN | apply bD) | exact HB.out)⟩
   replace c59 := Bool.eq_false_iff.mpr c59
   subst c59
   have H1 : ((laws_toDispatcher.f kj10 a0_0 a0_1 a0_2 l0_3 l0_4).bind fun bt993 => ((laws_eqDispatcher.f kj10 t968 t969 t970 t971 t974 bt993.1 bt993.2.1 bt993.2.2.1 bt993.2.2.2.1 bt993.2.2.2.2).bind fun t1002 => (if t1002 = true then ((laws_markDispatcher.f kj10 t968 t969 t970 t971 t974 1).bind fun bt1003 => (if bt1003.1 < 0 then (laws_FnExactNewConsole.j1 kj10 t966 true a0_0 a0_1 a0_2 l0_3 l0_4 t954 t955 t956 t957 t960 t963 t964 t965 t978 t979 t980 t981 t984 t987 t988 t989) else ((laws_eqConsole.f kj10 t978 t979 t980 t981 t984 t987 t988 t989 t954 t955 t956 t957 t960 t963 t964 t965).bind fun t1006 => (if t1006 = true then (laws_FnExactNewConsole.j1 kj10 t966 (t990 != t966) a0_0 a0_1 a0_2 l0_3 l0_4 t954 t955 t956 t957 t960 t963 t964 t965 t978 t979 t980 t981 t984 t987 t988 t989) else (laws_FnExactNewConsole.j1 kj10 t966 true a0_0 a0_1 a0_2 l0_3 l0_4 t954 t955 t956 t957 t960 t963 t964 t965 t978 t979 t980 t981 t984 t987 t988 t989))))) else (some false)))) = some r := by rw [if_neg (show ¬ (false = true) by decide)] at H; exact H
   clear H
   have H := H1
   clear H1
   replace H := Option.bind_eq_some_iff.mp H
   obtain ⟨⟨t993, t994, t995, t996, t999⟩, A600, H⟩ := H
   replace H : ((laws_eqDispatcher.f kj10 t968 t969 t970 t971 t974 t993 t994 t995 t996 t999).bind fun t1002 => (if t1002 = true then ((laws_markDispatcher.f kj10 t968 t969 t970 t971 t974 1).bind fun bt1003 => (if bt1003.1 < 0 then (laws_FnExactNewConsole.j1 kj10 t966 true a0_0 a0_1 a0_2 l0_3 l0_4 t954 t955 t956 t957 t960 t963 t964 t965 t978 t979 t980 t981 t984 t987 t988 t989) else ((laws_eqConsole.f kj10 t978 t979 t980 t981 t984 t987 t988 t989 t954 t955 t956 t957 t960 t963 t964 t965).bind fun t1006 => (if t1006 = true then (laws_FnExactNewConsole.j1 kj10 t966 (t990 != t966) a0_0 a0_1 a0_2 l0_3 l0_4 t954 t955 t956 t957 t960 t963 t964 t965 t978 t979 t980 t981 t984 t987 t988 t989) else (laws_FnExactNewConsole.j1 kj10 t966 true a0_0 a0_1 a0_2 l0_3 l0_4 t954 t955 t956 t957 t960 t963 t964 t965 t978 t979 t980 t981 t984 t987 t988 t989))))) else (some false))) = some r := H
   have A60 := Aside0.mk A600
   clear A600
   replace H := Option.bind_eq_some_iff.mp H
   obtain ⟨t1002, A610, H⟩ := H
   replace H : (if t1002 = true then ((laws_markDispatcher.f kj10 t968 t969 t970 t971 t974 1).bind fun bt1003 => (if bt1003.1 < 0 then (laws_FnExactNewConsole.j1 kj10 t966 true a0_0 a0_1 a0_2 l0_3 l0_4 t954 t955 t956 t957 t960 t963 t964 t965 t978 t979 t980 t981 t984 t987 t988 t989) else ((laws_eqConsole.f kj10 t978 t979 t980 t981 t984 t987 t988 t989 t954 t955 t956 t957 t960 t963 t964 t965).bind fun t1006 => (if t1006 = true then (laws_FnExactNewConsole.j1 kj10 t966 (t990 != t966) a0_0 a0_1 a0_2 l0_3 l0_4 t954 t955 t956 t957 t960 t963 t964 t965 t978 t979 t980 t981 t984 t987 t988 t989) else (laws_FnExactNewConsole.j1 kj10 t966 true a0_0 a0_1 a0_2 l0_3 l0_4 t954 t955 t956 t957 t960 t963 t964 t965 t978 t979 t980 t981 t984 t987 t988 t989))))) else (some false)) = some r := H
   have A61 := Aside0.mk A610
   clear A610
   by_cases c62 : t1002 = true
   rotate_left
   ·replace c62 := Bool.eq_false_iff.mpr c62
    subst c62
    have H1 : (some false) = some r := by rw [if_neg (show ¬ (false = true) by decide)] at H; exact H
    clear H
    have H := H1
    clear H1
    obtain rfl := Option.some.inj H
    try go_wp2
    have n0_ := Aside0.mk (Kd.R_drew HO_968003.out)
    have n1_ := Aside0.mk (Kd.R_drew HO_968004.out)
    have n2_ := Aside0.mk (Kd.R_drew HO_978003.out)
    have n3_ := Aside0.mk (Kd.R_drew HO_978004.out)
    have n4_ := Aside0.mk (Kd.R_drew HO_992003.out)
    have n5_ := Aside0.mk (Kd.R_drew HO_992004.out)
    have n6_ := Aside0.mk (blk_drew BK943.out)
    have n7_ := Aside0.mk (blk_drew BK967.out)
    have n8_ := Aside0.mk (blk_drew BK977.out)
    have n9_ := Aside0.mk (blk_drew BK991.out)
    have n10_ := Aside0.mk (below_drew1 HB.out)
    replace HO_968003 := n0_
    replace HO_968004 := n1_
    replace HO_978003 := n2_
    replace HO_978004 := n3_
    replace HO_992003 := n4_
    replace HO_992004 := n5_
    replace BK943 := n6_
    replace BK967 := n7_
    replace BK977 := n8_
    replace BK991 := n9_
    replace HB := n10_
    clear n0_ n1_ n2_ n3_ n4_ n5_ n6_ n7_ n8_ n9_ n10_
    refine start_ (n := 5) (S := fun w' => w'.cell? ⟨gb977, 0, none⟩ = some (.int .i64 t968) ∧ w'.cell? ⟨gb977, 1, none⟩ = some (.int .i64 t969) ∧ w'.cell? ⟨gb977, 2, none⟩ = some (.int .i64 t970) ∧ w'.cell? ⟨gb977, 3, none⟩ = some (.slice Ao31 t971.length co31) ∧ w'.cell? ⟨gb977, 4, none⟩ = some (.slice Ao32 t974.length co32) ∧ w'.cell? ⟨gb943, 0, none⟩ = some (.int .i64 a0_0) ∧ w'.cell? ⟨gb943, 1, none⟩ = some (.int .i64 a0_1) ∧ w'.cell? ⟨gb943, 2, none⟩ = some (.int .i64 a0_2) ∧ w'.cell? ⟨gb943, 3, none⟩ = some (.slice A0_3 l0_3.length c0_3) ∧ w'.cell? ⟨gb943, 4, none⟩ = some (.slice A0_4 l0_4.length c0_4)) (ds := []) #[false, false, false, false, false] (by kernel_rfl) rfl rfl ⟨(blk_cell BK977.out 0).trans rfl, (blk_cell BK977.out 1).trans rfl, (blk_cell BK977.out 2).trans rfl, (blk_cell BK977.out 3).trans rfl, (blk_cell BK977.out 4).trans rfl, (blk_cell BK943.out 0).trans rfl, (blk_cell BK943.out 1).trans rfl, (blk_cell BK943.out 2).trans rfl, (blk_cell BK943.out 3).trans rfl, (blk_cell BK943.out 4).trans rfl⟩ (fun hHeld => ?_)
    generalize wc.drew = w182 at HO_968003 HO_968004 HO_978003 HO_978004 HO_992003 HO_992004 BK943 BK967 BK977 BK991 HB hHeld ⊢
    refine take_ (i := 0) (N := some 41) (v := ?_) (a' := ?_) #[true, false, false, false, false] rfl rfl (by kernel_rfl) (fun _ _ _ h => h) (Or.inl ⟨by rfl, ?_⟩) hHeld ?_ ?_
    rotate_left
    ·rintro w' ⟨s0, s1, s2, s3, s4, s5, s6, s7, s8, s9⟩
     go_simp
     with_reducible rfl
    rotate_left
    ·simp only [aq_]
     rfl
    refine take_ (i := 1) (N := some 42) (v := ?_) (a' := ?_) #[true, true, false, false, false] rfl rfl (by kernel_rfl) (fun _ _ _ h => h) (Or.inl ⟨by rfl, ?_⟩) hHeld ?_ ?_
    rotate_left
    ·rintro w' ⟨s0, s1, s2, s3, s4, s5, s6, s7, s8, s9⟩
     go_simp
     with_reducible rfl
    rotate_left
    ·simp only [aq_]
     rfl
    refine one_ (i := 2) (N := some 43) #[true, true, true, false, false] rfl rfl (by kernel_rfl) (by decide) (fun K hK => ?_)
    refine goes_ Try.func39 (by kernel_rfl) rfl #[.agg #[.int .i64 a0_0, .int .i64 a0_1, .int .i64 a0_2, .slice A0_3 l0_3.length c0_3, .slice A0_4 l0_4.length c0_4]] (by rfl) rfl rfl (by (try simp only [mA_]); first | done | rfl | (simp only [List.length_drop, List.length_take]; rfl)) ?_
    with_reducible refine (laws_toDispatcher.calls kj10 a0_0 a0_1 a0_2 _ _ l0_3 _ _ l0_4 t993 t994 t995 t996 t999 _ ?side1 ?side2 ?side3 ?side4 A60.out).mono ?_
    (case side1 => first | exact bC HR0_3.out HB.out | exact Kd.C_below HR0_3.out HB.out)
    (case side2 => exact HC0_3.out)
    (case side3 => first | exact bC HR0_4.out HB.out | exact Kd.C_below HR0_4.out HB.out)
    (case side4 => exact HC0_4.out)
    rintro e w183 ⟨v997, v1000, rfl, ho0, ho1, hb⟩
    refine ⟨_, rfl, ?_⟩
    have n0_ := Aside0.mk (Kd.R_elder' (bR HO_968003.out) (Kd.R_base ho0) hb)
    have n1_ := Aside0.mk (Kd.R_elder' (bR HO_968004.out) (Kd.R_base ho1) hb)
    have n2_ := Aside0.mk (Kd.R_elder' (bR HO_978003.out) (Kd.R_base ho0) hb)
    have n3_ := Aside0.mk (Kd.R_elder' (bR HO_978004.out) (Kd.R_base ho1) hb)
    have n4_ := Aside0.mk (Kd.R_elder' (bR HO_992003.out) (Kd.R_base ho0) hb)
    have n5_ := Aside0.mk (Kd.R_elder' (bR HO_992004.out) (Kd.R_base ho1) hb)
    have n6_ := Aside0.mk (Kd.R_lower (Kd.R_new' (Kd.R_new' (Kd.R_new' ho0 (Kd.R_lt (bR HO_968003.out))) (Kd.R_lt (bR HO_978003.out))) (Kd.R_lt (bR HO_992003.out))) (below_size (by repeat (first | (with_reducible first | exact bw HB.out | refine bset ?_ | apply bA | apply bN | apply bD) | exact HB.out))))
    have n7_ := Aside0.mk (Kd.R_lower (Kd.R_new' (Kd.R_new' (Kd.R_new' ho1 (Kd.R_lt (bR HO_968004.out))) (Kd.R_lt (bR HO_978004.out))) (Kd.R_lt (bR HO_992004.out))) (below_size (by repeat (first | (with_reducible first | exact bw HB.out | refine bset ?_ | apply bA | apply bN | apply bD) | exact HB.out))))
    have n8_ := Aside0.mk (blk_below (bs BK943.out) hb)
    have n9_ := Aside0.mk (blk_below (bs BK967.out) hb)
    have n10_ := Aside0.mk (blk_below (bs BK977.out) hb)
    have n11_ := Aside0.mk (blk_below (bs BK991.out) hb)
    have n12_ := Aside0.mk (below_step (by repeat (first | (with_reducible first | exact bw HB.out | refine bset ?_ | apply bA | apply bN | apply bD) | exact HB.out)) hb)
    replace HO_968003 := n0_
    replace HO_968004 := n1_
    replace HO_978003 := n2_
    replace HO_978004 := n3_
    replace HO_992003 := n4_
    replace HO_992004 := n5_
    have HO998 := n6_
    have HO1001 := n7_
    replace BK943 := n8_
    replace BK967 := n9_
    replace BK977 := n10_
    replace BK991 := n11_
    replace HB := n12_
    clear n0_ n1_ n2_ n3_ n4_ n5_ n6_ n7_ n8_ n9_ n10_ n11_ n12_
    (try clear hb)
    (try clear hb2)
    (try clear hk)
    (try clear hi)
    (try clear ho0)
    (try clear ho1)
    obtain ⟨Ao184, co184, eo184⟩ := Kd.R_slice HO998.out
    (first | subst eo184 | (injection eo184 with f1_ f2_ f3_; have f4_ := f1_.symm; have f5_ := f3_.symm; clear f1_ f2_ f3_; subst f4_; subst f5_))
    obtain ⟨Ao185, co185, eo185⟩ := Kd.R_slice HO1001.out
    (first | subst eo185 | (injection eo185 with f1_ f2_ f3_; have f4_ := f1_.symm; have f5_ := f3_.symm; clear f1_ f2_ f3_; subst f4_; subst f5_))
    refine hK.out _ _ ⟨(blk_cell BK977.out 0).trans rfl, (blk_cell BK977.out 1).trans rfl, (blk_cell BK977.out 2).trans rfl, (blk_cell BK977.out 3).trans rfl, (blk_cell BK977.out 4).trans rfl, (blk_cell BK943.out 0).trans rfl, (blk_cell BK943.out 1).trans rfl, (blk_cell BK943.out 2).trans rfl, (blk_cell BK943.out 3).trans rfl, (blk_cell BK943.out 4).trans rfl⟩ (fun hHeld => ?_)
    clear hK K
    refine norm_ (a' := ?_) ?_ ?_
    rotate_left
    ·show Act.put _ (some 43) _ = _
     simp only [aq_]
     rfl
    refine one_ (i := 3) (N := some 44) #[true, true, true, true, false] rfl rfl (by kernel_rfl) (by decide) (fun K hK => ?_)
    refine goes_ Try.func18 (by kernel_rfl) rfl #[.agg #[.int .i64 t968, .int .i64 t969, .int .i64 t970, .slice Ao31 t971.length co31, .slice Ao32 t974.length co32], .agg #[.int .i64 t993, .int .i64 t994, .int .i64 t995, .slice Ao184 t996.length co184, .slice Ao185 t999.length co185]] (by rfl) rfl rfl (by (try simp only [mA_]); first | done | rfl | (simp only [List.length_drop, List.length_take]; rfl)) ?_
    with_reducible refine (laws_eqDispatcher.calls kj10 t968 t969 t970 _ _ t971 _ _ t974 t993 t994 t995 _ _ t996 _ _ t999 false _ ?side1 ?side2 ?side3 ?side4 ?side5 ?side6 ?side7 ?side8 A61.out).mono ?_
    (case side1 => repeat (first | exact (Kd.R_reads' HO_978003.out).2.2 | (with_reducible refine Kd.C_alloc ?_ _) | (with_reducible refine Kd.C_drewN ?_ _) | (with_reducible refine Kd.C_drew ?_)))
    (case side2 => exact (Kd.R_reads' HO_978003.out).2.1)
    (case side3 => repeat (first | exact (Kd.R_reads' HO_978004.out).2.2 | (with_reducible refine Kd.C_alloc ?_ _) | (with_reducible refine Kd.C_drewN ?_ _) | (with_reducible refine Kd.C_drew ?_)))
    (case side4 => exact (Kd.R_reads' HO_978004.out).2.1)
    (case side5 => repeat (first | exact (Kd.R_reads' HO998.out).2.2 | (with_reducible refine Kd.C_alloc ?_ _) | (with_reducible refine Kd.C_drewN ?_ _) | (with_reducible refine Kd.C_drew ?_)))
    (case side6 => exact (Kd.R_reads' HO998.out).2.1)
    (case side7 => repeat (first | exact (Kd.R_reads' HO1001.out).2.2 | (with_reducible refine Kd.C_alloc ?_ _) | (with_reducible refine Kd.C_drewN ?_ _) | (with_reducible refine Kd.C_drew ?_)))
    (case side8 => exact (Kd.R_reads' HO1001.out).2.1)
    rintro e w186 ⟨rfl, hb⟩
    refine ⟨_, rfl, ?_⟩
    have n0_ := Aside0.mk (Kd.R_below (bR HO_968003.out) hb)
    have n1_ := Aside0.mk (Kd.R_below (bR HO_968004.out) hb)
    have n2_ := Aside0.mk (Kd.R_below (bR HO_978003.out) hb)
    have n3_ := Aside0.mk (Kd.R_below (bR HO_978004.out) hb)
    have n4_ := Aside0.mk (Kd.R_below (bR HO_992003.out) hb)
    have n5_ := Aside0.mk (Kd.R_below (bR HO_992004.out) hb)
    have n6_ := Aside0.mk (Kd.R_below (bR HO998.out) hb)
    have n7_ := Aside0.mk (Kd.R_below (bR HO1001.out) hb)
    have n8_ := Aside0.mk (blk_below (bs BK943.out) hb)
    have n9_ := Aside0.mk (blk_below (bs BK967.out) hb)
    have n10_ := Aside0.mk (blk_below (bs BK977.out) hb)
    have n11_ := Aside0.mk (blk_below (bs BK991.out) hb)
    have n12_ := Aside0.mk (below_step (by repeat (first | (with_reducible first | exact bw HB.out | refine bset ?_ | apply bA | apply bN | apply bD) | exact HB.out)) hb)
    replace HO_968003 := n0_
    replace HO_968004 := n1_
    replace HO_978003 := n2_
    replace HO_978004 := n3_
    replace HO_992003 := n4_
    replace HO_992004 := n5_
    replace HO998 := n6_
    replace HO1001 := n7_
    replace BK943 := n8_
    replace BK967 := n9_
    replace BK977 := n10_
    replace BK991 := n11_
    replace HB := n12_
    clear n0_ n1_ n2_ n3_ n4_ n5_ n6_ n7_ n8_ n9_ n10_ n11_ n12_
    (try clear hb)
    (try clear hb2)
    (try clear hk)
    (try clear hi)
    refine hK.out _ _ ⟨(blk_cell BK977.out 0).trans rfl, (blk_cell BK977.out 1).trans rfl, (blk_cell BK977.out 2).trans rfl, (blk_cell BK977.out 3).trans rfl, (blk_cell BK977.out 4).trans rfl, (blk_cell BK943.out 0).trans rfl, (blk_cell BK943.out 1).trans rfl, (blk_cell BK943.out 2).trans rfl, (blk_cell BK943.out 3).trans rfl, (blk_cell BK943.out 4).trans rfl⟩ (fun hHeld => ?_)
    clear hK K
    refine norm_ (a' := ?_) ?_ ?_
    rotate_left
    ·show Act.put _ (some 44) _ = _
     simp only [aq_]
     rfl
    refine puq_ (i := 4) (N := some 45) rfl rfl (by kernel_rfl) (fun _ _ _ h => h) (Or.inl ⟨by rfl, by intro w'; go_simp; with_reducible rfl⟩) (by simp only [aq_]; rfl) ?_
    refine done_ (by kernel_rfl) ?_
    try go_wp2
    go_ret
    exact ⟨by first | rfl | (simp [errW_none, errW_some] <;> rfl) | (simp [*, errW_none, errW_some] <;> rfl), by repeat (first | (with_reducible first | exact bw HB.out | refine bset ?_ | apply bA | apply bN | apply bD) | exact HB.out)⟩
   subst c62
   have H1 : ((laws_markDispatcher.f kj10 t968 t969 t970 t971 t974 1).bind fun bt1003 => (if bt1003.1 < 0 then (laws_FnExactNewConsole.j1 kj10 t966 true a0_0 a0_1 a0_2 l0_3 l0_4 t954 t955 t956 t957 t960 t963 t964 t965 t978 t979 t980 t981 t984 t987 t988 t989) else ((laws_eqConsole.f kj10 t978 t979 t980 t981 t984 t987 t988 t989 t954 t955 t956 t957 t960 t963 t964 t965).bind fun t1006 => (if t1006 = true then (laws_FnExactNewConsole.j1 kj10 t966 (t990 != t966) a0_0 a0_1 a0_2 l0_3 l0_4 t954 t955 t956 t957 t960 t963 t964 t965 t978 t979 t980 t981 t984 t987 t988 t989) else (laws_FnExactNewConsole.j1 kj10 t966 true a0_0 a0_1 a0_2 l0_3 l0_4 t954 t955 t956 t957 t960 t963 t964 t965 t978 t979 t980 t981 t984 t987 t988 t989))))) = some r := by rw [if_pos rfl] at H; exact H
   clear H
   have H := H1
   clear H1
   replace H := Option.bind_eq_some_iff.mp H
   obtain ⟨⟨t1003, t1004, t1005⟩, A630, H⟩ := H
   replace H : (if t1003 < 0 then (laws_FnExactNewConsole.j1 kj10 t966 true a0_0 a0_1 a0_2 l0_3 l0_4 t954 t955 t956 t957 t960 t963 t964 t965 t978 t979 t980 t981 t984 t987 t988 t989) else ((laws_eqConsole.f kj10 t978 t979 t980 t981 t984 t987 t988 t989 t954 t955 t956 t957 t960 t963 t964 t965).bind fun t1006 => (if t1006 = true then (laws_FnExactNewConsole.j1 kj10 t966 (t990 != t966) a0_0 a0_1 a0_2 l0_3 l0_4 t954 t955 t956 t957 t960 t963 t964 t965 t978 t979 t980 t981 t984 t987 t988 t989) else (laws_FnExactNewConsole.j1 kj10 t966 true a0_0 a0_1 a0_2 l0_3 l0_4 t954 t955 t956 t957 t960 t963 t964 t965 t978 t979 t980 t981 t984 t987 t988 t989)))) = some r := H
   have A63 := Aside0.mk A630
   clear A630
   have HC64 := Aside0.mk H
   clear H
   try go_wp2
   have n0_ := Aside0.mk (Kd.R_drew HO_968003.out)
   have n1_ := Aside0.mk (Kd.R_drew HO_968004.out)
   have n2_ := Aside0.mk (Kd.R_drew HO_978003.out)
   have n3_ := Aside0.mk (Kd.R_drew HO_978004.out)
   have n4_ := Aside0.mk (Kd.R_drew HO_992003.out)
   have n5_ := Aside0.mk (Kd.R_drew HO_992004.out)
   have n6_ := Aside0.mk (blk_drew BK943.out)
   have n7_ := Aside0.mk (blk_drew BK967.out)
   have n8_ := Aside0.mk (blk_drew BK977.out)
   have n9_ := Aside0.mk (blk_drew BK991.out)
   have n10_ := Aside0.mk (below_drew1 HB.out)
   replace HO_968003 := n0_
   replace HO_968004 := n1_
   replace HO_978003 := n2_
   replace HO_978004 := n3_
   replace HO_992003 := n4_
   replace HO_992004 := n5_
   replace BK943 := n6_
   replace BK967 := n7_
   replace BK977 := n8_
   replace BK991 := n9_
   replace HB := n10_
   clear n0_ n1_ n2_ n3_ n4_ n5_ n6_ n7_ n8_ n9_ n10_
   refine start_ (n := 5) (S := fun w' => w'.cell? ⟨gb977, 0, none⟩ = some (.int .i64 t968) ∧ w'.cell? ⟨gb977, 1, none⟩ = some (.int .i64 t969) ∧ w'.cell? ⟨gb977, 2, none⟩ = some (.int .i64 t970) ∧ w'.cell? ⟨gb977, 3, none⟩ = some (.slice Ao31 t971.length co31) ∧ w'.cell? ⟨gb977, 4, none⟩ = some (.slice Ao32 t974.length co32) ∧ w'.cell? ⟨gb943, 0, none⟩ = some (.int .i64 a0_0) ∧ w'.cell? ⟨gb943, 1, none⟩ = some (.int .i64 a0_1) ∧ w'.cell? ⟨gb943, 2, none⟩ = some (.int .i64 a0_2) ∧ w'.cell? ⟨gb943, 3, none⟩ = some (.slice A0_3 l0_3.length c0_3) ∧ w'.cell? ⟨gb943, 4, none⟩ = some (.slice A0_4 l0_4.length c0_4)) (ds := []) #[false, false, false, false, false] (by kernel_rfl) rfl rfl ⟨(blk_cell BK977.out 0).trans rfl, (blk_cell BK977.out 1).trans rfl, (blk_cell BK977.out 2).trans rfl, (blk_cell BK977.out 3).trans rfl, (blk_cell BK977.out 4).trans rfl, (blk_cell BK943.out 0).trans rfl, (blk_cell BK943.out 1).trans rfl, (blk_cell BK943.out 2).trans rfl, (blk_cell BK943.out 3).trans rfl, (blk_cell BK943.out 4).trans rfl⟩ (fun hHeld => ?_)
   generalize wc.drew = w65 at HO_968003 HO_968004 HO_978003 HO_978004 HO_992003 HO_992004 BK943 BK967 BK977 BK991 HB hHeld ⊢
   refine take_ (i := 0) (N := some 41) (v := ?_) (a' := ?_) #[true, false, false, false, false] rfl rfl (by kernel_rfl) (fun _ _ _ h => h) (Or.inl ⟨by rfl, ?_⟩) hHeld ?_ ?_
   rotate_left
   ·rintro w' ⟨s0, s1, s2, s3, s4, s5, s6, s7, s8, s9⟩
    go_simp
    with_reducible rfl
   rotate_left
   ·simp only [aq_]
    rfl
   refine take_ (i := 1) (N := some 42) (v := ?_) (a' := ?_) #[true, true, false, false, false] rfl rfl (by kernel_rfl) (fun _ _ _ h => h) (Or.inl ⟨by rfl, ?_⟩) hHeld ?_ ?_
   rotate_left
   ·rintro w' ⟨s0, s1, s2, s3, s4, s5, s6, s7, s8, s9⟩
    go_simp
    with_reducible rfl
   rotate_left
   ·simp only [aq_]
    rfl
   refine one_ (i := 2) (N := some 43) #[true, true, true, false, false] rfl rfl (by kernel_rfl) (by decide) (fun K hK => ?_)
   refine goes_ Try.func39 (by kernel_rfl) rfl #[.agg #[.int .i64 a0_0, .int .i64 a0_1, .int .i64 a0_2, .slice A0_3 l0_3.length c0_3, .slice A0_4 l0_4.length c0_4]] (by rfl) rfl rfl (by (try simp only [mA_]); first | done | rfl | (simp only [List.length_drop, List.length_take]; rfl)) ?_
   with_reducible refine (laws_toDispatcher.calls kj10 a0_0 a0_1 a0_2 _ _ l0_3 _ _ l0_4 t993 t994 t995 t996 t999 _ ?side1 ?side2 ?side3 ?side4 A60.out).mono ?_
   (case side1 => first | exact bC HR0_3.out HB.out | exact Kd.C_below HR0_3.out HB.out)
   (case side2 => exact HC0_3.out)
   (case side3 => first | exact bC HR0_4.out HB.out | exact Kd.C_below HR0_4.out HB.out)
   (case side4 => exact HC0_4.out)
   rintro e w66 ⟨v997, v1000, rfl, ho0, ho1, hb⟩
   refine ⟨_, rfl, ?_⟩
   have n0_ := Aside0.mk (Kd.R_elder' (bR HO_968003.out) (Kd.R_base ho0) hb)
   have n1_ := Aside0.mk (Kd.R_elder' (bR HO_968004.out) (Kd.R_base ho1) hb)
   have n2_ := Aside0.mk (Kd.R_elder' (bR HO_978003.out) (Kd.R_base ho0) hb)
   have n3_ := Aside0.mk (Kd.R_elder' (bR HO_978004.out) (Kd.R_base ho1) hb)
   have n4_ := Aside0.mk (Kd.R_elder' (bR HO_992003.out) (Kd.R_base ho0) hb)
   have n5_ := Aside0.mk (Kd.R_elder' (bR HO_992004.out) (Kd.R_base ho1) hb)
   have n6_ := Aside0.mk (Kd.R_lower (Kd.R_new' (Kd.R_new' (Kd.R_new' ho0 (Kd.R_lt (bR HO_968003.out))) (Kd.R_lt (bR HO_978003.out))) (Kd.R_lt (bR HO_992003.out))) (below_size (by repeat (first | (with_reducible first | exact bw HB.out | refine bset ?_ | apply bA | apply bN | apply bD) | exact HB.out))))
   have n7_ := Aside0.mk (Kd.R_lower (Kd.R_new' (Kd.R_new' (Kd.R_new' ho1 (Kd.R_lt (bR HO_968004.out))) (Kd.R_lt (bR HO_978004.out))) (Kd.R_lt (bR HO_992004.out))) (below_size (by repeat (first | (with_reducible first | exact bw HB.out | refine bset ?_ | apply bA | apply bN | apply bD) | exact HB.out))))
   have n8_ := Aside0.mk (blk_below (bs BK943.out) hb)
   have n9_ := Aside0.mk (blk_below (bs BK967.out) hb)
   have n10_ := Aside0.mk (blk_below (bs BK977.out) hb)
   have n11_ := Aside0.mk (blk_below (bs BK991.out) hb)
   have n12_ := Aside0.mk (below_step (by repeat (first | (with_reducible first | exact bw HB.out | refine bset ?_ | apply bA | apply bN | apply bD) | exact HB.out)) hb)
   replace HO_968003 := n0_
   replace HO_968004 := n1_
   replace HO_978003 := n2_
   replace HO_978004 := n3_
   replace HO_992003 := n4_
   replace HO_992004 := n5_
   have HO998 := n6_
   have HO1001 := n7_
   replace BK943 := n8_
   replace BK967 := n9_
   replace BK977 := n10_
   replace BK991 := n11_
   replace HB := n12_
   clear n0_ n1_ n2_ n3_ n4_ n5_ n6_ n7_ n8_ n9_ n10_ n11_ n12_
   (try clear hb)
   (try clear hb2)
   (try clear hk)
   (try clear hi)
   (try clear ho0)
   (try clear ho1)
   obtain ⟨Ao67, co67, eo67⟩ := Kd.R_slice HO998.out
   (first | subst eo67 | (injection eo67 with f1_ f2_ f3_; have f4_ := f1_.symm; have f5_ := f3_.symm; clear f1_ f2_ f3_; subst f4_; subst f5_))
   obtain ⟨Ao68, co68, eo68⟩ := Kd.R_slice HO1001.out
   (first | subst eo68 | (injection eo68 with f1_ f2_ f3_; have f4_ := f1_.symm; have f5_ := f3_.symm; clear f1_ f2_ f3_; subst f4_; subst f5_))
   refine hK.out _ _ ⟨(blk_cell BK977.out 0).trans rfl, (blk_cell BK977.out 1).trans rfl, (blk_cell BK977.out 2).trans rfl, (blk_cell BK977.out 3).trans rfl, (blk_cell BK977.out 4).trans rfl, (blk_cell BK943.out 0).trans rfl, (blk_cell BK943.out 1).trans rfl, (blk_cell BK943.out 2).trans rfl, (blk_cell BK943.out 3).trans rfl, (blk_cell BK943.out 4).trans rfl⟩ (fun hHeld => ?_)
   clear hK K
   refine norm_ (a' := ?_) ?_ ?_
   rotate_left
   ·show Act.put _ (some 43) _ = _
    simp only [aq_]
    rfl
   refine one_ (i := 3) (N := some 44) #[true, true, true, true, false] rfl rfl (by kernel_rfl) (by decide) (fun K hK => ?_)
   refine goes_ Try.func18 (by kernel_rfl) rfl #[.agg #[.int .i64 t968, .int .i64 t969, .int .i64 t970, .slice Ao31 t971.length co31, .slice Ao32 t974.length co32], .agg #[.int .i64 t993, .int .i64 t994, .int .i64 t995, .slice Ao67 t996.length co67, .slice Ao68 t999.length co68]] (by rfl) rfl rfl (by (try simp only [mA_]); first | done | rfl | (simp only [List.length_drop, List.length_take]; rfl)) ?_
   with_reducible refine (laws_eqDispatcher.calls kj10 t968 t969 t970 _ _ t971 _ _ t974 t993 t994 t995 _ _ t996 _ _ t999 true _ ?side1 ?side2 ?side3 ?side4 ?side5 ?side6 ?side7 ?side8 A61.out).mono ?_
   (case side1 => repeat (first | exact (Kd.R_reads' HO_978003.out).2.2 | (with_reducible refine Kd.C_alloc ?_ _) | (with_reducible refine Kd.C_drewN ?_ _) | (with_reducible refine Kd.C_drew ?_)))
   (case side2 => exact (Kd.R_reads' HO_978003.out).2.1)
   (case side3 => repeat (first | exact (Kd.R_reads' HO_978004.out).2.2 | (with_reducible refine Kd.C_alloc ?_ _) | (with_reducible refine Kd.C_drewN ?_ _) | (with_reducible refine Kd.C_drew ?_)))
   (case side4 => exact (Kd.R_reads' HO_978004.out).2.1)
   (case side5 => repeat (first | exact (Kd.R_reads' HO998.out).2.2 | (with_reducible refine Kd.C_alloc ?_ _) | (with_reducible refine Kd.C_drewN ?_ _) | (with_reducible refine Kd.C_drew ?_)))
   (case side6 => exact (Kd.R_reads' HO998.out).2.1)
   (case side7 => repeat (first | exact (Kd.R_reads' HO1001.out).2.2 | (with_reducible refine Kd.C_alloc ?_ _) | (with_reducible refine Kd.C_drewN ?_ _) | (with_reducible refine Kd.C_drew ?_)))
   (case side8 => exact (Kd.R_reads' HO1001.out).2.1)
   rintro e w69 ⟨rfl, hb⟩
   refine ⟨_, rfl, ?_⟩
   have n0_ := Aside0.mk (Kd.R_below (bR HO_968003.out) hb)
   have n1_ := Aside0.mk (Kd.R_below (bR HO_968004.out) hb)
   have n2_ := Aside0.mk (Kd.R_below (bR HO_978003.out) hb)
   have n3_ := Aside0.mk (Kd.R_below (bR HO_978004.out) hb)
   have n4_ := Aside0.mk (Kd.R_below (bR HO_992003.out) hb)
   have n5_ := Aside0.mk (Kd.R_below (bR HO_992004.out) hb)
   have n6_ := Aside0.mk (Kd.R_below (bR HO998.out) hb)
   have n7_ := Aside0.mk (Kd.R_below (bR HO1001.out) hb)
   have n8_ := Aside0.mk (blk_below (bs BK943.out) hb)
   have n9_ := Aside0.mk (blk_below (bs BK967.out) hb)
   have n10_ := Aside0.mk (blk_below (bs BK977.out) hb)
   have n11_ := Aside0.mk (blk_below (bs BK991.out) hb)
   have n12_ := Aside0.mk (below_step (by repeat (first | (with_reducible first | exact bw HB.out | refine bset ?_ | apply bA | apply bN | apply bD) | exact HB.out)) hb)
   replace HO_968003 := n0_
   replace HO_968004 := n1_
   replace HO_978003 := n2_
   replace HO_978004 := n3_
   replace HO_992003 := n4_
   replace HO_992004 := n5_
   replace HO998 := n6_
   replace HO1001 := n7_
   replace BK943 := n8_
   replace BK967 := n9_
   replace BK977 := n10_
   replace BK991 := n11_
   replace HB := n12_
   clear n0_ n1_ n2_ n3_ n4_ n5_ n6_ n7_ n8_ n9_ n10_ n11_ n12_
   (try clear hb)
   (try clear hb2)
   (try clear hk)
   (try clear hi)
   refine hK.out _ _ ⟨(blk_cell BK977.out 0).trans rfl, (blk_cell BK977.out 1).trans rfl, (blk_cell BK977.out 2).trans rfl, (blk_cell BK977.out 3).trans rfl, (blk_cell BK977.out 4).trans rfl, (blk_cell BK943.out 0).trans rfl, (blk_cell BK943.out 1).trans rfl, (blk_cell BK943.out 2).trans rfl, (blk_cell BK943.out 3).trans rfl, (blk_cell BK943.out 4).trans rfl⟩ (fun hHeld => ?_)
   clear hK K
   refine norm_ (a' := ?_) ?_ ?_
   rotate_left
   ·show Act.put _ (some 44) _ = _
    simp only [aq_]
    rfl
   refine puq_ (i := 4) (N := some 45) rfl rfl (by kernel_rfl) (fun _ _ _ h => h) (Or.inl ⟨by rfl, by intro w'; go_simp; with_reducible rfl⟩) (by simp only [aq_]; rfl) ?_
   refine done_ (by kernel_rfl) ?_
   have hnb70 := NB977_943.out
   have hnc70 := NB943_977.out
   have hnb71 := NB977_967.out
   have hnc71 := NB967_977.out
   have hnb72 := NB977_991.out
   have hnc72 := NB991_977.out
   obtain ⟨hcz73_0, hcz73_1, hcz73_2, hcz73_3, hcz73_4, hfz73_0, hfz73_1, hfz73_2, hfz73_3, hfz73_4⟩ := bz5 BK977.out
   go_upto_region 14 with (first | ((with_reducible refine gate_callee (f := 19) rfl ?_); refine goesL_ (some 48) rfl rfl Try.func19 (by kernel_rfl) rfl #[.agg #[.int .i64 t968, .int .i64 t969, .int .i64 t970, .slice Ao31 t971.length co31, .slice Ao32 t974.length co32], .int .i64 1] rfl (by (try simp only [mA_]); first | done | rfl | (simp only [List.length_drop, List.length_take]; rfl)) ?_; (with_reducible refine (laws_markDispatcher.calls kj10 t968 t969 t970 (fun k_ => some k_ = (.slice Ao31 t971.length co31 : Value).ownBlock) (.slice Ao31 t971.length co31) t971 (fun k_ => some k_ = (.slice Ao32 t974.length co32 : Value).ownBlock) (.slice Ao32 t974.length co32) t974 1 t1003 t1004 t1005 w _ ?side1 ?side2 ?side3 A63.out).mono ?_); (case side1 => repeat (first | (with_reducible first | exact HB.out | apply below_alloc | apply pw_below_drewN | apply below_drew1 | refine below_set ?_ GE943.out | refine below_set ?_ GE967.out | refine below_set ?_ GE977.out | refine below_set ?_ GE991.out) | exact HB.out)); (case side2 => exact Kd.R_tight rfl HO_978003.out); (case side3 => exact Kd.R_tight rfl HO_978004.out); rintro e w74 ⟨rfl, hy0, hy1, hb, hkp⟩; refine ⟨_, rfl, ?_⟩; have n0_ := Aside0.mk (Kd.R_mono (ok' := fun k_ => some k_ ≠ (.slice Ao31 t971.length co31 : Value).ownBlock ∧ some k_ ≠ (.slice Ao39 t981.length co39 : Value).ownBlock ∧ some k_ ≠ (.slice Ao67 t996.length co67 : Value).ownBlock) (Kd.R_keptB ((Kd.R_apart' HO_968003.out (Kd.R_typed HO_978004.out) (by decide))) hkp (fun k_ hk_ hs_ => Or.elim hs_ (fun e_ => (hk_.1.1.1) e_) (fun e_ => (hk_.2) e_))) (fun k_ hk_ => ⟨hk_.1.1.1.1, hk_.1.1.1.2, hk_.1.1.2⟩)); have n1_ := Aside0.mk (Kd.R_mono (ok' := fun k_ => some k_ ≠ (.slice Ao32 t974.length co32 : Value).ownBlock ∧ some k_ ≠ (.slice Ao40 t984.length co40 : Value).ownBlock ∧ some k_ ≠ (.slice Ao68 t999.length co68 : Value).ownBlock) (Kd.R_keptB ((Kd.R_apart' HO_968004.out (Kd.R_typed HO_978003.out) (by decide))) hkp (fun k_ hk_ hs_ => Or.elim hs_ (fun e_ => (hk_.2) e_) (fun e_ => (hk_.1.1.1) e_))) (fun k_ hk_ => ⟨hk_.1.1.1.1, hk_.1.1.1.2, hk_.1.1.2⟩)); have n2_ := Aside0.mk (Kd.R_reok rfl hy0 (fun k_ e_ => HO_978003.out.1 k_ e_)); have n3_ := Aside0.mk (Kd.R_reok rfl hy1 (fun k_ e_ => HO_978004.out.1 k_ e_)); have n4_ := Aside0.mk (Kd.R_mono (ok' := fun k_ => some k_ ≠ (.slice Ao23 t957.length co23 : Value).ownBlock ∧ some k_ ≠ (.slice Ao31 t971.length co31 : Value).ownBlock ∧ some k_ ≠ (.slice Ao67 t996.length co67 : Value).ownBlock) (Kd.R_keptB ((Kd.R_apart' HO_992003.out (Kd.R_typed HO_978004.out) (by decide))) hkp (fun k_ hk_ hs_ => Or.elim hs_ (fun e_ => (hk_.1.1.2) e_) (fun e_ => (hk_.2) e_))) (fun k_ hk_ => ⟨hk_.1.1.1.1, hk_.1.1.1.2, hk_.1.1.2⟩)); have n5_ := Aside0.mk (Kd.R_mono (ok' := fun k_ => some k_ ≠ (.slice Ao24 t960.length co24 : Value).ownBlock ∧ some k_ ≠ (.slice Ao32 t974.length co32 : Value).ownBlock ∧ some k_ ≠ (.slice Ao68 t999.length co68 : Value).ownBlock) (Kd.R_keptB ((Kd.R_apart' HO_992004.out (Kd.R_typed HO_978003.out) (by decide))) hkp (fun k_ hk_ hs_ => Or.elim hs_ (fun e_ => (hk_.2) e_) (fun e_ => (hk_.1.1.2) e_))) (fun k_ hk_ => ⟨hk_.1.1.1.1, hk_.1.1.1.2, hk_.1.1.2⟩)); have n6_ := Aside0.mk (blk_kept (bs BK943.out) hkp (fun hs_ => Or.elim hs_ (fun e_ => (fun e_ => (Kd.R_ne HO_978003.out BK943.out (by decide)) e_) e_) (fun e_ => (fun e_ => (Kd.R_ne HO_978004.out BK943.out (by decide)) e_) e_))); have n7_ := Aside0.mk (blk_kept (bs BK967.out) hkp (fun hs_ => Or.elim hs_ (fun e_ => (fun e_ => (Kd.R_ne HO_978003.out BK967.out (by decide)) e_) e_) (fun e_ => (fun e_ => (Kd.R_ne HO_978004.out BK967.out (by decide)) e_) e_))); have n8_ := Aside0.mk (blk_kept (bs BK977.out) hkp (fun hs_ => Or.elim hs_ (fun e_ => (fun e_ => (Kd.R_ne HO_978003.out BK977.out (by decide)) e_) e_) (fun e_ => (fun e_ => (Kd.R_ne HO_978004.out BK977.out (by decide)) e_) e_))); have n9_ := Aside0.mk (blk_kept (bs BK991.out) hkp (fun hs_ => Or.elim hs_ (fun e_ => (fun e_ => (Kd.R_ne HO_978003.out BK991.out (by decide)) e_) e_) (fun e_ => (fun e_ => (Kd.R_ne HO_978004.out BK991.out (by decide)) e_) e_))); have n10_ := Aside0.mk (Kd.R_mono (ok' := fun k_ => some k_ ≠ (.slice Ao23 t957.length co23 : Value).ownBlock ∧ some k_ ≠ (.slice Ao31 t971.length co31 : Value).ownBlock ∧ some k_ ≠ (.slice Ao39 t981.length co39 : Value).ownBlock) (Kd.R_keptB ((Kd.R_apart' HO998.out (Kd.R_typed HO_978004.out) (by decide))) hkp (fun k_ hk_ hs_ => Or.elim hs_ (fun e_ => (hk_.1.1.2) e_) (fun e_ => (hk_.2) e_))) (fun k_ hk_ => ⟨hk_.1.1.1.1.2, hk_.1.1.1.2, hk_.1.1.2⟩)); have n11_ := Aside0.mk (Kd.R_mono (ok' := fun k_ => some k_ ≠ (.slice Ao24 t960.length co24 : Value).ownBlock ∧ some k_ ≠ (.slice Ao32 t974.length co32 : Value).ownBlock ∧ some k_ ≠ (.slice Ao40 t984.length co40 : Value).ownBlock) (Kd.R_keptB ((Kd.R_apart' HO1001.out (Kd.R_typed HO_978003.out) (by decide))) hkp (fun k_ hk_ hs_ => Or.elim hs_ (fun e_ => (hk_.2) e_) (fun e_ => (hk_.1.1.2) e_))) (fun k_ hk_ => ⟨hk_.1.1.1.1.2, hk_.1.1.1.2, hk_.1.1.2⟩)); have n12_ := Aside0.mk (hb); replace HO_968003 := n0_; replace HO_968004 := n1_; replace HO_978003 := n2_; replace HO_978004 := n3_; replace HO_992003 := n4_; replace HO_992004 := n5_; replace BK943 := n6_; replace BK967 := n7_; replace BK977 := n8_; replace BK991 := n9_; replace HO998 := n10_; replace HO1001 := n11_; replace HB := n12_; clear n0_ n1_ n2_ n3_ n4_ n5_ n6_ n7_ n8_ n9_ n10_ n11_ n12_; (try clear hb); (try clear hkp); (try clear hy0); (try clear hy1)))
   (try simp only [Act.put, List.setIfInBounds_toArray, List.set_cons_zero, List.set_cons_succ])
   go_cut [61] (fun v61 wc => ∃ (kq : Nat) (x61_63 : Bool), v61 = .bool x61_63 ∧ Aside0 (laws_FnExactNewConsole.j1 kq t966 x61_63 a0_0 a0_1 a0_2 l0_3 l0_4 t954 t955 t956 t957 t960 t963 t964 t965 t978 t979 t980 t981 t984 t987 t988 t989 = some r) ∧ Aside0 (kq ≤ kj10) ∧ Aside0 (Kd.R k137 137 wc w.heap.size (fun k_ => some k_ ≠ ((.slice Ao31 t971.length co31) : Value).ownBlock ∧ some k_ ≠ ((.slice Ao39 t981.length co39) : Value).ownBlock) (.slice Ao23 t957.length co23) t957) ∧ Aside0 (Kd.R k135 135 wc w.heap.size (fun k_ => some k_ ≠ ((.slice Ao32 t974.length co32) : Value).ownBlock ∧ some k_ ≠ ((.slice Ao40 t984.length co40) : Value).ownBlock) (.slice Ao24 t960.length co24) t960) ∧ Aside0 (Kd.R k137 137 wc w.heap.size (fun k_ => some k_ ≠ ((.slice Ao23 t957.length co23) : Value).ownBlock ∧ some k_ ≠ ((.slice Ao39 t981.length co39) : Value).ownBlock) (.slice Ao31 t971.length co31) t1004) ∧ Aside0 (Kd.R k135 135 wc w.heap.size (fun k_ => some k_ ≠ ((.slice Ao24 t960.length co24) : Value).ownBlock ∧ some k_ ≠ ((.slice Ao40 t984.length co40) : Value).ownBlock) (.slice Ao32 t974.length co32) t1005) ∧ Aside0 (Kd.R k137 137 wc w.heap.size (fun k_ => some k_ ≠ ((.slice Ao23 t957.length co23) : Value).ownBlock ∧ some k_ ≠ ((.slice Ao31 t971.length co31) : Value).ownBlock) (.slice Ao39 t981.length co39) t981) ∧ Aside0 (Kd.R k135 135 wc w.heap.size (fun k_ => some k_ ≠ ((.slice Ao24 t960.length co24) : Value).ownBlock ∧ some k_ ≠ ((.slice Ao32 t974.length co32) : Value).ownBlock) (.slice Ao40 t984.length co40) t984) ∧ Aside0 (wc.heap[gb943]? = some (.cells #[.int .i64 a0_0, .int .i64 a0_1, .int .i64 a0_2, (.slice A0_3 l0_3.length c0_3), (.slice A0_4 l0_4.length c0_4)] 59 (0, 0))) ∧ Aside0 (wc.heap[gb967]? = some (.cells #[.int .i64 t954, .int .i64 t955, .int .i64 t956, (.slice Ao23 t957.length co23), (.slice Ao24 t960.length co24), .string t963, .string t964, .int .i64 t965] 72 (0, 0))) ∧ Aside0 (wc.heap[gb977]? = some (.cells #[.int .i64 t968, .int .i64 t969, .int .i64 t970, (.slice Ao31 t971.length co31), (.slice Ao32 t974.length co32)] 25 (0, 0))) ∧ Aside0 (wc.heap[gb991]? = some (.cells #[.int .i64 t978, .int .i64 t979, .int .i64 t980, (.slice Ao39 t981.length co39), (.slice Ao40 t984.length co40), .string t987, .string t988, .int .i64 t989] 72 (0, 0))) ∧ Aside0 (Below w.heap.size w wc))
   case first =>
    have H := HC64.out
    clear HC64
    by_cases c75 : t1003 < 0
    ·rw [if_pos c75] at H
     have c75b0 : decide (t1003 < 0) = true := decide_eq_true c75
     clear c75
     (first | rw [c75b0] | (simp only [i64_w, i32_w]; rw [c75b0]) | skip)
     have H' := Aside0.mk H
     clear H
     go_wp2
     go_meet
     case rel => exact ⟨_, (true), (by first | rfl | (simp; done) | (simp [*]; done)), H', ⟨by have := HJ10.out; first | omega | exact Nat.le_refl _⟩, ⟨by (with_reducible repeat (first | apply Kd.R_alloc | apply Kd.R_drewN | apply Kd.R_drew)); exact Kd.R_mono HO_968003.out (fun _ hk => ⟨hk.1, hk.2.1⟩)⟩, ⟨by (with_reducible repeat (first | apply Kd.R_alloc | apply Kd.R_drewN | apply Kd.R_drew)); exact Kd.R_mono HO_968004.out (fun _ hk => ⟨hk.1, hk.2.1⟩)⟩, ⟨by (with_reducible repeat (first | apply Kd.R_alloc | apply Kd.R_drewN | apply Kd.R_drew)); exact Kd.R_mono HO_978003.out (fun _ hk => ⟨hk.1.1, hk.1.2⟩)⟩, ⟨by (with_reducible repeat (first | apply Kd.R_alloc | apply Kd.R_drewN | apply Kd.R_drew)); exact Kd.R_mono HO_978004.out (fun _ hk => ⟨hk.1.1, hk.1.2⟩)⟩, ⟨by (with_reducible repeat (first | apply Kd.R_alloc | apply Kd.R_drewN | apply Kd.R_drew)); exact Kd.R_mono HO_992003.out (fun _ hk => ⟨hk.1, hk.2.1⟩)⟩, ⟨by (with_reducible repeat (first | apply Kd.R_alloc | apply Kd.R_drewN | apply Kd.R_drew)); exact Kd.R_mono HO_992004.out (fun _ hk => ⟨hk.1, hk.2.1⟩)⟩, ⟨bs BK943.out⟩, ⟨bs BK967.out⟩, ⟨bs BK977.out⟩, ⟨bs BK991.out⟩, ⟨by repeat (first | (with_reducible first | exact bw HB.out | refine bset ?_ | apply bA | apply bN | apply bD) | exact HB.out)⟩⟩
    rw [if_neg c75] at H
    have c75b0 : decide (t1003 < 0) = false := decide_eq_false c75
    clear c75
    (first | rw [c75b0] | (simp only [i64_w, i32_w]; rw [c75b0]) | skip)
    replace H := Option.bind_eq_some_iff.mp H
    obtain ⟨t1006, A760, H⟩ := H
    replace H : (if t1006 = true then (laws_FnExactNewConsole.j1 kj10 t966 (t990 != t966) a0_0 a0_1 a0_2 l0_3 l0_4 t954 t955 t956 t957 t960 t963 t964 t965 t978 t979 t980 t981 t984 t987 t988 t989) else (laws_FnExactNewConsole.j1 kj10 t966 true a0_0 a0_1 a0_2 l0_3 l0_4 t954 t955 t956 t957 t960 t963 t964 t965 t978 t979 t980 t981 t984 t987 t988 t989)) = some r := H
    have A76 := Aside0.mk A760
    clear A760
    by_cases c77 : t1006 = true
    ·subst c77
     have H1 : (laws_FnExactNewConsole.j1 kj10 t966 (t990 != t966) a0_0 a0_1 a0_2 l0_3 l0_4 t954 t955 t956 t957 t960 t963 t964 t965 t978 t979 t980 t981 t984 t987 t988 t989) = some r := by rw [if_pos rfl] at H; exact H
     clear H
     have H := H1
     clear H1
     have H' := Aside0.mk H
     clear H
     have hnb78 := NB991_943.out
     have hnc78 := NB943_991.out
     have hnb79 := NB991_967.out
     have hnc79 := NB967_991.out
     have hnb80 := NB991_977.out
     have hnc80 := NB977_991.out
     obtain ⟨hcz81_0, hcz81_1, hcz81_2, hcz81_3, hcz81_4, hcz81_5, hcz81_6, hcz81_7, hfz81_0, hfz81_1, hfz81_2, hfz81_3, hfz81_4, hfz81_5, hfz81_6, hfz81_7⟩ := bz8 BK991.out
     have hnb82 := NB967_943.out
     have hnc82 := NB943_967.out
     have hnb83 := NB967_977.out
     have hnc83 := NB977_967.out
     obtain ⟨hcz84_0, hcz84_1, hcz84_2, hcz84_3, hcz84_4, hcz84_5, hcz84_6, hcz84_7, hfz84_0, hfz84_1, hfz84_2, hfz84_3, hfz84_4, hfz84_5, hfz84_6, hfz84_7⟩ := bz8 BK967.out
     go_wp2_with (first | (go_at_call 52; (with_reducible refine (laws_eqConsole.calls kj10 t978 t979 t980 _ _ t981 _ _ t984 t987 t988 t989 t954 t955 t956 _ _ t957 _ _ t960 t963 t964 t965 true _ ?side1 ?side2 ?side3 ?side4 ?side5 ?side6 ?side7 ?side8 A76.out).mono ?_); (case side1 => repeat (first | exact (Kd.R_reads' HO_992003.out).2.2 | (with_reducible refine Kd.C_alloc ?_ _) | (with_reducible refine Kd.C_drewN ?_ _) | (with_reducible refine Kd.C_drew ?_))); (case side2 => exact (Kd.R_reads' HO_992003.out).2.1); (case side3 => repeat (first | exact (Kd.R_reads' HO_992004.out).2.2 | (with_reducible refine Kd.C_alloc ?_ _) | (with_reducible refine Kd.C_drewN ?_ _) | (with_reducible refine Kd.C_drew ?_))); (case side4 => exact (Kd.R_reads' HO_992004.out).2.1); (case side5 => repeat (first | exact (Kd.R_reads' HO_968003.out).2.2 | (with_reducible refine Kd.C_alloc ?_ _) | (with_reducible refine Kd.C_drewN ?_ _) | (with_reducible refine Kd.C_drew ?_))); (case side6 => exact (Kd.R_reads' HO_968003.out).2.1); (case side7 => repeat (first | exact (Kd.R_reads' HO_968004.out).2.2 | (with_reducible refine Kd.C_alloc ?_ _) | (with_reducible refine Kd.C_drewN ?_ _) | (with_reducible refine Kd.C_drew ?_))); (case side8 => exact (Kd.R_reads' HO_968004.out).2.1); rintro e w85 ⟨rfl, hb⟩; have n0_ := Aside0.mk (Kd.R_below (bR HO_968003.out) hb); have n1_ := Aside0.mk (Kd.R_below (bR HO_968004.out) hb); have n2_ := Aside0.mk (Kd.R_below (bR HO_978003.out) hb); have n3_ := Aside0.mk (Kd.R_below (bR HO_978004.out) hb); have n4_ := Aside0.mk (Kd.R_below (bR HO_992003.out) hb); have n5_ := Aside0.mk (Kd.R_below (bR HO_992004.out) hb); have n6_ := Aside0.mk (Kd.R_below (bR HO998.out) hb); have n7_ := Aside0.mk (Kd.R_below (bR HO1001.out) hb); have n8_ := Aside0.mk (blk_below (bs BK943.out) hb); have n9_ := Aside0.mk (blk_below (bs BK967.out) hb); have n10_ := Aside0.mk (blk_below (bs BK977.out) hb); have n11_ := Aside0.mk (blk_below (bs BK991.out) hb); have n12_ := Aside0.mk (below_step (by repeat (first | (with_reducible first | exact bw HB.out | refine bset ?_ | apply bA | apply bN | apply bD) | exact HB.out)) hb); replace HO_968003 := n0_; replace HO_968004 := n1_; replace HO_978003 := n2_; replace HO_978004 := n3_; replace HO_992003 := n4_; replace HO_992004 := n5_; replace HO998 := n6_; replace HO1001 := n7_; replace BK943 := n8_; replace BK967 := n9_; replace BK977 := n10_; replace BK991 := n11_; replace HB := n12_; clear n0_ n1_ n2_ n3_ n4_ n5_ n6_ n7_ n8_ n9_ n10_ n11_ n12_; (try clear hb); (try clear hb2); (try clear hk); (try clear hi)))
     go_meet
     case rel => exact ⟨_, ((t990 != t966)), (by first | rfl | (simp; done) | (simp [*]; done)), H', ⟨by have := HJ10.out; first | omega | exact Nat.le_refl _⟩, ⟨by (with_reducible repeat (first | apply Kd.R_alloc | apply Kd.R_drewN | apply Kd.R_drew)); exact Kd.R_mono HO_968003.out (fun _ hk => ⟨hk.1, hk.2.1⟩)⟩, ⟨by (with_reducible repeat (first | apply Kd.R_alloc | apply Kd.R_drewN | apply Kd.R_drew)); exact Kd.R_mono HO_968004.out (fun _ hk => ⟨hk.1, hk.2.1⟩)⟩, ⟨by (with_reducible repeat (first | apply Kd.R_alloc | apply Kd.R_drewN | apply Kd.R_drew)); exact Kd.R_mono HO_978003.out (fun _ hk => ⟨hk.1.1, hk.1.2⟩)⟩, ⟨by (with_reducible repeat (first | apply Kd.R_alloc | apply Kd.R_drewN | apply Kd.R_drew)); exact Kd.R_mono HO_978004.out (fun _ hk => ⟨hk.1.1, hk.1.2⟩)⟩, ⟨by (with_reducible repeat (first | apply Kd.R_alloc | apply Kd.R_drewN | apply Kd.R_drew)); exact Kd.R_mono HO_992003.out (fun _ hk => ⟨hk.1, hk.2.1⟩)⟩, ⟨by (with_reducible repeat (first | apply Kd.R_alloc | apply Kd.R_drewN | apply Kd.R_drew)); exact Kd.R_mono HO_992004.out (fun _ hk => ⟨hk.1, hk.2.1⟩)⟩, ⟨bs BK943.out⟩, ⟨bs BK967.out⟩, ⟨bs BK977.out⟩, ⟨bs BK991.out⟩, ⟨by repeat (first | (with_reducible first | exact bw HB.out | refine bset ?_ | apply bA | apply bN | apply bD) | exact HB.out)⟩⟩
    replace c77 := Bool.eq_false_iff.mpr c77
    subst c77
    have H1 : (laws_FnExactNewConsole.j1 kj10 t966 true a0_0 a0_1 a0_2 l0_3 l0_4 t954 t955 t956 t957 t960 t963 t964 t965 t978 t979 t980 t981 t984 t987 t988 t989) = some r := by rw [if_neg (show ¬ (false = true) by decide)] at H; exact H
    clear H
    have H := H1
    clear H1
    have H' := Aside0.mk H
    clear H
    have hnb86 := NB991_943.out
    have hnc86 := NB943_991.out
    have hnb87 := NB991_967.out
    have hnc87 := NB967_991.out
    have hnb88 := NB991_977.out
    have hnc88 := NB977_991.out
    obtain ⟨hcz89_0, hcz89_1, hcz89_2, hcz89_3, hcz89_4, hcz89_5, hcz89_6, hcz89_7, hfz89_0, hfz89_1, hfz89_2, hfz89_3, hfz89_4, hfz89_5, hfz89_6, hfz89_7⟩ := bz8 BK991.out
    have hnb90 := NB967_943.out
    have hnc90 := NB943_967.out
    have hnb91 := NB967_977.out
    have hnc91 := NB977_967.out
    obtain ⟨hcz92_0, hcz92_1, hcz92_2, hcz92_3, hcz92_4, hcz92_5, hcz92_6, hcz92_7, hfz92_0, hfz92_1, hfz92_2, hfz92_3, hfz92_4, hfz92_5, hfz92_6, hfz92_7⟩ := bz8 BK967.out
    go_wp2_with (first | (go_at_call 52; (with_reducible refine (laws_eqConsole.calls kj10 t978 t979 t980 _ _ t981 _ _ t984 t987 t988 t989 t954 t955 t956 _ _ t957 _ _ t960 t963 t964 t965 false _ ?side1 ?side2 ?side3 ?side4 ?side5 ?side6 ?side7 ?side8 A76.out).mono ?_); (case side1 => repeat (first | exact (Kd.R_reads' HO_992003.out).2.2 | (with_reducible refine Kd.C_alloc ?_ _) | (with_reducible refine Kd.C_drewN ?_ _) | (with_reducible refine Kd.C_drew ?_))); (case side2 => exact (Kd.R_reads' HO_992003.out).2.1); (case side3 => repeat (first | exact (Kd.R_reads' HO_992004.out).2.2 | (with_reducible refine Kd.C_alloc ?_ _) | (with_reducible refine Kd.C_drewN ?_ _) | (with_reducible refine Kd.C_drew ?_))); (case side4 => exact (Kd.R_reads' HO_992004.out).2.1); (case side5 => repeat (first | exact (Kd.R_reads' HO_968003.out).2.2 | (with_reducible refine Kd.C_alloc ?_ _) | (with_reducible refine Kd.C_drewN ?_ _) | (with_reducible refine Kd.C_drew ?_))); (case side6 => exact (Kd.R_reads' HO_968003.out).2.1); (case side7 => repeat (first | exact (Kd.R_reads' HO_968004.out).2.2 | (with_reducible refine Kd.C_alloc ?_ _) | (with_reducible refine Kd.C_drewN ?_ _) | (with_reducible refine Kd.C_drew ?_))); (case side8 => exact (Kd.R_reads' HO_968004.out).2.1); rintro e w93 ⟨rfl, hb⟩; have n0_ := Aside0.mk (Kd.R_below (bR HO_968003.out) hb); have n1_ := Aside0.mk (Kd.R_below (bR HO_968004.out) hb); have n2_ := Aside0.mk (Kd.R_below (bR HO_978003.out) hb); have n3_ := Aside0.mk (Kd.R_below (bR HO_978004.out) hb); have n4_ := Aside0.mk (Kd.R_below (bR HO_992003.out) hb); have n5_ := Aside0.mk (Kd.R_below (bR HO_992004.out) hb); have n6_ := Aside0.mk (Kd.R_below (bR HO998.out) hb); have n7_ := Aside0.mk (Kd.R_below (bR HO1001.out) hb); have n8_ := Aside0.mk (blk_below (bs BK943.out) hb); have n9_ := Aside0.mk (blk_below (bs BK967.out) hb); have n10_ := Aside0.mk (blk_below (bs BK977.out) hb); have n11_ := Aside0.mk (blk_below (bs BK991.out) hb); have n12_ := Aside0.mk (below_step (by repeat (first | (with_reducible first | exact bw HB.out | refine bset ?_ | apply bA | apply bN | apply bD) | exact HB.out)) hb); replace HO_968003 := n0_; replace HO_968004 := n1_; replace HO_978003 := n2_; replace HO_978004 := n3_; replace HO_992003 := n4_; replace HO_992004 := n5_; replace HO998 := n6_; replace HO1001 := n7_; replace BK943 := n8_; replace BK967 := n9_; replace BK977 := n10_; replace BK991 := n11_; replace HB := n12_; clear n0_ n1_ n2_ n3_ n4_ n5_ n6_ n7_ n8_ n9_ n10_ n11_ n12_; (try clear hb); (try clear hb2); (try clear hk); (try clear hi)))
    go_meet
    case rel => exact ⟨_, (true), (by first | rfl | (simp; done) | (simp [*]; done)), H', ⟨by have := HJ10.out; first | omega | exact Nat.le_refl _⟩, ⟨by (with_reducible repeat (first | apply Kd.R_alloc | apply Kd.R_drewN | apply Kd.R_drew)); exact Kd.R_mono HO_968003.out (fun _ hk => ⟨hk.1, hk.2.1⟩)⟩, ⟨by (with_reducible repeat (first | apply Kd.R_alloc | apply Kd.R_drewN | apply Kd.R_drew)); exact Kd.R_mono HO_968004.out (fun _ hk => ⟨hk.1, hk.2.1⟩)⟩, ⟨by (with_reducible repeat (first | apply Kd.R_alloc | apply Kd.R_drewN | apply Kd.R_drew)); exact Kd.R_mono HO_978003.out (fun _ hk => ⟨hk.1.1, hk.1.2⟩)⟩, ⟨by (with_reducible repeat (first | apply Kd.R_alloc | apply Kd.R_drewN | apply Kd.R_drew)); exact Kd.R_mono HO_978004.out (fun _ hk => ⟨hk.1.1, hk.1.2⟩)⟩, ⟨by (with_reducible repeat (first | apply Kd.R_alloc | apply Kd.R_drewN | apply Kd.R_drew)); exact Kd.R_mono HO_992003.out (fun _ hk => ⟨hk.1, hk.2.1⟩)⟩, ⟨by (with_reducible repeat (first | apply Kd.R_alloc | apply Kd.R_drewN | apply Kd.R_drew)); exact Kd.R_mono HO_992004.out (fun _ hk => ⟨hk.1, hk.2.1⟩)⟩, ⟨bs BK943.out⟩, ⟨bs BK967.out⟩, ⟨bs BK977.out⟩, ⟨bs BK991.out⟩, ⟨by repeat (first | (with_reducible first | exact bw HB.out | refine bset ?_ | apply bA | apply bN | apply bD) | exact HB.out)⟩⟩
   case rest =>
    clear HC64
    try clear c1
    try clear c2
    try clear p2
    try clear c3
    try clear c3b0
    try clear c4
    try clear c5
    try clear c6
    try clear c7
    try clear c8
    try clear c9
    try clear c12
    try clear c18
    try clear c19
    try clear c21
    try clear c28
    try clear c29
    try clear c35
    try clear c36
    try clear c37
    try clear c39
    try clear c42
    try clear c43
    try clear c44
    try clear c45
    try clear c47
    try clear c48
    try clear c50
    try clear c51
    try clear c52
    try clear c53
    try clear c55
    try clear c56
    try clear c59
    try clear c62
    try clear c70
    try clear c71
    try clear c72
    try clear c75
    try clear c75b0
    try clear c77
    try clear c78
    try clear c79
    try clear c80
    try clear c82
    try clear c83
    try clear c86
    try clear c87
    try clear c88
    try clear c90
    try clear c91
    try clear hcz13_0
    try clear hcz13_1
    try clear hcz13_2
    try clear hcz13_3
    try clear hcz13_4
    try clear hcz15_0
    try clear hcz15_1
    try clear hcz15_2
    try clear hcz15_3
    try clear hcz15_4
    try clear hcz22_0
    try clear hcz22_1
    try clear hcz22_2
    try clear hcz22_3
    try clear hcz22_4
    try clear hcz22_5
    try clear hcz22_6
    try clear hcz22_7
    try clear hcz25_0
    try clear hcz25_1
    try clear hcz25_2
    try clear hcz25_3
    try clear hcz25_4
    try clear hcz30_0
    try clear hcz30_1
    try clear hcz30_2
    try clear hcz30_3
    try clear hcz30_4
    try clear hcz38_0
    try clear hcz38_1
    try clear hcz38_2
    try clear hcz38_3
    try clear hcz38_4
    try clear hcz38_5
    try clear hcz38_6
    try clear hcz38_7
    try clear hcz46_0
    try clear hcz46_1
    try clear hcz46_2
    try clear hcz46_3
    try clear hcz46_4
    try clear hcz46_5
    try clear hcz46_6
    try clear hcz46_7
    try clear hcz49_0
    try clear hcz49_1
    try clear hcz49_2
    try clear hcz49_3
    try clear hcz49_4
    try clear hcz49_5
    try clear hcz49_6
    try clear hcz49_7
    try clear hcz54_0
    try clear hcz54_1
    try clear hcz54_2
    try clear hcz54_3
    try clear hcz54_4
    try clear hcz54_5
    try clear hcz54_6
    try clear hcz54_7
    try clear hcz57_0
    try clear hcz57_1
    try clear hcz57_2
    try clear hcz57_3
    try clear hcz57_4
    try clear hcz57_5
    try clear hcz57_6
    try clear hcz57_7
    try clear hcz5_0
    try clear hcz5_1
    try clear hcz5_2
    try clear hcz5_3
    try clear hcz5_4
    try clear hcz73_0
    try clear hcz73_1
    try clear hcz73_2
    try clear hcz73_3
    try clear hcz73_4
    try clear hcz81_0
    try clear hcz81_1
    try clear hcz81_2
    try clear hcz81_3
    try clear hcz81_4
    try clear hcz81_5
    try clear hcz81_6
    try clear hcz81_7
    try clear hcz84_0
    try clear hcz84_1
    try clear hcz84_2
    try clear hcz84_3
    try clear hcz84_4
    try clear hcz84_5
    try clear hcz84_6
    try clear hcz84_7
    try clear hcz89_0
    try clear hcz89_1
    try clear hcz89_2
    try clear hcz89_3
    try clear hcz89_4
    try clear hcz89_5
    try clear hcz89_6
    try clear hcz89_7
    try clear hcz92_0
    try clear hcz92_1
    try clear hcz92_2
    try clear hcz92_3
    try clear hcz92_4
    try clear hcz92_5
    try clear hcz92_6
    try clear hcz92_7
    try clear hfz13_0
    try clear hfz13_1
    try clear hfz13_2
    try clear hfz13_3
    try clear hfz13_4
    try clear hfz15_0
    try clear hfz15_1
    try clear hfz15_2
    try clear hfz15_3
    try clear hfz15_4
    try clear hfz22_0
    try clear hfz22_1
    try clear hfz22_2
    try clear hfz22_3
    try clear hfz22_4
    try clear hfz22_5
    try clear hfz22_6
    try clear hfz22_7
    try clear hfz25_0
    try clear hfz25_1
    try clear hfz25_2
    try clear hfz25_3
    try clear hfz25_4
    try clear hfz30_0
    try clear hfz30_1
    try clear hfz30_2
    try clear hfz30_3
    try clear hfz30_4
    try clear hfz38_0
    try clear hfz38_1
    try clear hfz38_2
    try clear hfz38_3
    try clear hfz38_4
    try clear hfz38_5
    try clear hfz38_6
    try clear hfz38_7
    try clear hfz46_0
    try clear hfz46_1
    try clear hfz46_2
    try clear hfz46_3
    try clear hfz46_4
    try clear hfz46_5
    try clear hfz46_6
    try clear hfz46_7
    try clear hfz49_0
    try clear hfz49_1
    try clear hfz49_2
    try clear hfz49_3
    try clear hfz49_4
    try clear hfz49_5
    try clear hfz49_6
    try clear hfz49_7
    try clear hfz54_0
    try clear hfz54_1
    try clear hfz54_2
    try clear hfz54_3
    try clear hfz54_4
    try clear hfz54_5
    try clear hfz54_6
    try clear hfz54_7
    try clear hfz57_0
    try clear hfz57_1
    try clear hfz57_2
    try clear hfz57_3
    try clear hfz57_4
    try clear hfz57_5
    try clear hfz57_6
    try clear hfz57_7
    try clear hfz5_0
    try clear hfz5_1
    try clear hfz5_2
    try clear hfz5_3
    try clear hfz5_4
    try clear hfz73_0
    try clear hfz73_1
    try clear hfz73_2
    try clear hfz73_3
    try clear hfz73_4
    try clear hfz81_0
    try clear hfz81_1
    try clear hfz81_2
    try clear hfz81_3
    try clear hfz81_4
    try clear hfz81_5
    try clear hfz81_6
    try clear hfz81_7
    try clear hfz84_0
    try clear hfz84_1
    try clear hfz84_2
    try clear hfz84_3
    try clear hfz84_4
    try clear hfz84_5
    try clear hfz84_6
    try clear hfz84_7
    try clear hfz89_0
    try clear hfz89_1
    try clear hfz89_2
    try clear hfz89_3
    try clear hfz89_4
    try clear hfz89_5
    try clear hfz89_6
    try clear hfz89_7
    try clear hfz92_0
    try clear hfz92_1
    try clear hfz92_2
    try clear hfz92_3
    try clear hfz92_4
    try clear hfz92_5
    try clear hfz92_6
    try clear hfz92_7
    try clear p2
    obtain ⟨kq, x61_63, rfl, HA, HJ63, HO_968003, HO_968004, HO_978003, HO_978004, HO_992003, HO_992004, BK943, BK967, BK977, BK991, HB⟩ := hcut
    have hl978003_63 := (Kd.R_reads' HO_978003.out).1
    rw [hl978003_63] at HO_978003
    (try simp only [hl978003_63])
    (try simp only [hl978003_63] at BK943)
    (try simp only [hl978003_63] at BK967)
    (try simp only [hl978003_63] at BK977)
    (try simp only [hl978003_63] at BK991)
    (try simp only [hl978003_63] at HO_968003)
    (try simp only [hl978003_63] at HO_968004)
    (try simp only [hl978003_63] at HO_978004)
    (try simp only [hl978003_63] at HO_992003)
    (try simp only [hl978003_63] at HO_992004)
    have hl978004_63 := (Kd.R_reads' HO_978004.out).1
    rw [hl978004_63] at HO_978004
    (try simp only [hl978004_63])
    (try simp only [hl978004_63] at BK943)
    (try simp only [hl978004_63] at BK967)
    (try simp only [hl978004_63] at BK977)
    (try simp only [hl978004_63] at BK991)
    (try simp only [hl978004_63] at HO_968003)
    (try simp only [hl978004_63] at HO_968004)
    (try simp only [hl978004_63] at HO_978003)
    (try simp only [hl978004_63] at HO_992003)
    (try simp only [hl978004_63] at HO_992004)
    cases kq with
    | zero => exact absurd HA.out (by simp [laws_FnExactNewConsole.j1])
    | succ kj63 =>
     have H := HA.out
     clear HA
     simp only [laws_FnExactNewConsole.j1] at H
     by_cases c94 : x61_63 = true
     ·subst c94
      have H1 : (some false) = some r := by rw [if_pos rfl] at H; exact H
      clear H
      have H := H1
      clear H1
      obtain rfl := Option.some.inj H
      go_wp2
      go_ret
      exact ⟨by first | rfl | (simp [errW_none, errW_some] <;> rfl) | (simp [*, errW_none, errW_some] <;> rfl), by repeat (first | (with_reducible first | exact bw HB.out | refine bset ?_ | apply bA | apply bN | apply bD) | exact HB.out)⟩
     replace c94 := Bool.eq_false_iff.mpr c94
     subst c94
     have H1 : ((laws_markConsole.f kj63 t978 t979 t980 t981 t984 t987 t988 t989 1).bind fun bt1007 => ((laws_heldConsole.f kj63 t978 t979 t980 bt1007.2.1 bt1007.2.2 t987 t988 t989 1).bind fun t1010 => (if t1010 < 0 then (some false) else (if t1010 = bt1007.1 then ((laws_toDispatcher.f kj63 a0_0 a0_1 a0_2 l0_3 l0_4).bind fun bt1011 => ((impl_NewConsole.f kj63 bt1011.1 bt1011.2.1 bt1011.2.2.1 bt1011.2.2.2.1 bt1011.2.2.2.2).bind fun bt1020 => ((laws_eqConsole.f kj63 bt1020.1 bt1020.2.1 bt1020.2.2.1 bt1020.2.2.2.1 bt1020.2.2.2.2.1 bt1020.2.2.2.2.2.1 bt1020.2.2.2.2.2.2.1 bt1020.2.2.2.2.2.2.2.1 t954 t955 t956 t957 t960 t963 t964 t965).bind fun t1034 => (if t1034 = true then (laws_FnExactNewConsole.j2 kj63 bt1007.1 (bt1020.2.2.2.2.2.2.2.2 != t966) t978 t979 t980 bt1007.2.1 bt1007.2.2 t987 t988 t989) else (laws_FnExactNewConsole.j2 kj63 bt1007.1 true t978 t979 t980 bt1007.2.1 bt1007.2.2 t987 t988 t989))))) else (some false))))) = some r := by rw [if_neg (show ¬ (false = true) by decide)] at H; exact H
     clear H
     have H := H1
     clear H1
     replace H := Option.bind_eq_some_iff.mp H
     obtain ⟨⟨t1007, t1008, t1009⟩, A950, H⟩ := H
     replace H : ((laws_heldConsole.f kj63 t978 t979 t980 t1008 t1009 t987 t988 t989 1).bind fun t1010 => (if t1010 < 0 then (some false) else (if t1010 = t1007 then ((laws_toDispatcher.f kj63 a0_0 a0_1 a0_2 l0_3 l0_4).bind fun bt1011 => ((impl_NewConsole.f kj63 bt1011.1 bt1011.2.1 bt1011.2.2.1 bt1011.2.2.2.1 bt1011.2.2.2.2).bind fun bt1020 => ((laws_eqConsole.f kj63 bt1020.1 bt1020.2.1 bt1020.2.2.1 bt1020.2.2.2.1 bt1020.2.2.2.2.1 bt1020.2.2.2.2.2.1 bt1020.2.2.2.2.2.2.1 bt1020.2.2.2.2.2.2.2.1 t954 t955 t956 t957 t960 t963 t964 t965).bind fun t1034 => (if t1034 = true then (laws_FnExactNewConsole.j2 kj63 t1007 (bt1020.2.2.2.2.2.2.2.2 != t966) t978 t979 t980 t1008 t1009 t987 t988 t989) else (laws_FnExactNewConsole.j2 kj63 t1007 true t978 t979 t980 t1008 t1009 t987 t988 t989))))) else (some false)))) = some r := H
     have A95 := Aside0.mk A950
     clear A950
     replace H := Option.bind_eq_some_iff.mp H
     obtain ⟨t1010, A960, H⟩ := H
     replace H : (if t1010 < 0 then (some false) else (if t1010 = t1007 then ((laws_toDispatcher.f kj63 a0_0 a0_1 a0_2 l0_3 l0_4).bind fun bt1011 => ((impl_NewConsole.f kj63 bt1011.1 bt1011.2.1 bt1011.2.2.1 bt1011.2.2.2.1 bt1011.2.2.2.2).bind fun bt1020 => ((laws_eqConsole.f kj63 bt1020.1 bt1020.2.1 bt1020.2.2.1 bt1020.2.2.2.1 bt1020.2.2.2.2.1 bt1020.2.2.2.2.2.1 bt1020.2.2.2.2.2.2.1 bt1020.2.2.2.2.2.2.2.1 t954 t955 t956 t957 t960 t963 t964 t965).bind fun t1034 => (if t1034 = true then (laws_FnExactNewConsole.j2 kj63 t1007 (bt1020.2.2.2.2.2.2.2.2 != t966) t978 t979 t980 t1008 t1009 t987 t988 t989) else (laws_FnExactNewConsole.j2 kj63 t1007 true t978 t979 t980 t1008 t1009 t987 t988 t989))))) else (some false))) = some r := H
     have A96 := Aside0.mk A960
     clear A960
     by_cases c97 : t1010 < 0
     ·rw [if_pos c97] at H
      have c97b0 : decide (t1010 < 0) = true := decide_eq_true c97
      clear c97
      obtain rfl := Option.some.inj H
      have hnb98 := NB991_943.out
      have hnc98 := NB943_991.out
      have hnb99 := NB991_967.out
      have hnc99 := NB967_991.out
      have hnb100 := NB991_977.out
      have hnc100 := NB977_991.out
      obtain ⟨hcz101_0, hcz101_1, hcz101_2, hcz101_3, hcz101_4, hcz101_5, hcz101_6, hcz101_7, hfz101_0, hfz101_1, hfz101_2, hfz101_3, hfz101_4, hfz101_5, hfz101_6, hfz101_7⟩ := bz8 BK991.out
      go_wp2_with (first | ((with_reducible refine gate_callee (f := 53) rfl ?_); refine goesL_ (some 64) rfl rfl Try.func53 (by kernel_rfl) rfl #[.agg #[.int .i64 t978, .int .i64 t979, .int .i64 t980, .slice Ao39 t981.length co39, .slice Ao40 t984.length co40, .string t987, .string t988, .int .i64 t989], .int .i64 1] rfl (by (try simp only [mA_]); first | done | rfl | (simp only [List.length_drop, List.length_take]; rfl)) ?_; (with_reducible refine (laws_markConsole.calls kj63 t978 t979 t980 (fun k_ => some k_ = (.slice Ao39 t981.length co39 : Value).ownBlock) (.slice Ao39 t981.length co39) t981 (fun k_ => some k_ = (.slice Ao40 t984.length co40 : Value).ownBlock) (.slice Ao40 t984.length co40) t984 t987 t988 t989 1 t1007 t1008 t1009 w _ ?side1 ?side2 ?side3 A95.out).mono ?_); (case side1 => repeat (first | (with_reducible first | exact HB.out | apply below_alloc | apply pw_below_drewN | apply below_drew1 | refine below_set ?_ GE943.out | refine below_set ?_ GE967.out | refine below_set ?_ GE977.out | refine below_set ?_ GE991.out) | exact HB.out)); (case side2 => exact Kd.R_tight rfl HO_992003.out); (case side3 => exact Kd.R_tight rfl HO_992004.out); rintro e w102 ⟨rfl, hy0, hy1, hb, hkp⟩; refine ⟨_, rfl, ?_⟩; have n0_ := Aside0.mk (Kd.R_mono (ok' := fun k_ => some k_ ≠ (.slice Ao31 t1004.length co31 : Value).ownBlock ∧ some k_ ≠ (.slice Ao39 t981.length co39 : Value).ownBlock) (Kd.R_keptB ((Kd.R_apart' HO_968003.out (Kd.R_typed HO_992004.out) (by decide))) hkp (fun k_ hk_ hs_ => Or.elim hs_ (fun e_ => (hk_.1.2) e_) (fun e_ => (hk_.2) e_))) (fun k_ hk_ => ⟨hk_.1.1.1, hk_.1.1.2⟩)); have n1_ := Aside0.mk (Kd.R_mono (ok' := fun k_ => some k_ ≠ (.slice Ao32 t1005.length co32 : Value).ownBlock ∧ some k_ ≠ (.slice Ao40 t984.length co40 : Value).ownBlock) (Kd.R_keptB ((Kd.R_apart' HO_968004.out (Kd.R_typed HO_992003.out) (by decide))) hkp (fun k_ hk_ hs_ => Or.elim hs_ (fun e_ => (hk_.2) e_) (fun e_ => (hk_.1.2) e_))) (fun k_ hk_ => ⟨hk_.1.1.1, hk_.1.1.2⟩)); have n2_ := Aside0.mk (Kd.R_mono (ok' := fun k_ => some k_ ≠ (.slice Ao23 t957.length co23 : Value).ownBlock ∧ some k_ ≠ (.slice Ao39 t981.length co39 : Value).ownBlock) (Kd.R_keptB ((Kd.R_apart' HO_978003.out (Kd.R_typed HO_992004.out) (by decide))) hkp (fun k_ hk_ hs_ => Or.elim hs_ (fun e_ => (hk_.1.2) e_) (fun e_ => (hk_.2) e_))) (fun k_ hk_ => ⟨hk_.1.1.1, hk_.1.1.2⟩)); have n3_ := Aside0.mk (Kd.R_mono (ok' := fun k_ => some k_ ≠ (.slice Ao24 t960.length co24 : Value).ownBlock ∧ some k_ ≠ (.slice Ao40 t984.length co40 : Value).ownBlock) (Kd.R_keptB ((Kd.R_apart' HO_978004.out (Kd.R_typed HO_992003.out) (by decide))) hkp (fun k_ hk_ hs_ => Or.elim hs_ (fun e_ => (hk_.2) e_) (fun e_ => (hk_.1.2) e_))) (fun k_ hk_ => ⟨hk_.1.1.1, hk_.1.1.2⟩)); have n4_ := Aside0.mk (Kd.R_reok rfl hy0 (fun k_ e_ => HO_992003.out.1 k_ e_)); have n5_ := Aside0.mk (Kd.R_reok rfl hy1 (fun k_ e_ => HO_992004.out.1 k_ e_)); have n6_ := Aside0.mk (blk_kept (bs BK943.out) hkp (fun hs_ => Or.elim hs_ (fun e_ => (fun e_ => (Kd.R_ne HO_992003.out BK943.out (by decide)) e_) e_) (fun e_ => (fun e_ => (Kd.R_ne HO_992004.out BK943.out (by decide)) e_) e_))); have n7_ := Aside0.mk (blk_kept (bs BK967.out) hkp (fun hs_ => Or.elim hs_ (fun e_ => (fun e_ => (Kd.R_ne HO_992003.out BK967.out (by decide)) e_) e_) (fun e_ => (fun e_ => (Kd.R_ne HO_992004.out BK967.out (by decide)) e_) e_))); have n8_ := Aside0.mk (blk_kept (bs BK977.out) hkp (fun hs_ => Or.elim hs_ (fun e_ => (fun e_ => (Kd.R_ne HO_992003.out BK977.out (by decide)) e_) e_) (fun e_ => (fun e_ => (Kd.R_ne HO_992004.out BK977.out (by decide)) e_) e_))); have n9_ := Aside0.mk (blk_kept (bs BK991.out) hkp (fun hs_ => Or.elim hs_ (fun e_ => (fun e_ => (Kd.R_ne HO_992003.out BK991.out (by decide)) e_) e_) (fun e_ => (fun e_ => (Kd.R_ne HO_992004.out BK991.out (by decide)) e_) e_))); have n10_ := Aside0.mk (hb); replace HO_968003 := n0_; replace HO_968004 := n1_; replace HO_978003 := n2_; replace HO_978004 := n3_; replace HO_992003 := n4_; replace HO_992004 := n5_; replace BK943 := n6_; replace BK967 := n7_; replace BK977 := n8_; replace BK991 := n9_; replace HB := n10_; clear n0_ n1_ n2_ n3_ n4_ n5_ n6_ n7_ n8_ n9_ n10_; (try clear hb); (try clear hkp); (try clear hy0); (try clear hy1); obtain ⟨hcz103_0, hcz103_1, hcz103_2, hcz103_3, hcz103_4, hcz103_5, hcz103_6, hcz103_7, hfz103_0, hfz103_1, hfz103_2, hfz103_3, hfz103_4, hfz103_5, hfz103_6, hfz103_7⟩ := bz8 BK991.out) | ((with_reducible refine gate_callee (f := 54) rfl ?_); refine goesL_ (some 67) rfl rfl Try.func54 (by kernel_rfl) rfl #[.agg #[.int .i64 t978, .int .i64 t979, .int .i64 t980, .slice Ao39 t1008.length co39, .slice Ao40 t1009.length co40, .string t987, .string t988, .int .i64 t989], .int .i64 1] rfl (by (try simp only [mA_]); first | done | (rw [show t1008.length = t981.length from (Kd.R_reads' HO_992003.out).1.symm, show t1009.length = t984.length from (Kd.R_reads' HO_992004.out).1.symm] <;> rfl) | rfl | (simp only [List.length_drop, List.length_take]; rfl)) ?_; (with_reducible refine (laws_heldConsole.calls kj63 t978 t979 t980 _ _ t1008 _ _ t1009 t987 t988 t989 1 t1010 _ ?side1 ?side2 ?side3 ?side4 A96.out).mono ?_); (case side1 => repeat (first | exact (Kd.R_reads' HO_992003.out).2.2 | (with_reducible refine Kd.C_alloc ?_ _) | (with_reducible refine Kd.C_drewN ?_ _) | (with_reducible refine Kd.C_drew ?_))); (case side2 => rw [show t1008.length = t981.length from (Kd.R_reads' HO_992003.out).1.symm]; exact (Kd.R_reads' HO_992003.out).2.1); (case side3 => repeat (first | exact (Kd.R_reads' HO_992004.out).2.2 | (with_reducible refine Kd.C_alloc ?_ _) | (with_reducible refine Kd.C_drewN ?_ _) | (with_reducible refine Kd.C_drew ?_))); (case side4 => rw [show t1009.length = t984.length from (Kd.R_reads' HO_992004.out).1.symm]; exact (Kd.R_reads' HO_992004.out).2.1); rintro e w104 ⟨rfl, hb⟩; refine ⟨_, rfl, ?_⟩; have n0_ := Aside0.mk (Kd.R_below (bR HO_968003.out) hb); have n1_ := Aside0.mk (Kd.R_below (bR HO_968004.out) hb); have n2_ := Aside0.mk (Kd.R_below (bR HO_978003.out) hb); have n3_ := Aside0.mk (Kd.R_below (bR HO_978004.out) hb); have n4_ := Aside0.mk (Kd.R_below (bR HO_992003.out) hb); have n5_ := Aside0.mk (Kd.R_below (bR HO_992004.out) hb); have n6_ := Aside0.mk (blk_below (bs BK943.out) hb); have n7_ := Aside0.mk (blk_below (bs BK967.out) hb); have n8_ := Aside0.mk (blk_below (bs BK977.out) hb); have n9_ := Aside0.mk (blk_below (bs BK991.out) hb); have n10_ := Aside0.mk (below_step (by repeat (first | (with_reducible first | exact bw HB.out | refine bset ?_ | apply bA | apply bN | apply bD) | exact HB.out)) hb); replace HO_968003 := n0_; replace HO_968004 := n1_; replace HO_978003 := n2_; replace HO_978004 := n3_; replace HO_992003 := n4_; replace HO_992004 := n5_; replace BK943 := n6_; replace BK967 := n7_; replace BK977 := n8_; replace BK991 := n9_; replace HB := n10_; clear n0_ n1_ n2_ n3_ n4_ n5_ n6_ n7_ n8_ n9_ n10_; (try clear hb); (try clear hb2); (try clear hk); (try clear hi)))
      go_ret
      exact ⟨by first | rfl | (simp [errW_none, errW_some] <;> rfl) | (simp [*, errW_none, errW_some] <;> rfl), by repeat (first | (with_reducible first | exact bw HB.out | refine bset ?_ | apply bA | apply bN | apply bD) | exact HB.out)⟩
     rw [if_neg c97] at H
     have c97b0 : decide (t1010 < 0) = false := decide_eq_false c97
     clear c97
     by_cases c105 : t1010 = t1007
     rotate_left
     ·rw [if_neg c105] at H
      have c105b0 : (t1010 == t1007) = false := beq_eq_false_iff_ne.mpr c105
      have c105b1 : (t1010 != t1007) = true := bne_iff_ne.mpr c105
      obtain rfl := Option.some.inj H
      have hnb175 := NB991_943.out
      have hnc175 := NB943_991.out
      have hnb176 := NB991_967.out
      have hnc176 := NB967_991.out
      have hnb177 := NB991_977.out
      have hnc177 := NB977_991.out
      obtain ⟨hcz178_0, hcz178_1, hcz178_2, hcz178_3, hcz178_4, hcz178_5, hcz178_6, hcz178_7, hfz178_0, hfz178_1, hfz178_2, hfz178_3, hfz178_4, hfz178_5, hfz178_6, hfz178_7⟩ := bz8 BK991.out
      go_wp2_with (first | ((with_reducible refine gate_callee (f := 53) rfl ?_); refine goesL_ (some 64) rfl rfl Try.func53 (by kernel_rfl) rfl #[.agg #[.int .i64 t978, .int .i64 t979, .int .i64 t980, .slice Ao39 t981.length co39, .slice Ao40 t984.length co40, .string t987, .string t988, .int .i64 t989], .int .i64 1] rfl (by (try simp only [mA_]); first | done | rfl | (simp only [List.length_drop, List.length_take]; rfl)) ?_; (with_reducible refine (laws_markConsole.calls kj63 t978 t979 t980 (fun k_ => some k_ = (.slice Ao39 t981.length co39 : Value).ownBlock) (.slice Ao39 t981.length co39) t981 (fun k_ => some k_ = (.slice Ao40 t984.length co40 : Value).ownBlock) (.slice Ao40 t984.length co40) t984 t987 t988 t989 1 t1007 t1008 t1009 w _ ?side1 ?side2 ?side3 A95.out).mono ?_); (case side1 => repeat (first | (with_reducible first | exact HB.out | apply below_alloc | apply pw_below_drewN | apply below_drew1 | refine below_set ?_ GE943.out | refine below_set ?_ GE967.out | refine below_set ?_ GE977.out | refine below_set ?_ GE991.out) | exact HB.out)); (case side2 => exact Kd.R_tight rfl HO_992003.out); (case side3 => exact Kd.R_tight rfl HO_992004.out); rintro e w179 ⟨rfl, hy0, hy1, hb, hkp⟩; refine ⟨_, rfl, ?_⟩; have n0_ := Aside0.mk (Kd.R_mono (ok' := fun k_ => some k_ ≠ (.slice Ao31 t1004.length co31 : Value).ownBlock ∧ some k_ ≠ (.slice Ao39 t981.length co39 : Value).ownBlock) (Kd.R_keptB ((Kd.R_apart' HO_968003.out (Kd.R_typed HO_992004.out) (by decide))) hkp (fun k_ hk_ hs_ => Or.elim hs_ (fun e_ => (hk_.1.2) e_) (fun e_ => (hk_.2) e_))) (fun k_ hk_ => ⟨hk_.1.1.1, hk_.1.1.2⟩)); have n1_ := Aside0.mk (Kd.R_mono (ok' := fun k_ => some k_ ≠ (.slice Ao32 t1005.length co32 : Value).ownBlock ∧ some k_ ≠ (.slice Ao40 t984.length co40 : Value).ownBlock) (Kd.R_keptB ((Kd.R_apart' HO_968004.out (Kd.R_typed HO_992003.out) (by decide))) hkp (fun k_ hk_ hs_ => Or.elim hs_ (fun e_ => (hk_.2) e_) (fun e_ => (hk_.1.2) e_))) (fun k_ hk_ => ⟨hk_.1.1.1, hk_.1.1.2⟩)); have n2_ := Aside0.mk (Kd.R_mono (ok' := fun k_ => some k_ ≠ (.slice Ao23 t957.length co23 : Value).ownBlock ∧ some k_ ≠ (.slice Ao39 t981.length co39 : Value).ownBlock) (Kd.R_keptB ((Kd.R_apart' HO_978003.out (Kd.R_typed HO_992004.out) (by decide))) hkp (fun k_ hk_ hs_ => Or.elim hs_ (fun e_ => (hk_.1.2) e_) (fun e_ => (hk_.2) e_))) (fun k_ hk_ => ⟨hk_.1.1.1, hk_.1.1.2⟩)); have n3_ := Aside0.mk (Kd.R_mono (ok' := fun k_ => some k_ ≠ (.slice Ao24 t960.length co24 : Value).ownBlock ∧ some k_ ≠ (.slice Ao40 t984.length co40 : Value).ownBlock) (Kd.R_keptB ((Kd.R_apart' HO_978004.out (Kd.R_typed HO_992003.out) (by decide))) hkp (fun k_ hk_ hs_ => Or.elim hs_ (fun e_ => (hk_.2) e_) (fun e_ => (hk_.1.2) e_))) (fun k_ hk_ => ⟨hk_.1.1.1, hk_.1.1.2⟩)); have n4_ := Aside0.mk (Kd.R_reok rfl hy0 (fun k_ e_ => HO_992003.out.1 k_ e_)); have n5_ := Aside0.mk (Kd.R_reok rfl hy1 (fun k_ e_ => HO_992004.out.1 k_ e_)); have n6_ := Aside0.mk (blk_kept (bs BK943.out) hkp (fun hs_ => Or.elim hs_ (fun e_ => (fun e_ => (Kd.R_ne HO_992003.out BK943.out (by decide)) e_) e_) (fun e_ => (fun e_ => (Kd.R_ne HO_992004.out BK943.out (by decide)) e_) e_))); have n7_ := Aside0.mk (blk_kept (bs BK967.out) hkp (fun hs_ => Or.elim hs_ (fun e_ => (fun e_ => (Kd.R_ne HO_992003.out BK967.out (by decide)) e_) e_) (fun e_ => (fun e_ => (Kd.R_ne HO_992004.out BK967.out (by decide)) e_) e_))); have n8_ := Aside0.mk (blk_kept (bs BK977.out) hkp (fun hs_ => Or.elim hs_ (fun e_ => (fun e_ => (Kd.R_ne HO_992003.out BK977.out (by decide)) e_) e_) (fun e_ => (fun e_ => (Kd.R_ne HO_992004.out BK977.out (by decide)) e_) e_))); have n9_ := Aside0.mk (blk_kept (bs BK991.out) hkp (fun hs_ => Or.elim hs_ (fun e_ => (fun e_ => (Kd.R_ne HO_992003.out BK991.out (by decide)) e_) e_) (fun e_ => (fun e_ => (Kd.R_ne HO_992004.out BK991.out (by decide)) e_) e_))); have n10_ := Aside0.mk (hb); replace HO_968003 := n0_; replace HO_968004 := n1_; replace HO_978003 := n2_; replace HO_978004 := n3_; replace HO_992003 := n4_; replace HO_992004 := n5_; replace BK943 := n6_; replace BK967 := n7_; replace BK977 := n8_; replace BK991 := n9_; replace HB := n10_; clear n0_ n1_ n2_ n3_ n4_ n5_ n6_ n7_ n8_ n9_ n10_; (try clear hb); (try clear hkp); (try clear hy0); (try clear hy1); obtain ⟨hcz180_0, hcz180_1, hcz180_2, hcz180_3, hcz180_4, hcz180_5, hcz180_6, hcz180_7, hfz180_0, hfz180_1, hfz180_2, hfz180_3, hfz180_4, hfz180_5, hfz180_6, hfz180_7⟩ := bz8 BK991.out) | ((with_reducible refine gate_callee (f := 54) rfl ?_); refine goesL_ (some 67) rfl rfl Try.func54 (by kernel_rfl) rfl #[.agg #[.int .i64 t978, .int .i64 t979, .int .i64 t980, .slice Ao39 t1008.length co39, .slice Ao40 t1009.length co40, .string t987, .string t988, .int .i64 t989], .int .i64 1] rfl (by (try simp only [mA_]); first | done | (rw [show t1008.length = t981.length from (Kd.R_reads' HO_992003.out).1.symm, show t1009.length = t984.length from (Kd.R_reads' HO_992004.out).1.symm] <;> rfl) | rfl | (simp only [List.length_drop, List.length_take]; rfl)) ?_; (with_reducible refine (laws_heldConsole.calls kj63 t978 t979 t980 _ _ t1008 _ _ t1009 t987 t988 t989 1 t1010 _ ?side1 ?side2 ?side3 ?side4 A96.out).mono ?_); (case side1 => repeat (first | exact (Kd.R_reads' HO_992003.out).2.2 | (with_reducible refine Kd.C_alloc ?_ _) | (with_reducible refine Kd.C_drewN ?_ _) | (with_reducible refine Kd.C_drew ?_))); (case side2 => rw [show t1008.length = t981.length from (Kd.R_reads' HO_992003.out).1.symm]; exact (Kd.R_reads' HO_992003.out).2.1); (case side3 => repeat (first | exact (Kd.R_reads' HO_992004.out).2.2 | (with_reducible refine Kd.C_alloc ?_ _) | (with_reducible refine Kd.C_drewN ?_ _) | (with_reducible refine Kd.C_drew ?_))); (case side4 => rw [show t1009.length = t984.length from (Kd.R_reads' HO_992004.out).1.symm]; exact (Kd.R_reads' HO_992004.out).2.1); rintro e w181 ⟨rfl, hb⟩; refine ⟨_, rfl, ?_⟩; have n0_ := Aside0.mk (Kd.R_below (bR HO_968003.out) hb); have n1_ := Aside0.mk (Kd.R_below (bR HO_968004.out) hb); have n2_ := Aside0.mk (Kd.R_below (bR HO_978003.out) hb); have n3_ := Aside0.mk (Kd.R_below (bR HO_978004.out) hb); have n4_ := Aside0.mk (Kd.R_below (bR HO_992003.out) hb); have n5_ := Aside0.mk (Kd.R_below (bR HO_992004.out) hb); have n6_ := Aside0.mk (blk_below (bs BK943.out) hb); have n7_ := Aside0.mk (blk_below (bs BK967.out) hb); have n8_ := Aside0.mk (blk_below (bs BK977.out) hb); have n9_ := Aside0.mk (blk_below (bs BK991.out) hb); have n10_ := Aside0.mk (below_step (by repeat (first | (with_reducible first | exact bw HB.out | refine bset ?_ | apply bA | apply bN | apply bD) | exact HB.out)) hb); replace HO_968003 := n0_; replace HO_968004 := n1_; replace HO_978003 := n2_; replace HO_978004 := n3_; replace HO_992003 := n4_; replace HO_992004 := n5_; replace BK943 := n6_; replace BK967 := n7_; replace BK977 := n8_; replace BK991 := n9_; replace HB := n10_; clear n0_ n1_ n2_ n3_ n4_ n5_ n6_ n7_ n8_ n9_ n10_; (try clear hb); (try clear hb2); (try clear hk); (try clear hi)))
      go_ret
      exact ⟨by first | rfl | (simp [errW_none, errW_some] <;> rfl) | (simp [*, errW_none, errW_some] <;> rfl), by repeat (first | (with_reducible first | exact bw HB.out | refine bset ?_ | apply bA | apply bN | apply bD) | exact HB.out)⟩
     rw [if_pos c105] at H
     have c105b0 : (t1010 == t1007) = true := beq_iff_eq.mpr c105
     have c105b1 : (t1010 != t1007) = false := bne_eq_false_iff_eq.mpr c105
     clear c105
     replace H := Option.bind_eq_some_iff.mp H
     obtain ⟨⟨t1011, t1012, t1013, t1014, t1017⟩, A1060, H⟩ := H
     replace H : ((impl_NewConsole.f kj63 t1011 t1012 t1013 t1014 t1017).bind fun bt1020 => ((laws_eqConsole.f kj63 bt1020.1 bt1020.2.1 bt1020.2.2.1 bt1020.2.2.2.1 bt1020.2.2.2.2.1 bt1020.2.2.2.2.2.1 bt1020.2.2.2.2.2.2.1 bt1020.2.2.2.2.2.2.2.1 t954 t955 t956 t957 t960 t963 t964 t965).bind fun t1034 => (if t1034 = true then (laws_FnExactNewConsole.j2 kj63 t1007 (bt1020.2.2.2.2.2.2.2.2 != t966) t978 t979 t980 t1008 t1009 t987 t988 t989) else (laws_FnExactNewConsole.j2 kj63 t1007 true t978 t979 t980 t1008 t1009 t987 t988 t989)))) = some r := H
     have A106 := Aside0.mk A1060
     clear A1060
     replace H := Option.bind_eq_some_iff.mp H
     obtain ⟨⟨t1020, t1021, t1022, t1023, t1026, t1029, t1030, t1031, t1032⟩, A1070, H⟩ := H
     replace H : ((laws_eqConsole.f kj63 t1020 t1021 t1022 t1023 t1026 t1029 t1030 t1031 t954 t955 t956 t957 t960 t963 t964 t965).bind fun t1034 => (if t1034 = true then (laws_FnExactNewConsole.j2 kj63 t1007 (t1032 != t966) t978 t979 t980 t1008 t1009 t987 t988 t989) else (laws_FnExactNewConsole.j2 kj63 t1007 true t978 t979 t980 t1008 t1009 t987 t988 t989))) = some r := H
     have A107 := Aside0.mk A1070
     clear A1070
     have HC108 := Aside0.mk H
     clear H
     have hnb109 := NB991_943.out
     have hnc109 := NB943_991.out
     have hnb110 := NB991_967.out
     have hnc110 := NB967_991.out
     have hnb111 := NB991_977.out
     have hnc111 := NB977_991.out
     obtain ⟨hcz112_0, hcz112_1, hcz112_2, hcz112_3, hcz112_4, hcz112_5, hcz112_6, hcz112_7, hfz112_0, hfz112_1, hfz112_2, hfz112_3, hfz112_4, hfz112_5, hfz112_6, hfz112_7⟩ := bz8 BK991.out
     go_upto_region 25 with (first | ((with_reducible refine gate_callee (f := 53) rfl ?_); refine goesL_ (some 64) rfl rfl Try.func53 (by kernel_rfl) rfl #[.agg #[.int .i64 t978, .int .i64 t979, .int .i64 t980, .slice Ao39 t981.length co39, .slice Ao40 t984.length co40, .string t987, .string t988, .int .i64 t989], .int .i64 1] rfl (by (try simp only [mA_]); first | done | rfl | (simp only [List.length_drop, List.length_take]; rfl)) ?_; (with_reducible refine (laws_markConsole.calls kj63 t978 t979 t980 (fun k_ => some k_ = (.slice Ao39 t981.length co39 : Value).ownBlock) (.slice Ao39 t981.length co39) t981 (fun k_ => some k_ = (.slice Ao40 t984.length co40 : Value).ownBlock) (.slice Ao40 t984.length co40) t984 t987 t988 t989 1 t1007 t1008 t1009 w _ ?side1 ?side2 ?side3 A95.out).mono ?_); (case side1 => repeat (first | (with_reducible first | exact HB.out | apply below_alloc | apply pw_below_drewN | apply below_drew1 | refine below_set ?_ GE943.out | refine below_set ?_ GE967.out | refine below_set ?_ GE977.out | refine below_set ?_ GE991.out) | exact HB.out)); (case side2 => exact Kd.R_tight rfl HO_992003.out); (case side3 => exact Kd.R_tight rfl HO_992004.out); rintro e w113 ⟨rfl, hy0, hy1, hb, hkp⟩; refine ⟨_, rfl, ?_⟩; have n0_ := Aside0.mk (Kd.R_mono (ok' := fun k_ => some k_ ≠ (.slice Ao31 t1004.length co31 : Value).ownBlock ∧ some k_ ≠ (.slice Ao39 t981.length co39 : Value).ownBlock) (Kd.R_keptB ((Kd.R_apart' HO_968003.out (Kd.R_typed HO_992004.out) (by decide))) hkp (fun k_ hk_ hs_ => Or.elim hs_ (fun e_ => (hk_.1.2) e_) (fun e_ => (hk_.2) e_))) (fun k_ hk_ => ⟨hk_.1.1.1, hk_.1.1.2⟩)); have n1_ := Aside0.mk (Kd.R_mono (ok' := fun k_ => some k_ ≠ (.slice Ao32 t1005.length co32 : Value).ownBlock ∧ some k_ ≠ (.slice Ao40 t984.length co40 : Value).ownBlock) (Kd.R_keptB ((Kd.R_apart' HO_968004.out (Kd.R_typed HO_992003.out) (by decide))) hkp (fun k_ hk_ hs_ => Or.elim hs_ (fun e_ => (hk_.2) e_) (fun e_ => (hk_.1.2) e_))) (fun k_ hk_ => ⟨hk_.1.1.1, hk_.1.1.2⟩)); have n2_ := Aside0.mk (Kd.R_mono (ok' := fun k_ => some k_ ≠ (.slice Ao23 t957.length co23 : Value).ownBlock ∧ some k_ ≠ (.slice Ao39 t981.length co39 : Value).ownBlock) (Kd.R_keptB ((Kd.R_apart' HO_978003.out (Kd.R_typed HO_992004.out) (by decide))) hkp (fun k_ hk_ hs_ => Or.elim hs_ (fun e_ => (hk_.1.2) e_) (fun e_ => (hk_.2) e_))) (fun k_ hk_ => ⟨hk_.1.1.1, hk_.1.1.2⟩)); have n3_ := Aside0.mk (Kd.R_mono (ok' := fun k_ => some k_ ≠ (.slice Ao24 t960.length co24 : Value).ownBlock ∧ some k_ ≠ (.slice Ao40 t984.length co40 : Value).ownBlock) (Kd.R_keptB ((Kd.R_apart' HO_978004.out (Kd.R_typed HO_992003.out) (by decide))) hkp (fun k_ hk_ hs_ => Or.elim hs_ (fun e_ => (hk_.2) e_) (fun e_ => (hk_.1.2) e_))) (fun k_ hk_ => ⟨hk_.1.1.1, hk_.1.1.2⟩)); have n4_ := Aside0.mk (Kd.R_reok rfl hy0 (fun k_ e_ => HO_992003.out.1 k_ e_)); have n5_ := Aside0.mk (Kd.R_reok rfl hy1 (fun k_ e_ => HO_992004.out.1 k_ e_)); have n6_ := Aside0.mk (blk_kept (bs BK943.out) hkp (fun hs_ => Or.elim hs_ (fun e_ => (fun e_ => (Kd.R_ne HO_992003.out BK943.out (by decide)) e_) e_) (fun e_ => (fun e_ => (Kd.R_ne HO_992004.out BK943.out (by decide)) e_) e_))); have n7_ := Aside0.mk (blk_kept (bs BK967.out) hkp (fun hs_ => Or.elim hs_ (fun e_ => (fun e_ => (Kd.R_ne HO_992003.out BK967.out (by decide)) e_) e_) (fun e_ => (fun e_ => (Kd.R_ne HO_992004.out BK967.out (by decide)) e_) e_))); have n8_ := Aside0.mk (blk_kept (bs BK977.out) hkp (fun hs_ => Or.elim hs_ (fun e_ => (fun e_ => (Kd.R_ne HO_992003.out BK977.out (by decide)) e_) e_) (fun e_ => (fun e_ => (Kd.R_ne HO_992004.out BK977.out (by decide)) e_) e_))); have n9_ := Aside0.mk (blk_kept (bs BK991.out) hkp (fun hs_ => Or.elim hs_ (fun e_ => (fun e_ => (Kd.R_ne HO_992003.out BK991.out (by decide)) e_) e_) (fun e_ => (fun e_ => (Kd.R_ne HO_992004.out BK991.out (by decide)) e_) e_))); have n10_ := Aside0.mk (hb); replace HO_968003 := n0_; replace HO_968004 := n1_; replace HO_978003 := n2_; replace HO_978004 := n3_; replace HO_992003 := n4_; replace HO_992004 := n5_; replace BK943 := n6_; replace BK967 := n7_; replace BK977 := n8_; replace BK991 := n9_; replace HB := n10_; clear n0_ n1_ n2_ n3_ n4_ n5_ n6_ n7_ n8_ n9_ n10_; (try clear hb); (try clear hkp); (try clear hy0); (try clear hy1); obtain ⟨hcz114_0, hcz114_1, hcz114_2, hcz114_3, hcz114_4, hcz114_5, hcz114_6, hcz114_7, hfz114_0, hfz114_1, hfz114_2, hfz114_3, hfz114_4, hfz114_5, hfz114_6, hfz114_7⟩ := bz8 BK991.out) | ((with_reducible refine gate_callee (f := 54) rfl ?_); refine goesL_ (some 67) rfl rfl Try.func54 (by kernel_rfl) rfl #[.agg #[.int .i64 t978, .int .i64 t979, .int .i64 t980, .slice Ao39 t1008.length co39, .slice Ao40 t1009.length co40, .string t987, .string t988, .int .i64 t989], .int .i64 1] rfl (by (try simp only [mA_]); first | done | (rw [show t1008.length = t981.length from (Kd.R_reads' HO_992003.out).1.symm, show t1009.length = t984.length from (Kd.R_reads' HO_992004.out).1.symm] <;> rfl) | rfl | (simp only [List.length_drop, List.length_take]; rfl)) ?_; (with_reducible refine (laws_heldConsole.calls kj63 t978 t979 t980 _ _ t1008 _ _ t1009 t987 t988 t989 1 t1010 _ ?side1 ?side2 ?side3 ?side4 A96.out).mono ?_); (case side1 => repeat (first | exact (Kd.R_reads' HO_992003.out).2.2 | (with_reducible refine Kd.C_alloc ?_ _) | (with_reducible refine Kd.C_drewN ?_ _) | (with_reducible refine Kd.C_drew ?_))); (case side2 => rw [show t1008.length = t981.length from (Kd.R_reads' HO_992003.out).1.symm]; exact (Kd.R_reads' HO_992003.out).2.1); (case side3 => repeat (first | exact (Kd.R_reads' HO_992004.out).2.2 | (with_reducible refine Kd.C_alloc ?_ _) | (with_reducible refine Kd.C_drewN ?_ _) | (with_reducible refine Kd.C_drew ?_))); (case side4 => rw [show t1009.length = t984.length from (Kd.R_reads' HO_992004.out).1.symm]; exact (Kd.R_reads' HO_992004.out).2.1); rintro e w115 ⟨rfl, hb⟩; refine ⟨_, rfl, ?_⟩; have n0_ := Aside0.mk (Kd.R_below (bR HO_968003.out) hb); have n1_ := Aside0.mk (Kd.R_below (bR HO_968004.out) hb); have n2_ := Aside0.mk (Kd.R_below (bR HO_978003.out) hb); have n3_ := Aside0.mk (Kd.R_below (bR HO_978004.out) hb); have n4_ := Aside0.mk (Kd.R_below (bR HO_992003.out) hb); have n5_ := Aside0.mk (Kd.R_below (bR HO_992004.out) hb); have n6_ := Aside0.mk (blk_below (bs BK943.out) hb); have n7_ := Aside0.mk (blk_below (bs BK967.out) hb); have n8_ := Aside0.mk (blk_below (bs BK977.out) hb); have n9_ := Aside0.mk (blk_below (bs BK991.out) hb); have n10_ := Aside0.mk (below_step (by repeat (first | (with_reducible first | exact bw HB.out | refine bset ?_ | apply bA | apply bN | apply bD) | exact HB.out)) hb); replace HO_968003 := n0_; replace HO_968004 := n1_; replace HO_978003 := n2_; replace HO_978004 := n3_; replace HO_992003 := n4_; replace HO_992004 := n5_; replace BK943 := n6_; replace BK967 := n7_; replace BK977 := n8_; replace BK991 := n9_; replace HB := n10_; clear n0_ n1_ n2_ n3_ n4_ n5_ n6_ n7_ n8_ n9_ n10_; (try clear hb); (try clear hb2); (try clear hk); (try clear hi); have hnb116 := NB943_967.out; have hnc116 := NB967_943.out; have hnb117 := NB943_977.out; have hnc117 := NB977_943.out; obtain ⟨hcz118_0, hcz118_1, hcz118_2, hcz118_3, hcz118_4, hfz118_0, hfz118_1, hfz118_2, hfz118_3, hfz118_4⟩ := bz5 BK943.out) | ((with_reducible refine gate_callee (f := 39) rfl ?_); refine goesL_ (some 75) rfl rfl Try.func39 (by kernel_rfl) rfl #[.agg #[.int .i64 a0_0, .int .i64 a0_1, .int .i64 a0_2, .slice A0_3 l0_3.length c0_3, .slice A0_4 l0_4.length c0_4]] rfl (by (try simp only [mA_]); first | done | rfl | (simp only [List.length_drop, List.length_take]; rfl)) ?_; (with_reducible refine (laws_toDispatcher.calls kj63 a0_0 a0_1 a0_2 _ _ l0_3 _ _ l0_4 t1011 t1012 t1013 t1014 t1017 _ ?side1 ?side2 ?side3 ?side4 A106.out).mono ?_); (case side1 => first | exact bC HR0_3.out HB.out | exact Kd.C_below HR0_3.out HB.out); (case side2 => exact HC0_3.out); (case side3 => first | exact bC HR0_4.out HB.out | exact Kd.C_below HR0_4.out HB.out); (case side4 => exact HC0_4.out); rintro e w119 ⟨v1015, v1018, rfl, ho0, ho1, hb⟩; refine ⟨_, rfl, ?_⟩; have n0_ := Aside0.mk (Kd.R_elder' (bR HO_968003.out) (Kd.R_base ho0) hb); have n1_ := Aside0.mk (Kd.R_elder' (bR HO_968004.out) (Kd.R_base ho1) hb); have n2_ := Aside0.mk (Kd.R_elder' (bR HO_978003.out) (Kd.R_base ho0) hb); have n3_ := Aside0.mk (Kd.R_elder' (bR HO_978004.out) (Kd.R_base ho1) hb); have n4_ := Aside0.mk (Kd.R_elder' (bR HO_992003.out) (Kd.R_base ho0) hb); have n5_ := Aside0.mk (Kd.R_elder' (bR HO_992004.out) (Kd.R_base ho1) hb); have n6_ := Aside0.mk (Kd.R_lower (Kd.R_new' (Kd.R_new' (Kd.R_new' ho0 (Kd.R_lt (bR HO_968003.out))) (Kd.R_lt (bR HO_978003.out))) (Kd.R_lt (bR HO_992003.out))) (below_size (by repeat (first | (with_reducible first | exact bw HB.out | refine bset ?_ | apply bA | apply bN | apply bD) | exact HB.out)))); have n7_ := Aside0.mk (Kd.R_lower (Kd.R_new' (Kd.R_new' (Kd.R_new' ho1 (Kd.R_lt (bR HO_968004.out))) (Kd.R_lt (bR HO_978004.out))) (Kd.R_lt (bR HO_992004.out))) (below_size (by repeat (first | (with_reducible first | exact bw HB.out | refine bset ?_ | apply bA | apply bN | apply bD) | exact HB.out)))); have n8_ := Aside0.mk (blk_below (bs BK943.out) hb); have n9_ := Aside0.mk (blk_below (bs BK967.out) hb); have n10_ := Aside0.mk (blk_below (bs BK977.out) hb); have n11_ := Aside0.mk (blk_below (bs BK991.out) hb); have n12_ := Aside0.mk (below_step (by repeat (first | (with_reducible first | exact bw HB.out | refine bset ?_ | apply bA | apply bN | apply bD) | exact HB.out)) hb); replace HO_968003 := n0_; replace HO_968004 := n1_; replace HO_978003 := n2_; replace HO_978004 := n3_; replace HO_992003 := n4_; replace HO_992004 := n5_; have HO1016 := n6_; have HO1019 := n7_; replace BK943 := n8_; replace BK967 := n9_; replace BK977 := n10_; replace BK991 := n11_; replace HB := n12_; clear n0_ n1_ n2_ n3_ n4_ n5_ n6_ n7_ n8_ n9_ n10_ n11_ n12_; (try clear hb); (try clear hb2); (try clear hk); (try clear hi); (try clear ho0); (try clear ho1); obtain ⟨Ao120, co120, eo120⟩ := Kd.R_slice HO1016.out; subst eo120; obtain ⟨Ao121, co121, eo121⟩ := Kd.R_slice HO1019.out; subst eo121) | ((with_reducible refine gate_callee (f := 51) rfl ?_); refine goesL_ (some 76) rfl rfl Try.func51 (by kernel_rfl) rfl #[.agg #[.int .i64 t1011, .int .i64 t1012, .int .i64 t1013, .slice Ao120 t1014.length co120, .slice Ao121 t1017.length co121]] rfl (by (try simp only [mA_]); first | done | rfl | (simp only [List.length_drop, List.length_take]; rfl)) ?_; (with_reducible refine (impl_NewConsole.calls kj63 t1011 t1012 t1013 _ _ t1014 _ _ t1017 t1020 t1021 t1022 t1023 t1026 t1029 t1030 t1031 t1032 _ ?side1 ?side2 ?side3 ?side4 A107.out).mono ?_); (case side1 => repeat (first | exact (Kd.R_reads' HO1016.out).2.2 | (with_reducible refine Kd.C_alloc ?_ _) | (with_reducible refine Kd.C_drewN ?_ _) | (with_reducible refine Kd.C_drew ?_))); (case side2 => exact (Kd.R_reads' HO1016.out).2.1); (case side3 => repeat (first | exact (Kd.R_reads' HO1019.out).2.2 | (with_reducible refine Kd.C_alloc ?_ _) | (with_reducible refine Kd.C_drewN ?_ _) | (with_reducible refine Kd.C_drew ?_))); (case side4 => exact (Kd.R_reads' HO1019.out).2.1); rintro e w122 ⟨v1024, v1027, rfl, ho0, ho1, hb⟩; refine ⟨_, rfl, ?_⟩; have n0_ := Aside0.mk (Kd.R_elder' (bR HO_968003.out) (Kd.R_base ho0) hb); have n1_ := Aside0.mk (Kd.R_elder' (bR HO_968004.out) (Kd.R_base ho1) hb); have n2_ := Aside0.mk (Kd.R_elder' (bR HO_978003.out) (Kd.R_base ho0) hb); have n3_ := Aside0.mk (Kd.R_elder' (bR HO_978004.out) (Kd.R_base ho1) hb); have n4_ := Aside0.mk (Kd.R_elder' (bR HO_992003.out) (Kd.R_base ho0) hb); have n5_ := Aside0.mk (Kd.R_elder' (bR HO_992004.out) (Kd.R_base ho1) hb); have n6_ := Aside0.mk (Kd.R_elder' (bR HO1016.out) (Kd.R_base ho0) hb); have n7_ := Aside0.mk (Kd.R_elder' (bR HO1019.out) (Kd.R_base ho1) hb); have n8_ := Aside0.mk (Kd.R_lower (Kd.R_new' (Kd.R_new' (Kd.R_new' (Kd.R_new' ho0 (Kd.R_lt (bR HO_968003.out))) (Kd.R_lt (bR HO_978003.out))) (Kd.R_lt (bR HO_992003.out))) (Kd.R_lt (bR HO1016.out))) (below_size (by repeat (first | (with_reducible first | exact bw HB.out | refine bset ?_ | apply bA | apply bN | apply bD) | exact HB.out)))); have n9_ := Aside0.mk (Kd.R_lower (Kd.R_new' (Kd.R_new' (Kd.R_new' (Kd.R_new' ho1 (Kd.R_lt (bR HO_968004.out))) (Kd.R_lt (bR HO_978004.out))) (Kd.R_lt (bR HO_992004.out))) (Kd.R_lt (bR HO1019.out))) (below_size (by repeat (first | (with_reducible first | exact bw HB.out | refine bset ?_ | apply bA | apply bN | apply bD) | exact HB.out)))); have n10_ := Aside0.mk (blk_below (bs BK943.out) hb); have n11_ := Aside0.mk (blk_below (bs BK967.out) hb); have n12_ := Aside0.mk (blk_below (bs BK977.out) hb); have n13_ := Aside0.mk (blk_below (bs BK991.out) hb); have n14_ := Aside0.mk (below_step (by repeat (first | (with_reducible first | exact bw HB.out | refine bset ?_ | apply bA | apply bN | apply bD) | exact HB.out)) hb); replace HO_968003 := n0_; replace HO_968004 := n1_; replace HO_978003 := n2_; replace HO_978004 := n3_; replace HO_992003 := n4_; replace HO_992004 := n5_; replace HO1016 := n6_; replace HO1019 := n7_; have HO1025 := n8_; have HO1028 := n9_; replace BK943 := n10_; replace BK967 := n11_; replace BK977 := n12_; replace BK991 := n13_; replace HB := n14_; clear n0_ n1_ n2_ n3_ n4_ n5_ n6_ n7_ n8_ n9_ n10_ n11_ n12_ n13_ n14_; (try clear hb); (try clear hb2); (try clear hk); (try clear hi); (try clear ho0); (try clear ho1)) | ((with_reducible refine gate_dst (N := 12) rfl ?_); refine box_event ?hg (N := 12) ?hd (cs := #[.int .i64 0, .int .i64 0, .int .i64 0, .slice none 0 0, .slice none 0 0, .string (⟨#[]⟩ : ByteArray), .string (⟨#[]⟩ : ByteArray), .int .i64 0]) (t := 72) ?hr ?_; (case hd => rfl); (case hg => rfl); (case hr => first | (go_simp; done) | (go_simp; rfl)); intro gb1033 hg w123 hbox hb; have n0_ := Aside0.mk (Kd.R_below (bR HO_968003.out) hb); have n1_ := Aside0.mk (Kd.R_below (bR HO_968004.out) hb); have n2_ := Aside0.mk (Kd.R_below (bR HO_978003.out) hb); have n3_ := Aside0.mk (Kd.R_below (bR HO_978004.out) hb); have n4_ := Aside0.mk (Kd.R_below (bR HO_992003.out) hb); have n5_ := Aside0.mk (Kd.R_below (bR HO_992004.out) hb); have n6_ := Aside0.mk (Kd.R_below (bR HO1016.out) hb); have n7_ := Aside0.mk (Kd.R_below (bR HO1019.out) hb); have n8_ := Aside0.mk (Kd.R_below (bR HO1025.out) hb); have n9_ := Aside0.mk (Kd.R_below (bR HO1028.out) hb); have n10_ := Aside0.mk (blk_below (bs BK943.out) hb); have n11_ := Aside0.mk (blk_below (bs BK967.out) hb); have n12_ := Aside0.mk (blk_below (bs BK977.out) hb); have n13_ := Aside0.mk (blk_below (bs BK991.out) hb); have n14_ := Aside0.mk (below_step (by repeat (first | (with_reducible first | exact bw HB.out | refine bset ?_ | apply bA | apply bN | apply bD) | exact HB.out)) hb); have n15_ := Aside0.mk (hbox); have n16_ := Aside0.mk ((by rw [hg]; exact (below_size (by repeat (first | (with_reducible first | exact bw HB.out | refine bset ?_ | apply bA | apply bN | apply bD) | exact HB.out))) : w.heap.size ≤ gb1033)); have n17_ := Aside0.mk ((by rw [hg]; exact (below_size (by repeat (first | (with_reducible first | exact bw HB.out | refine bset ?_ | apply bA | apply bN | apply bD) | exact HB.out))) : w.heap.size ≤ gb1033)); have n18_ := ne_ hg BK943.out; have n19_ := en_ hg BK943.out; have n20_ := ne_ hg BK967.out; have n21_ := en_ hg BK967.out; have n22_ := ne_ hg BK977.out; have n23_ := en_ hg BK977.out; have n24_ := ne_ hg BK991.out; have n25_ := en_ hg BK991.out; replace HO_968003 := n0_; replace HO_968004 := n1_; replace HO_978003 := n2_; replace HO_978004 := n3_; replace HO_992003 := n4_; replace HO_992004 := n5_; replace HO1016 := n6_; replace HO1019 := n7_; replace HO1025 := n8_; replace HO1028 := n9_; replace BK943 := n10_; replace BK967 := n11_; replace BK977 := n12_; replace BK991 := n13_; replace HB := n14_; have BK1033 := n15_; have GW1033 := n16_; have GE1033 := n17_; have NB943_1033 := n18_; have NB1033_943 := n19_; have NB967_1033 := n20_; have NB1033_967 := n21_; have NB977_1033 := n22_; have NB1033_977 := n23_; have NB991_1033 := n24_; have NB1033_991 := n25_; clear n0_ n1_ n2_ n3_ n4_ n5_ n6_ n7_ n8_ n9_ n10_ n11_ n12_ n13_ n14_ n15_ n16_ n17_ n18_ n19_ n20_ n21_ n22_ n23_ n24_ n25_; clear hb hbox hg; have hnb124 := NB1033_943.out; have hnc124 := NB943_1033.out; have hnb125 := NB1033_967.out; have hnc125 := NB967_1033.out; have hnb126 := NB1033_977.out; have hnc126 := NB977_1033.out; have hnb127 := NB1033_991.out; have hnc127 := NB991_1033.out; obtain ⟨hcz128_0, hcz128_1, hcz128_2, hcz128_3, hcz128_4, hcz128_5, hcz128_6, hcz128_7, hfz128_0, hfz128_1, hfz128_2, hfz128_3, hfz128_4, hfz128_5, hfz128_6, hfz128_7⟩ := bz8 BK1033.out; obtain ⟨Ao129, co129, eo129⟩ := Kd.R_slice HO1025.out; subst eo129; obtain ⟨Ao130, co130, eo130⟩ := Kd.R_slice HO1028.out; subst eo130))
     (try simp only [Act.put, List.setIfInBounds_toArray, List.set_cons_zero, List.set_cons_succ])
     go_cut [87] (fun v87 wc => ∃ (kq : Nat) (x87_107 : Bool), v87 = .bool x87_107 ∧ Aside0 (laws_FnExactNewConsole.j2 kq t1007 x87_107 t978 t979 t980 t1008 t1009 t987 t988 t989 = some r) ∧ Aside0 (kq ≤ kj63) ∧ Aside0 (Kd.R k137 137 wc w.heap.size (fun k_ => some k_ ≠ ((.slice Ao31 t1004.length co31) : Value).ownBlock ∧ some k_ ≠ ((.slice Ao39 t981.length co39) : Value).ownBlock ∧ some k_ ≠ ((.slice Ao129 t1023.length co129) : Value).ownBlock) (.slice Ao23 t957.length co23) t957) ∧ Aside0 (Kd.R k135 135 wc w.heap.size (fun k_ => some k_ ≠ ((.slice Ao32 t1005.length co32) : Value).ownBlock ∧ some k_ ≠ ((.slice Ao40 t984.length co40) : Value).ownBlock ∧ some k_ ≠ ((.slice Ao130 t1026.length co130) : Value).ownBlock) (.slice Ao24 t960.length co24) t960) ∧ Aside0 (Kd.R k137 137 wc w.heap.size (fun k_ => some k_ ≠ ((.slice Ao23 t957.length co23) : Value).ownBlock ∧ some k_ ≠ ((.slice Ao39 t981.length co39) : Value).ownBlock ∧ some k_ ≠ ((.slice Ao129 t1023.length co129) : Value).ownBlock) (.slice Ao31 t1004.length co31) t1004) ∧ Aside0 (Kd.R k135 135 wc w.heap.size (fun k_ => some k_ ≠ ((.slice Ao24 t960.length co24) : Value).ownBlock ∧ some k_ ≠ ((.slice Ao40 t984.length co40) : Value).ownBlock ∧ some k_ ≠ ((.slice Ao130 t1026.length co130) : Value).ownBlock) (.slice Ao32 t1005.length co32) t1005) ∧ Aside0 (Kd.R k137 137 wc w.heap.size (fun k_ => some k_ ≠ ((.slice Ao23 t957.length co23) : Value).ownBlock ∧ some k_ ≠ ((.slice Ao31 t1004.length co31) : Value).ownBlock ∧ some k_ ≠ ((.slice Ao129 t1023.length co129) : Value).ownBlock) (.slice Ao39 t981.length co39) t1008) ∧ Aside0 (Kd.R k135 135 wc w.heap.size (fun k_ => some k_ ≠ ((.slice Ao24 t960.length co24) : Value).ownBlock ∧ some k_ ≠ ((.slice Ao32 t1005.length co32) : Value).ownBlock ∧ some k_ ≠ ((.slice Ao130 t1026.length co130) : Value).ownBlock) (.slice Ao40 t984.length co40) t1009) ∧ Aside0 (Kd.R k137 137 wc w.heap.size (fun k_ => some k_ ≠ ((.slice Ao23 t957.length co23) : Value).ownBlock ∧ some k_ ≠ ((.slice Ao31 t1004.length co31) : Value).ownBlock ∧ some k_ ≠ ((.slice Ao39 t981.length co39) : Value).ownBlock) (.slice Ao129 t1023.length co129) t1023) ∧ Aside0 (Kd.R k135 135 wc w.heap.size (fun k_ => some k_ ≠ ((.slice Ao24 t960.length co24) : Value).ownBlock ∧ some k_ ≠ ((.slice Ao32 t1005.length co32) : Value).ownBlock ∧ some k_ ≠ ((.slice Ao40 t984.length co40) : Value).ownBlock) (.slice Ao130 t1026.length co130) t1026) ∧ Aside0 (wc.heap[gb943]? = some (.cells #[.int .i64 a0_0, .int .i64 a0_1, .int .i64 a0_2, (.slice A0_3 l0_3.length c0_3), (.slice A0_4 l0_4.length c0_4)] 59 (0, 0))) ∧ Aside0 (wc.heap[gb967]? = some (.cells #[.int .i64 t954, .int .i64 t955, .int .i64 t956, (.slice Ao23 t957.length co23), (.slice Ao24 t960.length co24), .string t963, .string t964, .int .i64 t965] 72 (0, 0))) ∧ Aside0 (wc.heap[gb977]? = some (.cells #[.int .i64 t968, .int .i64 t969, .int .i64 t970, (.slice Ao31 t1004.length co31), (.slice Ao32 t1005.length co32)] 25 (0, 0))) ∧ Aside0 (wc.heap[gb991]? = some (.cells #[.int .i64 t978, .int .i64 t979, .int .i64 t980, (.slice Ao39 t981.length co39), (.slice Ao40 t984.length co40), .string t987, .string t988, .int .i64 t989] 72 (0, 0))) ∧ Aside0 (wc.heap[gb1033]? = some (.cells #[.int .i64 t1020, .int .i64 t1021, .int .i64 t1022, (.slice Ao129 t1023.length co129), (.slice Ao130 t1026.length co130), .string t1029, .string t1030, .int .i64 t1031] 72 (0, 0))) ∧ Aside0 (Below w.heap.size w wc))
     case first =>
      have H := HC108.out
      clear HC108
      replace H := Option.bind_eq_some_iff.mp H
      obtain ⟨t1034, A1310, H⟩ := H
      replace H : (if t1034 = true then (laws_FnExactNewConsole.j2 kj63 t1007 (t1032 != t966) t978 t979 t980 t1008 t1009 t987 t988 t989) else (laws_FnExactNewConsole.j2 kj63 t1007 true t978 t979 t980 t1008 t1009 t987 t988 t989)) = some r := H
      have A131 := Aside0.mk A1310
      clear A1310
      by_cases c132 : t1034 = true
      ·subst c132
       have H1 : (laws_FnExactNewConsole.j2 kj63 t1007 (t1032 != t966) t978 t979 t980 t1008 t1009 t987 t988 t989) = some r := by rw [if_pos rfl] at H; exact H
       clear H
       have H := H1
       clear H1
       have H' := Aside0.mk H
       clear H
       have hnb133 := NB1033_943.out
       have hnc133 := NB943_1033.out
       have hnb134 := NB1033_967.out
       have hnc134 := NB967_1033.out
       have hnb135 := NB1033_977.out
       have hnc135 := NB977_1033.out
       have hnb136 := NB1033_991.out
       have hnc136 := NB991_1033.out
       obtain ⟨hcz137_0, hcz137_1, hcz137_2, hcz137_3, hcz137_4, hcz137_5, hcz137_6, hcz137_7, hfz137_0, hfz137_1, hfz137_2, hfz137_3, hfz137_4, hfz137_5, hfz137_6, hfz137_7⟩ := bz8 BK1033.out
       have hnb138 := NB967_943.out
       have hnc138 := NB943_967.out
       have hnb139 := NB967_977.out
       have hnc139 := NB977_967.out
       have hnb140 := NB967_991.out
       have hnc140 := NB991_967.out
       obtain ⟨hcz141_0, hcz141_1, hcz141_2, hcz141_3, hcz141_4, hcz141_5, hcz141_6, hcz141_7, hfz141_0, hfz141_1, hfz141_2, hfz141_3, hfz141_4, hfz141_5, hfz141_6, hfz141_7⟩ := bz8 BK967.out
       go_wp2_with (first | ((with_reducible refine gate_callee (f := 52) rfl ?_); refine goesL_ (some 81) rfl rfl Try.func52 (by kernel_rfl) rfl #[.agg #[.int .i64 t1020, .int .i64 t1021, .int .i64 t1022, .slice Ao129 t1023.length co129, .slice Ao130 t1026.length co130, .string t1029, .string t1030, .int .i64 t1031], .agg #[.int .i64 t954, .int .i64 t955, .int .i64 t956, .slice Ao23 t957.length co23, .slice Ao24 t960.length co24, .string t963, .string t964, .int .i64 t965]] rfl (by (try simp only [mA_]); first | done | rfl | (simp only [List.length_drop, List.length_take]; rfl)) ?_; (with_reducible refine (laws_eqConsole.calls kj63 t1020 t1021 t1022 _ _ t1023 _ _ t1026 t1029 t1030 t1031 t954 t955 t956 _ _ t957 _ _ t960 t963 t964 t965 true _ ?side1 ?side2 ?side3 ?side4 ?side5 ?side6 ?side7 ?side8 A131.out).mono ?_); (case side1 => refine (Kd.R_reads' (e := 137) (base := w.heap.size) (ok := fun k_ => ((((True ∧ some k_ ≠ (.slice Ao23 t957.length co23 : Value).ownBlock) ∧ some k_ ≠ (.slice Ao31 t1004.length co31 : Value).ownBlock) ∧ some k_ ≠ (.slice Ao39 t981.length co39 : Value).ownBlock) ∧ some k_ ≠ (.slice Ao120 t1014.length co120 : Value).ownBlock)) (n := t1023.length) (c := co129) ?_).2.2; exact (by (with_reducible repeat (first | apply Kd.R_alloc | apply Kd.R_drewN | apply Kd.R_drew)); exact (Kd.R_mono (Kd.R_far (p := ⟨gb1033, 7, none⟩) (Kd.R_far (p := ⟨gb1033, 6, none⟩) (Kd.R_far (p := ⟨gb1033, 5, none⟩) (Kd.R_far (p := ⟨gb1033, 4, none⟩) (Kd.R_far (p := ⟨gb1033, 3, none⟩) (Kd.R_far (p := ⟨gb1033, 2, none⟩) (Kd.R_far (p := ⟨gb1033, 1, none⟩) (Kd.R_far (p := ⟨gb1033, 0, none⟩) (Kd.R_types HO1025.out BK1033.out (by decide)) (fun _ hk => hk.2) (.int .i64 t1020)) (fun _ hk => hk.2) (.int .i64 t1021)) (fun _ hk => hk.2) (.int .i64 t1022)) (fun _ hk => hk.2) (.slice Ao129 t1023.length co129)) (fun _ hk => hk.2) (.slice Ao130 t1026.length co130)) (fun _ hk => hk.2) (.string t1029)) (fun _ hk => hk.2) (.string t1030)) (fun _ hk => hk.2) (.int .i64 t1031)) (fun _ h_ => h_.1)))); (case side2 => exact (Kd.R_reads' HO1025.out).2.1); (case side3 => refine (Kd.R_reads' (e := 135) (base := w.heap.size) (ok := fun k_ => ((((True ∧ some k_ ≠ (.slice Ao24 t960.length co24 : Value).ownBlock) ∧ some k_ ≠ (.slice Ao32 t1005.length co32 : Value).ownBlock) ∧ some k_ ≠ (.slice Ao40 t984.length co40 : Value).ownBlock) ∧ some k_ ≠ (.slice Ao121 t1017.length co121 : Value).ownBlock)) (n := t1026.length) (c := co130) ?_).2.2; exact (by (with_reducible repeat (first | apply Kd.R_alloc | apply Kd.R_drewN | apply Kd.R_drew)); exact (Kd.R_mono (Kd.R_far (p := ⟨gb1033, 7, none⟩) (Kd.R_far (p := ⟨gb1033, 6, none⟩) (Kd.R_far (p := ⟨gb1033, 5, none⟩) (Kd.R_far (p := ⟨gb1033, 4, none⟩) (Kd.R_far (p := ⟨gb1033, 3, none⟩) (Kd.R_far (p := ⟨gb1033, 2, none⟩) (Kd.R_far (p := ⟨gb1033, 1, none⟩) (Kd.R_far (p := ⟨gb1033, 0, none⟩) (Kd.R_types HO1028.out BK1033.out (by decide)) (fun _ hk => hk.2) (.int .i64 t1020)) (fun _ hk => hk.2) (.int .i64 t1021)) (fun _ hk => hk.2) (.int .i64 t1022)) (fun _ hk => hk.2) (.slice Ao129 t1023.length co129)) (fun _ hk => hk.2) (.slice Ao130 t1026.length co130)) (fun _ hk => hk.2) (.string t1029)) (fun _ hk => hk.2) (.string t1030)) (fun _ hk => hk.2) (.int .i64 t1031)) (fun _ h_ => h_.1)))); (case side4 => exact (Kd.R_reads' HO1028.out).2.1); (case side5 => refine (Kd.R_reads' (e := 137) (base := w.heap.size) (ok := fun k_ => (((some k_ ≠ (.slice Ao31 t1004.length co31 : Value).ownBlock ∧ some k_ ≠ (.slice Ao39 t981.length co39 : Value).ownBlock) ∧ some k_ ≠ (.slice Ao120 t1014.length co120 : Value).ownBlock) ∧ some k_ ≠ (.slice Ao129 t1023.length co129 : Value).ownBlock)) (n := t957.length) (c := co23) ?_).2.2; exact (by (with_reducible repeat (first | apply Kd.R_alloc | apply Kd.R_drewN | apply Kd.R_drew)); exact (Kd.R_mono (Kd.R_far (p := ⟨gb1033, 7, none⟩) (Kd.R_far (p := ⟨gb1033, 6, none⟩) (Kd.R_far (p := ⟨gb1033, 5, none⟩) (Kd.R_far (p := ⟨gb1033, 4, none⟩) (Kd.R_far (p := ⟨gb1033, 3, none⟩) (Kd.R_far (p := ⟨gb1033, 2, none⟩) (Kd.R_far (p := ⟨gb1033, 1, none⟩) (Kd.R_far (p := ⟨gb1033, 0, none⟩) (Kd.R_types HO_968003.out BK1033.out (by decide)) (fun _ hk => hk.2) (.int .i64 t1020)) (fun _ hk => hk.2) (.int .i64 t1021)) (fun _ hk => hk.2) (.int .i64 t1022)) (fun _ hk => hk.2) (.slice Ao129 t1023.length co129)) (fun _ hk => hk.2) (.slice Ao130 t1026.length co130)) (fun _ hk => hk.2) (.string t1029)) (fun _ hk => hk.2) (.string t1030)) (fun _ hk => hk.2) (.int .i64 t1031)) (fun _ h_ => h_.1)))); (case side6 => exact (Kd.R_reads' HO_968003.out).2.1); (case side7 => refine (Kd.R_reads' (e := 135) (base := w.heap.size) (ok := fun k_ => (((some k_ ≠ (.slice Ao32 t1005.length co32 : Value).ownBlock ∧ some k_ ≠ (.slice Ao40 t984.length co40 : Value).ownBlock) ∧ some k_ ≠ (.slice Ao121 t1017.length co121 : Value).ownBlock) ∧ some k_ ≠ (.slice Ao130 t1026.length co130 : Value).ownBlock)) (n := t960.length) (c := co24) ?_).2.2; exact (by (with_reducible repeat (first | apply Kd.R_alloc | apply Kd.R_drewN | apply Kd.R_drew)); exact (Kd.R_mono (Kd.R_far (p := ⟨gb1033, 7, none⟩) (Kd.R_far (p := ⟨gb1033, 6, none⟩) (Kd.R_far (p := ⟨gb1033, 5, none⟩) (Kd.R_far (p := ⟨gb1033, 4, none⟩) (Kd.R_far (p := ⟨gb1033, 3, none⟩) (Kd.R_far (p := ⟨gb1033, 2, none⟩) (Kd.R_far (p := ⟨gb1033, 1, none⟩) (Kd.R_far (p := ⟨gb1033, 0, none⟩) (Kd.R_types HO_968004.out BK1033.out (by decide)) (fun _ hk => hk.2) (.int .i64 t1020)) (fun _ hk => hk.2) (.int .i64 t1021)) (fun _ hk => hk.2) (.int .i64 t1022)) (fun _ hk => hk.2) (.slice Ao129 t1023.length co129)) (fun _ hk => hk.2) (.slice Ao130 t1026.length co130)) (fun _ hk => hk.2) (.string t1029)) (fun _ hk => hk.2) (.string t1030)) (fun _ hk => hk.2) (.int .i64 t1031)) (fun _ h_ => h_.1)))); (case side8 => exact (Kd.R_reads' HO_968004.out).2.1); rintro e w142 ⟨rfl, hb⟩; refine ⟨_, rfl, ?_⟩; have n0_ := Aside0.mk (Kd.R_below (by (with_reducible repeat (first | apply Kd.R_alloc | apply Kd.R_drewN | apply Kd.R_drew)); exact (Kd.R_mono (Kd.R_far (p := ⟨gb1033, 7, none⟩) (Kd.R_far (p := ⟨gb1033, 6, none⟩) (Kd.R_far (p := ⟨gb1033, 5, none⟩) (Kd.R_far (p := ⟨gb1033, 4, none⟩) (Kd.R_far (p := ⟨gb1033, 3, none⟩) (Kd.R_far (p := ⟨gb1033, 2, none⟩) (Kd.R_far (p := ⟨gb1033, 1, none⟩) (Kd.R_far (p := ⟨gb1033, 0, none⟩) (Kd.R_types HO_968003.out BK1033.out (by decide)) (fun _ hk => hk.2) (.int .i64 t1020)) (fun _ hk => hk.2) (.int .i64 t1021)) (fun _ hk => hk.2) (.int .i64 t1022)) (fun _ hk => hk.2) (.slice Ao129 t1023.length co129)) (fun _ hk => hk.2) (.slice Ao130 t1026.length co130)) (fun _ hk => hk.2) (.string t1029)) (fun _ hk => hk.2) (.string t1030)) (fun _ hk => hk.2) (.int .i64 t1031)) (fun _ h_ => h_.1))) hb); have n1_ := Aside0.mk (Kd.R_below (by (with_reducible repeat (first | apply Kd.R_alloc | apply Kd.R_drewN | apply Kd.R_drew)); exact (Kd.R_mono (Kd.R_far (p := ⟨gb1033, 7, none⟩) (Kd.R_far (p := ⟨gb1033, 6, none⟩) (Kd.R_far (p := ⟨gb1033, 5, none⟩) (Kd.R_far (p := ⟨gb1033, 4, none⟩) (Kd.R_far (p := ⟨gb1033, 3, none⟩) (Kd.R_far (p := ⟨gb1033, 2, none⟩) (Kd.R_far (p := ⟨gb1033, 1, none⟩) (Kd.R_far (p := ⟨gb1033, 0, none⟩) (Kd.R_types HO_968004.out BK1033.out (by decide)) (fun _ hk => hk.2) (.int .i64 t1020)) (fun _ hk => hk.2) (.int .i64 t1021)) (fun _ hk => hk.2) (.int .i64 t1022)) (fun _ hk => hk.2) (.slice Ao129 t1023.length co129)) (fun _ hk => hk.2) (.slice Ao130 t1026.length co130)) (fun _ hk => hk.2) (.string t1029)) (fun _ hk => hk.2) (.string t1030)) (fun _ hk => hk.2) (.int .i64 t1031)) (fun _ h_ => h_.1))) hb); have n2_ := Aside0.mk (Kd.R_below (by (with_reducible repeat (first | apply Kd.R_alloc | apply Kd.R_drewN | apply Kd.R_drew)); exact (Kd.R_mono (Kd.R_far (p := ⟨gb1033, 7, none⟩) (Kd.R_far (p := ⟨gb1033, 6, none⟩) (Kd.R_far (p := ⟨gb1033, 5, none⟩) (Kd.R_far (p := ⟨gb1033, 4, none⟩) (Kd.R_far (p := ⟨gb1033, 3, none⟩) (Kd.R_far (p := ⟨gb1033, 2, none⟩) (Kd.R_far (p := ⟨gb1033, 1, none⟩) (Kd.R_far (p := ⟨gb1033, 0, none⟩) (Kd.R_types HO_978003.out BK1033.out (by decide)) (fun _ hk => hk.2) (.int .i64 t1020)) (fun _ hk => hk.2) (.int .i64 t1021)) (fun _ hk => hk.2) (.int .i64 t1022)) (fun _ hk => hk.2) (.slice Ao129 t1023.length co129)) (fun _ hk => hk.2) (.slice Ao130 t1026.length co130)) (fun _ hk => hk.2) (.string t1029)) (fun _ hk => hk.2) (.string t1030)) (fun _ hk => hk.2) (.int .i64 t1031)) (fun _ h_ => h_.1))) hb); have n3_ := Aside0.mk (Kd.R_below (by (with_reducible repeat (first | apply Kd.R_alloc | apply Kd.R_drewN | apply Kd.R_drew)); exact (Kd.R_mono (Kd.R_far (p := ⟨gb1033, 7, none⟩) (Kd.R_far (p := ⟨gb1033, 6, none⟩) (Kd.R_far (p := ⟨gb1033, 5, none⟩) (Kd.R_far (p := ⟨gb1033, 4, none⟩) (Kd.R_far (p := ⟨gb1033, 3, none⟩) (Kd.R_far (p := ⟨gb1033, 2, none⟩) (Kd.R_far (p := ⟨gb1033, 1, none⟩) (Kd.R_far (p := ⟨gb1033, 0, none⟩) (Kd.R_types HO_978004.out BK1033.out (by decide)) (fun _ hk => hk.2) (.int .i64 t1020)) (fun _ hk => hk.2) (.int .i64 t1021)) (fun _ hk => hk.2) (.int .i64 t1022)) (fun _ hk => hk.2) (.slice Ao129 t1023.length co129)) (fun _ hk => hk.2) (.slice Ao130 t1026.length co130)) (fun _ hk => hk.2) (.string t1029)) (fun _ hk => hk.2) (.string t1030)) (fun _ hk => hk.2) (.int .i64 t1031)) (fun _ h_ => h_.1))) hb); have n4_ := Aside0.mk (Kd.R_below (by (with_reducible repeat (first | apply Kd.R_alloc | apply Kd.R_drewN | apply Kd.R_drew)); exact (Kd.R_mono (Kd.R_far (p := ⟨gb1033, 7, none⟩) (Kd.R_far (p := ⟨gb1033, 6, none⟩) (Kd.R_far (p := ⟨gb1033, 5, none⟩) (Kd.R_far (p := ⟨gb1033, 4, none⟩) (Kd.R_far (p := ⟨gb1033, 3, none⟩) (Kd.R_far (p := ⟨gb1033, 2, none⟩) (Kd.R_far (p := ⟨gb1033, 1, none⟩) (Kd.R_far (p := ⟨gb1033, 0, none⟩) (Kd.R_types HO_992003.out BK1033.out (by decide)) (fun _ hk => hk.2) (.int .i64 t1020)) (fun _ hk => hk.2) (.int .i64 t1021)) (fun _ hk => hk.2) (.int .i64 t1022)) (fun _ hk => hk.2) (.slice Ao129 t1023.length co129)) (fun _ hk => hk.2) (.slice Ao130 t1026.length co130)) (fun _ hk => hk.2) (.string t1029)) (fun _ hk => hk.2) (.string t1030)) (fun _ hk => hk.2) (.int .i64 t1031)) (fun _ h_ => h_.1))) hb); have n5_ := Aside0.mk (Kd.R_below (by (with_reducible repeat (first | apply Kd.R_alloc | apply Kd.R_drewN | apply Kd.R_drew)); exact (Kd.R_mono (Kd.R_far (p := ⟨gb1033, 7, none⟩) (Kd.R_far (p := ⟨gb1033, 6, none⟩) (Kd.R_far (p := ⟨gb1033, 5, none⟩) (Kd.R_far (p := ⟨gb1033, 4, none⟩) (Kd.R_far (p := ⟨gb1033, 3, none⟩) (Kd.R_far (p := ⟨gb1033, 2, none⟩) (Kd.R_far (p := ⟨gb1033, 1, none⟩) (Kd.R_far (p := ⟨gb1033, 0, none⟩) (Kd.R_types HO_992004.out BK1033.out (by decide)) (fun _ hk => hk.2) (.int .i64 t1020)) (fun _ hk => hk.2) (.int .i64 t1021)) (fun _ hk => hk.2) (.int .i64 t1022)) (fun _ hk => hk.2) (.slice Ao129 t1023.length co129)) (fun _ hk => hk.2) (.slice Ao130 t1026.length co130)) (fun _ hk => hk.2) (.string t1029)) (fun _ hk => hk.2) (.string t1030)) (fun _ hk => hk.2) (.int .i64 t1031)) (fun _ h_ => h_.1))) hb); have n6_ := Aside0.mk (Kd.R_below (by (with_reducible repeat (first | apply Kd.R_alloc | apply Kd.R_drewN | apply Kd.R_drew)); exact (Kd.R_mono (Kd.R_far (p := ⟨gb1033, 7, none⟩) (Kd.R_far (p := ⟨gb1033, 6, none⟩) (Kd.R_far (p := ⟨gb1033, 5, none⟩) (Kd.R_far (p := ⟨gb1033, 4, none⟩) (Kd.R_far (p := ⟨gb1033, 3, none⟩) (Kd.R_far (p := ⟨gb1033, 2, none⟩) (Kd.R_far (p := ⟨gb1033, 1, none⟩) (Kd.R_far (p := ⟨gb1033, 0, none⟩) (Kd.R_types HO1016.out BK1033.out (by decide)) (fun _ hk => hk.2) (.int .i64 t1020)) (fun _ hk => hk.2) (.int .i64 t1021)) (fun _ hk => hk.2) (.int .i64 t1022)) (fun _ hk => hk.2) (.slice Ao129 t1023.length co129)) (fun _ hk => hk.2) (.slice Ao130 t1026.length co130)) (fun _ hk => hk.2) (.string t1029)) (fun _ hk => hk.2) (.string t1030)) (fun _ hk => hk.2) (.int .i64 t1031)) (fun _ h_ => h_.1))) hb); have n7_ := Aside0.mk (Kd.R_below (by (with_reducible repeat (first | apply Kd.R_alloc | apply Kd.R_drewN | apply Kd.R_drew)); exact (Kd.R_mono (Kd.R_far (p := ⟨gb1033, 7, none⟩) (Kd.R_far (p := ⟨gb1033, 6, none⟩) (Kd.R_far (p := ⟨gb1033, 5, none⟩) (Kd.R_far (p := ⟨gb1033, 4, none⟩) (Kd.R_far (p := ⟨gb1033, 3, none⟩) (Kd.R_far (p := ⟨gb1033, 2, none⟩) (Kd.R_far (p := ⟨gb1033, 1, none⟩) (Kd.R_far (p := ⟨gb1033, 0, none⟩) (Kd.R_types HO1019.out BK1033.out (by decide)) (fun _ hk => hk.2) (.int .i64 t1020)) (fun _ hk => hk.2) (.int .i64 t1021)) (fun _ hk => hk.2) (.int .i64 t1022)) (fun _ hk => hk.2) (.slice Ao129 t1023.length co129)) (fun _ hk => hk.2) (.slice Ao130 t1026.length co130)) (fun _ hk => hk.2) (.string t1029)) (fun _ hk => hk.2) (.string t1030)) (fun _ hk => hk.2) (.int .i64 t1031)) (fun _ h_ => h_.1))) hb); have n8_ := Aside0.mk (Kd.R_below (by (with_reducible repeat (first | apply Kd.R_alloc | apply Kd.R_drewN | apply Kd.R_drew)); exact (Kd.R_mono (Kd.R_far (p := ⟨gb1033, 7, none⟩) (Kd.R_far (p := ⟨gb1033, 6, none⟩) (Kd.R_far (p := ⟨gb1033, 5, none⟩) (Kd.R_far (p := ⟨gb1033, 4, none⟩) (Kd.R_far (p := ⟨gb1033, 3, none⟩) (Kd.R_far (p := ⟨gb1033, 2, none⟩) (Kd.R_far (p := ⟨gb1033, 1, none⟩) (Kd.R_far (p := ⟨gb1033, 0, none⟩) (Kd.R_types HO1025.out BK1033.out (by decide)) (fun _ hk => hk.2) (.int .i64 t1020)) (fun _ hk => hk.2) (.int .i64 t1021)) (fun _ hk => hk.2) (.int .i64 t1022)) (fun _ hk => hk.2) (.slice Ao129 t1023.length co129)) (fun _ hk => hk.2) (.slice Ao130 t1026.length co130)) (fun _ hk => hk.2) (.string t1029)) (fun _ hk => hk.2) (.string t1030)) (fun _ hk => hk.2) (.int .i64 t1031)) (fun _ h_ => h_.1))) hb); have n9_ := Aside0.mk (Kd.R_below (by (with_reducible repeat (first | apply Kd.R_alloc | apply Kd.R_drewN | apply Kd.R_drew)); exact (Kd.R_mono (Kd.R_far (p := ⟨gb1033, 7, none⟩) (Kd.R_far (p := ⟨gb1033, 6, none⟩) (Kd.R_far (p := ⟨gb1033, 5, none⟩) (Kd.R_far (p := ⟨gb1033, 4, none⟩) (Kd.R_far (p := ⟨gb1033, 3, none⟩) (Kd.R_far (p := ⟨gb1033, 2, none⟩) (Kd.R_far (p := ⟨gb1033, 1, none⟩) (Kd.R_far (p := ⟨gb1033, 0, none⟩) (Kd.R_types HO1028.out BK1033.out (by decide)) (fun _ hk => hk.2) (.int .i64 t1020)) (fun _ hk => hk.2) (.int .i64 t1021)) (fun _ hk => hk.2) (.int .i64 t1022)) (fun _ hk => hk.2) (.slice Ao129 t1023.length co129)) (fun _ hk => hk.2) (.slice Ao130 t1026.length co130)) (fun _ hk => hk.2) (.string t1029)) (fun _ hk => hk.2) (.string t1030)) (fun _ hk => hk.2) (.int .i64 t1031)) (fun _ h_ => h_.1))) hb); have n10_ := Aside0.mk (blk_below (g := gb943) (o := .cells #[.int .i64 a0_0, .int .i64 a0_1, .int .i64 a0_2, .slice A0_3 l0_3.length c0_3, .slice A0_4 l0_4.length c0_4] 59 (0, 0)) (by (with_reducible repeat (first | refine blk_drewN ?_ _ | refine blk_drew ?_ | refine blk_alloc ?_ _)); refine blk_far ?_ NB943_1033.out _; (with_reducible repeat (first | refine blk_drewN ?_ _ | refine blk_drew ?_ | refine blk_alloc ?_ _)); refine blk_far ?_ NB943_1033.out _; (with_reducible repeat (first | refine blk_drewN ?_ _ | refine blk_drew ?_ | refine blk_alloc ?_ _)); refine blk_far ?_ NB943_1033.out _; (with_reducible repeat (first | refine blk_drewN ?_ _ | refine blk_drew ?_ | refine blk_alloc ?_ _)); refine blk_far ?_ NB943_1033.out _; (with_reducible repeat (first | refine blk_drewN ?_ _ | refine blk_drew ?_ | refine blk_alloc ?_ _)); refine blk_far ?_ NB943_1033.out _; (with_reducible repeat (first | refine blk_drewN ?_ _ | refine blk_drew ?_ | refine blk_alloc ?_ _)); refine blk_far ?_ NB943_1033.out _; (with_reducible repeat (first | refine blk_drewN ?_ _ | refine blk_drew ?_ | refine blk_alloc ?_ _)); refine blk_far ?_ NB943_1033.out _; (with_reducible repeat (first | refine blk_drewN ?_ _ | refine blk_drew ?_ | refine blk_alloc ?_ _)); refine blk_far ?_ NB943_1033.out _; exact bs BK943.out) hb); have n11_ := Aside0.mk (blk_below (g := gb967) (o := .cells #[.int .i64 t954, .int .i64 t955, .int .i64 t956, .slice Ao23 t957.length co23, .slice Ao24 t960.length co24, .string t963, .string t964, .int .i64 t965] 72 (0, 0)) (by (with_reducible repeat (first | refine blk_drewN ?_ _ | refine blk_drew ?_ | refine blk_alloc ?_ _)); refine blk_far ?_ NB967_1033.out _; (with_reducible repeat (first | refine blk_drewN ?_ _ | refine blk_drew ?_ | refine blk_alloc ?_ _)); refine blk_far ?_ NB967_1033.out _; (with_reducible repeat (first | refine blk_drewN ?_ _ | refine blk_drew ?_ | refine blk_alloc ?_ _)); refine blk_far ?_ NB967_1033.out _; (with_reducible repeat (first | refine blk_drewN ?_ _ | refine blk_drew ?_ | refine blk_alloc ?_ _)); refine blk_far ?_ NB967_1033.out _; (with_reducible repeat (first | refine blk_drewN ?_ _ | refine blk_drew ?_ | refine blk_alloc ?_ _)); refine blk_far ?_ NB967_1033.out _; (with_reducible repeat (first | refine blk_drewN ?_ _ | refine blk_drew ?_ | refine blk_alloc ?_ _)); refine blk_far ?_ NB967_1033.out _; (with_reducible repeat (first | refine blk_drewN ?_ _ | refine blk_drew ?_ | refine blk_alloc ?_ _)); refine blk_far ?_ NB967_1033.out _; (with_reducible repeat (first | refine blk_drewN ?_ _ | refine blk_drew ?_ | refine blk_alloc ?_ _)); refine blk_far ?_ NB967_1033.out _; exact bs BK967.out) hb); have n12_ := Aside0.mk (blk_below (g := gb977) (o := .cells #[.int .i64 t968, .int .i64 t969, .int .i64 t970, .slice Ao31 t1004.length co31, .slice Ao32 t1005.length co32] 25 (0, 0)) (by (with_reducible repeat (first | refine blk_drewN ?_ _ | refine blk_drew ?_ | refine blk_alloc ?_ _)); refine blk_far ?_ NB977_1033.out _; (with_reducible repeat (first | refine blk_drewN ?_ _ | refine blk_drew ?_ | refine blk_alloc ?_ _)); refine blk_far ?_ NB977_1033.out _; (with_reducible repeat (first | refine blk_drewN ?_ _ | refine blk_drew ?_ | refine blk_alloc ?_ _)); refine blk_far ?_ NB977_1033.out _; (with_reducible repeat (first | refine blk_drewN ?_ _ | refine blk_drew ?_ | refine blk_alloc ?_ _)); refine blk_far ?_ NB977_1033.out _; (with_reducible repeat (first | refine blk_drewN ?_ _ | refine blk_drew ?_ | refine blk_alloc ?_ _)); refine blk_far ?_ NB977_1033.out _; (with_reducible repeat (first | refine blk_drewN ?_ _ | refine blk_drew ?_ | refine blk_alloc ?_ _)); refine blk_far ?_ NB977_1033.out _; (with_reducible repeat (first | refine blk_drewN ?_ _ | refine blk_drew ?_ | refine blk_alloc ?_ _)); refine blk_far ?_ NB977_1033.out _; (with_reducible repeat (first | refine blk_drewN ?_ _ | refine blk_drew ?_ | refine blk_alloc ?_ _)); refine blk_far ?_ NB977_1033.out _; exact bs BK977.out) hb); have n13_ := Aside0.mk (blk_below (g := gb991) (o := .cells #[.int .i64 t978, .int .i64 t979, .int .i64 t980, .slice Ao39 t981.length co39, .slice Ao40 t984.length co40, .string t987, .string t988, .int .i64 t989] 72 (0, 0)) (by (with_reducible repeat (first | refine blk_drewN ?_ _ | refine blk_drew ?_ | refine blk_alloc ?_ _)); refine blk_far ?_ NB991_1033.out _; (with_reducible repeat (first | refine blk_drewN ?_ _ | refine blk_drew ?_ | refine blk_alloc ?_ _)); refine blk_far ?_ NB991_1033.out _; (with_reducible repeat (first | refine blk_drewN ?_ _ | refine blk_drew ?_ | refine blk_alloc ?_ _)); refine blk_far ?_ NB991_1033.out _; (with_reducible repeat (first | refine blk_drewN ?_ _ | refine blk_drew ?_ | refine blk_alloc ?_ _)); refine blk_far ?_ NB991_1033.out _; (with_reducible repeat (first | refine blk_drewN ?_ _ | refine blk_drew ?_ | refine blk_alloc ?_ _)); refine blk_far ?_ NB991_1033.out _; (with_reducible repeat (first | refine blk_drewN ?_ _ | refine blk_drew ?_ | refine blk_alloc ?_ _)); refine blk_far ?_ NB991_1033.out _; (with_reducible repeat (first | refine blk_drewN ?_ _ | refine blk_drew ?_ | refine blk_alloc ?_ _)); refine blk_far ?_ NB991_1033.out _; (with_reducible repeat (first | refine blk_drewN ?_ _ | refine blk_drew ?_ | refine blk_alloc ?_ _)); refine blk_far ?_ NB991_1033.out _; exact bs BK991.out) hb); have n14_ := Aside0.mk (blk_below (g := gb1033) (o := .cells #[.int .i64 t1020, .int .i64 t1021, .int .i64 t1022, .slice Ao129 t1023.length co129, .slice Ao130 t1026.length co130, .string t1029, .string t1030, .int .i64 t1031] 72 (0, 0)) (by (with_reducible repeat (first | refine blk_drewN ?_ _ | refine blk_drew ?_ | refine blk_alloc ?_ _)); refine blk_put (cs := #[.int .i64 t1020, .int .i64 t1021, .int .i64 t1022, .slice Ao129 t1023.length co129, .slice Ao130 t1026.length co130, .string t1029, .string t1030, .int .i64 0]) ?_ 7 _ rfl; (with_reducible repeat (first | refine blk_drewN ?_ _ | refine blk_drew ?_ | refine blk_alloc ?_ _)); refine blk_put (cs := #[.int .i64 t1020, .int .i64 t1021, .int .i64 t1022, .slice Ao129 t1023.length co129, .slice Ao130 t1026.length co130, .string t1029, .string (⟨#[]⟩ : ByteArray), .int .i64 0]) ?_ 6 _ rfl; (with_reducible repeat (first | refine blk_drewN ?_ _ | refine blk_drew ?_ | refine blk_alloc ?_ _)); refine blk_put (cs := #[.int .i64 t1020, .int .i64 t1021, .int .i64 t1022, .slice Ao129 t1023.length co129, .slice Ao130 t1026.length co130, .string (⟨#[]⟩ : ByteArray), .string (⟨#[]⟩ : ByteArray), .int .i64 0]) ?_ 5 _ rfl; (with_reducible repeat (first | refine blk_drewN ?_ _ | refine blk_drew ?_ | refine blk_alloc ?_ _)); refine blk_put (cs := #[.int .i64 t1020, .int .i64 t1021, .int .i64 t1022, .slice Ao129 t1023.length co129, .slice none 0 0, .string (⟨#[]⟩ : ByteArray), .string (⟨#[]⟩ : ByteArray), .int .i64 0]) ?_ 4 _ rfl; (with_reducible repeat (first | refine blk_drewN ?_ _ | refine blk_drew ?_ | refine blk_alloc ?_ _)); refine blk_put (cs := #[.int .i64 t1020, .int .i64 t1021, .int .i64 t1022, .slice none 0 0, .slice none 0 0, .string (⟨#[]⟩ : ByteArray), .string (⟨#[]⟩ : ByteArray), .int .i64 0]) ?_ 3 _ rfl; (with_reducible repeat (first | refine blk_drewN ?_ _ | refine blk_drew ?_ | refine blk_alloc ?_ _)); refine blk_put (cs := #[.int .i64 t1020, .int .i64 t1021, .int .i64 0, .slice none 0 0, .slice none 0 0, .string (⟨#[]⟩ : ByteArray), .string (⟨#[]⟩ : ByteArray), .int .i64 0]) ?_ 2 _ rfl; (with_reducible repeat (first | refine blk_drewN ?_ _ | refine blk_drew ?_ | refine blk_alloc ?_ _)); refine blk_put (cs := #[.int .i64 t1020, .int .i64 0, .int .i64 0, .slice none 0 0, .slice none 0 0, .string (⟨#[]⟩ : ByteArray), .string (⟨#[]⟩ : ByteArray), .int .i64 0]) ?_ 1 _ rfl; (with_reducible repeat (first | refine blk_drewN ?_ _ | refine blk_drew ?_ | refine blk_alloc ?_ _)); refine blk_put (cs := #[.int .i64 0, .int .i64 0, .int .i64 0, .slice none 0 0, .slice none 0 0, .string (⟨#[]⟩ : ByteArray), .string (⟨#[]⟩ : ByteArray), .int .i64 0]) ?_ 0 _ rfl; exact bs BK1033.out) hb); have n15_ := Aside0.mk (below_step (by repeat (first | (with_reducible first | exact bw HB.out | refine bset ?_ | apply bA | apply bN | apply bD) | exact HB.out)) hb); replace HO_968003 := n0_; replace HO_968004 := n1_; replace HO_978003 := n2_; replace HO_978004 := n3_; replace HO_992003 := n4_; replace HO_992004 := n5_; replace HO1016 := n6_; replace HO1019 := n7_; replace HO1025 := n8_; replace HO1028 := n9_; replace BK943 := n10_; replace BK967 := n11_; replace BK977 := n12_; replace BK991 := n13_; replace BK1033 := n14_; replace HB := n15_; clear n0_ n1_ n2_ n3_ n4_ n5_ n6_ n7_ n8_ n9_ n10_ n11_ n12_ n13_ n14_ n15_; (try clear hb); (try clear hb2); (try clear hk); (try clear hi)))
       go_meet
       case rel => exact ⟨_, ((t1032 != t966)), (by first | rfl | (simp; done) | (simp [*]; done)), H', ⟨by have := HJ10.out; have := HJ63.out; first | omega | exact Nat.le_refl _⟩, ⟨by (try simp only [hl978003_63]); (try simp only [hl978004_63]); (with_reducible repeat (first | apply Kd.R_alloc | apply Kd.R_drewN | apply Kd.R_drew)); exact Kd.R_mono HO_968003.out (fun _ hk => ⟨hk.1.1.1, ⟨hk.1.1.2, hk.2⟩⟩)⟩, ⟨by (try simp only [hl978003_63]); (try simp only [hl978004_63]); (with_reducible repeat (first | apply Kd.R_alloc | apply Kd.R_drewN | apply Kd.R_drew)); exact Kd.R_mono HO_968004.out (fun _ hk => ⟨hk.1.1.1, ⟨hk.1.1.2, hk.2⟩⟩)⟩, ⟨by (try simp only [hl978003_63]); (try simp only [hl978004_63]); (with_reducible repeat (first | apply Kd.R_alloc | apply Kd.R_drewN | apply Kd.R_drew)); exact Kd.R_mono HO_978003.out (fun _ hk => ⟨hk.1.1.1, ⟨hk.1.1.2, hk.2⟩⟩)⟩, ⟨by (try simp only [hl978003_63]); (try simp only [hl978004_63]); (with_reducible repeat (first | apply Kd.R_alloc | apply Kd.R_drewN | apply Kd.R_drew)); exact Kd.R_mono HO_978004.out (fun _ hk => ⟨hk.1.1.1, ⟨hk.1.1.2, hk.2⟩⟩)⟩, ⟨by (try simp only [hl978003_63]); (try simp only [hl978004_63]); (with_reducible repeat (first | apply Kd.R_alloc | apply Kd.R_drewN | apply Kd.R_drew)); exact Kd.R_mono HO_992003.out (fun _ hk => ⟨hk.1.1.1, ⟨hk.1.1.2, hk.2⟩⟩)⟩, ⟨by (try simp only [hl978003_63]); (try simp only [hl978004_63]); (with_reducible repeat (first | apply Kd.R_alloc | apply Kd.R_drewN | apply Kd.R_drew)); exact Kd.R_mono HO_992004.out (fun _ hk => ⟨hk.1.1.1, ⟨hk.1.1.2, hk.2⟩⟩)⟩, ⟨by (try simp only [hl978003_63]); (try simp only [hl978004_63]); (with_reducible repeat (first | apply Kd.R_alloc | apply Kd.R_drewN | apply Kd.R_drew)); exact Kd.R_mono HO1025.out (fun _ hk => ⟨hk.1.1.1.2, ⟨hk.1.1.2, hk.1.2⟩⟩)⟩, ⟨by (try simp only [hl978003_63]); (try simp only [hl978004_63]); (with_reducible repeat (first | apply Kd.R_alloc | apply Kd.R_drewN | apply Kd.R_drew)); exact Kd.R_mono HO1028.out (fun _ hk => ⟨hk.1.1.1.2, ⟨hk.1.1.2, hk.1.2⟩⟩)⟩, ⟨by (try simp only [hl978003_63]); (try simp only [hl978004_63]); exact bs BK943.out⟩, ⟨by (try simp only [hl978003_63]); (try simp only [hl978004_63]); exact bs BK967.out⟩, ⟨by (try simp only [hl978003_63]); (try simp only [hl978004_63]); exact bs BK977.out⟩, ⟨by (try simp only [hl978003_63]); (try simp only [hl978004_63]); exact bs BK991.out⟩, ⟨by (try simp only [hl978003_63]); (try simp only [hl978004_63]); exact bs BK1033.out⟩, ⟨by repeat (first | (with_reducible first | exact bw HB.out | refine bset ?_ | apply bA | apply bN | apply bD) | exact HB.out)⟩⟩
      replace c132 := Bool.eq_false_iff.mpr c132
      subst c132
      have H1 : (laws_FnExactNewConsole.j2 kj63 t1007 true t978 t979 t980 t1008 t1009 t987 t988 t989) = some r := by rw [if_neg (show ¬ (false = true) by decide)] at H; exact H
      clear H
      have H := H1
      clear H1
      have H' := Aside0.mk H
      clear H
      have hnb143 := NB1033_943.out
      have hnc143 := NB943_1033.out
      have hnb144 := NB1033_967.out
      have hnc144 := NB967_1033.out
      have hnb145 := NB1033_977.out
      have hnc145 := NB977_1033.out
      have hnb146 := NB1033_991.out
      have hnc146 := NB991_1033.out
      obtain ⟨hcz147_0, hcz147_1, hcz147_2, hcz147_3, hcz147_4, hcz147_5, hcz147_6, hcz147_7, hfz147_0, hfz147_1, hfz147_2, hfz147_3, hfz147_4, hfz147_5, hfz147_6, hfz147_7⟩ := bz8 BK1033.out
      have hnb148 := NB967_943.out
      have hnc148 := NB943_967.out
      have hnb149 := NB967_977.out
      have hnc149 := NB977_967.out
      have hnb150 := NB967_991.out
      have hnc150 := NB991_967.out
      obtain ⟨hcz151_0, hcz151_1, hcz151_2, hcz151_3, hcz151_4, hcz151_5, hcz151_6, hcz151_7, hfz151_0, hfz151_1, hfz151_2, hfz151_3, hfz151_4, hfz151_5, hfz151_6, hfz151_7⟩ := bz8 BK967.out
      go_wp2_with (first | ((with_reducible refine gate_callee (f := 52) rfl ?_); refine goesL_ (some 81) rfl rfl Try.func52 (by kernel_rfl) rfl #[.agg #[.int .i64 t1020, .int .i64 t1021, .int .i64 t1022, .slice Ao129 t1023.length co129, .slice Ao130 t1026.length co130, .string t1029, .string t1030, .int .i64 t1031], .agg #[.int .i64 t954, .int .i64 t955, .int .i64 t956, .slice Ao23 t957.length co23, .slice Ao24 t960.length co24, .string t963, .string t964, .int .i64 t965]] rfl (by (try simp only [mA_]); first | done | rfl | (simp only [List.length_drop, List.length_take]; rfl)) ?_; (with_reducible refine (laws_eqConsole.calls kj63 t1020 t1021 t1022 _ _ t1023 _ _ t1026 t1029 t1030 t1031 t954 t955 t956 _ _ t957 _ _ t960 t963 t964 t965 false _ ?side1 ?side2 ?side3 ?side4 ?side5 ?side6 ?side7 ?side8 A131.out).mono ?_); (case side1 => refine (Kd.R_reads' (e := 137) (base := w.heap.size) (ok := fun k_ => ((((True ∧ some k_ ≠ (.slice Ao23 t957.length co23 : Value).ownBlock) ∧ some k_ ≠ (.slice Ao31 t1004.length co31 : Value).ownBlock) ∧ some k_ ≠ (.slice Ao39 t981.length co39 : Value).ownBlock) ∧ some k_ ≠ (.slice Ao120 t1014.length co120 : Value).ownBlock)) (n := t1023.length) (c := co129) ?_).2.2; exact (by (with_reducible repeat (first | apply Kd.R_alloc | apply Kd.R_drewN | apply Kd.R_drew)); exact (Kd.R_mono (Kd.R_far (p := ⟨gb1033, 7, none⟩) (Kd.R_far (p := ⟨gb1033, 6, none⟩) (Kd.R_far (p := ⟨gb1033, 5, none⟩) (Kd.R_far (p := ⟨gb1033, 4, none⟩) (Kd.R_far (p := ⟨gb1033, 3, none⟩) (Kd.R_far (p := ⟨gb1033, 2, none⟩) (Kd.R_far (p := ⟨gb1033, 1, none⟩) (Kd.R_far (p := ⟨gb1033, 0, none⟩) (Kd.R_types HO1025.out BK1033.out (by decide)) (fun _ hk => hk.2) (.int .i64 t1020)) (fun _ hk => hk.2) (.int .i64 t1021)) (fun _ hk => hk.2) (.int .i64 t1022)) (fun _ hk => hk.2) (.slice Ao129 t1023.length co129)) (fun _ hk => hk.2) (.slice Ao130 t1026.length co130)) (fun _ hk => hk.2) (.string t1029)) (fun _ hk => hk.2) (.string t1030)) (fun _ hk => hk.2) (.int .i64 t1031)) (fun _ h_ => h_.1)))); (case side2 => exact (Kd.R_reads' HO1025.out).2.1); (case side3 => refine (Kd.R_reads' (e := 135) (base := w.heap.size) (ok := fun k_ => ((((True ∧ some k_ ≠ (.slice Ao24 t960.length co24 : Value).ownBlock) ∧ some k_ ≠ (.slice Ao32 t1005.length co32 : Value).ownBlock) ∧ some k_ ≠ (.slice Ao40 t984.length co40 : Value).ownBlock) ∧ some k_ ≠ (.slice Ao121 t1017.length co121 : Value).ownBlock)) (n := t1026.length) (c := co130) ?_).2.2; exact (by (with_reducible repeat (first | apply Kd.R_alloc | apply Kd.R_drewN | apply Kd.R_drew)); exact (Kd.R_mono (Kd.R_far (p := ⟨gb1033, 7, none⟩) (Kd.R_far (p := ⟨gb1033, 6, none⟩) (Kd.R_far (p := ⟨gb1033, 5, none⟩) (Kd.R_far (p := ⟨gb1033, 4, none⟩) (Kd.R_far (p := ⟨gb1033, 3, none⟩) (Kd.R_far (p := ⟨gb1033, 2, none⟩) (Kd.R_far (p := ⟨gb1033, 1, none⟩) (Kd.R_far (p := ⟨gb1033, 0, none⟩) (Kd.R_types HO1028.out BK1033.out (by decide)) (fun _ hk => hk.2) (.int .i64 t1020)) (fun _ hk => hk.2) (.int .i64 t1021)) (fun _ hk => hk.2) (.int .i64 t1022)) (fun _ hk => hk.2) (.slice Ao129 t1023.length co129)) (fun _ hk => hk.2) (.slice Ao130 t1026.length co130)) (fun _ hk => hk.2) (.string t1029)) (fun _ hk => hk.2) (.string t1030)) (fun _ hk => hk.2) (.int .i64 t1031)) (fun _ h_ => h_.1)))); (case side4 => exact (Kd.R_reads' HO1028.out).2.1); (case side5 => refine (Kd.R_reads' (e := 137) (base := w.heap.size) (ok := fun k_ => (((some k_ ≠ (.slice Ao31 t1004.length co31 : Value).ownBlock ∧ some k_ ≠ (.slice Ao39 t981.length co39 : Value).ownBlock) ∧ some k_ ≠ (.slice Ao120 t1014.length co120 : Value).ownBlock) ∧ some k_ ≠ (.slice Ao129 t1023.length co129 : Value).ownBlock)) (n := t957.length) (c := co23) ?_).2.2; exact (by (with_reducible repeat (first | apply Kd.R_alloc | apply Kd.R_drewN | apply Kd.R_drew)); exact (Kd.R_mono (Kd.R_far (p := ⟨gb1033, 7, none⟩) (Kd.R_far (p := ⟨gb1033, 6, none⟩) (Kd.R_far (p := ⟨gb1033, 5, none⟩) (Kd.R_far (p := ⟨gb1033, 4, none⟩) (Kd.R_far (p := ⟨gb1033, 3, none⟩) (Kd.R_far (p := ⟨gb1033, 2, none⟩) (Kd.R_far (p := ⟨gb1033, 1, none⟩) (Kd.R_far (p := ⟨gb1033, 0, none⟩) (Kd.R_types HO_968003.out BK1033.out (by decide)) (fun _ hk => hk.2) (.int .i64 t1020)) (fun _ hk => hk.2) (.int .i64 t1021)) (fun _ hk => hk.2) (.int .i64 t1022)) (fun _ hk => hk.2) (.slice Ao129 t1023.length co129)) (fun _ hk => hk.2) (.slice Ao130 t1026.length co130)) (fun _ hk => hk.2) (.string t1029)) (fun _ hk => hk.2) (.string t1030)) (fun _ hk => hk.2) (.int .i64 t1031)) (fun _ h_ => h_.1)))); (case side6 => exact (Kd.R_reads' HO_968003.out).2.1); (case side7 => refine (Kd.R_reads' (e := 135) (base := w.heap.size) (ok := fun k_ => (((some k_ ≠ (.slice Ao32 t1005.length co32 : Value).ownBlock ∧ some k_ ≠ (.slice Ao40 t984.length co40 : Value).ownBlock) ∧ some k_ ≠ (.slice Ao121 t1017.length co121 : Value).ownBlock) ∧ some k_ ≠ (.slice Ao130 t1026.length co130 : Value).ownBlock)) (n := t960.length) (c := co24) ?_).2.2; exact (by (with_reducible repeat (first | apply Kd.R_alloc | apply Kd.R_drewN | apply Kd.R_drew)); exact (Kd.R_mono (Kd.R_far (p := ⟨gb1033, 7, none⟩) (Kd.R_far (p := ⟨gb1033, 6, none⟩) (Kd.R_far (p := ⟨gb1033, 5, none⟩) (Kd.R_far (p := ⟨gb1033, 4, none⟩) (Kd.R_far (p := ⟨gb1033, 3, none⟩) (Kd.R_far (p := ⟨gb1033, 2, none⟩) (Kd.R_far (p := ⟨gb1033, 1, none⟩) (Kd.R_far (p := ⟨gb1033, 0, none⟩) (Kd.R_types HO_968004.out BK1033.out (by decide)) (fun _ hk => hk.2) (.int .i64 t1020)) (fun _ hk => hk.2) (.int .i64 t1021)) (fun _ hk => hk.2) (.int .i64 t1022)) (fun _ hk => hk.2) (.slice Ao129 t1023.length co129)) (fun _ hk => hk.2) (.slice Ao130 t1026.length co130)) (fun _ hk => hk.2) (.string t1029)) (fun _ hk => hk.2) (.string t1030)) (fun _ hk => hk.2) (.int .i64 t1031)) (fun _ h_ => h_.1)))); (case side8 => exact (Kd.R_reads' HO_968004.out).2.1); rintro e w152 ⟨rfl, hb⟩; refine ⟨_, rfl, ?_⟩; have n0_ := Aside0.mk (Kd.R_below (by (with_reducible repeat (first | apply Kd.R_alloc | apply Kd.R_drewN | apply Kd.R_drew)); exact (Kd.R_mono (Kd.R_far (p := ⟨gb1033, 7, none⟩) (Kd.R_far (p := ⟨gb1033, 6, none⟩) (Kd.R_far (p := ⟨gb1033, 5, none⟩) (Kd.R_far (p := ⟨gb1033, 4, none⟩) (Kd.R_far (p := ⟨gb1033, 3, none⟩) (Kd.R_far (p := ⟨gb1033, 2, none⟩) (Kd.R_far (p := ⟨gb1033, 1, none⟩) (Kd.R_far (p := ⟨gb1033, 0, none⟩) (Kd.R_types HO_968003.out BK1033.out (by decide)) (fun _ hk => hk.2) (.int .i64 t1020)) (fun _ hk => hk.2) (.int .i64 t1021)) (fun _ hk => hk.2) (.int .i64 t1022)) (fun _ hk => hk.2) (.slice Ao129 t1023.length co129)) (fun _ hk => hk.2) (.slice Ao130 t1026.length co130)) (fun _ hk => hk.2) (.string t1029)) (fun _ hk => hk.2) (.string t1030)) (fun _ hk => hk.2) (.int .i64 t1031)) (fun _ h_ => h_.1))) hb); have n1_ := Aside0.mk (Kd.R_below (by (with_reducible repeat (first | apply Kd.R_alloc | apply Kd.R_drewN | apply Kd.R_drew)); exact (Kd.R_mono (Kd.R_far (p := ⟨gb1033, 7, none⟩) (Kd.R_far (p := ⟨gb1033, 6, none⟩) (Kd.R_far (p := ⟨gb1033, 5, none⟩) (Kd.R_far (p := ⟨gb1033, 4, none⟩) (Kd.R_far (p := ⟨gb1033, 3, none⟩) (Kd.R_far (p := ⟨gb1033, 2, none⟩) (Kd.R_far (p := ⟨gb1033, 1, none⟩) (Kd.R_far (p := ⟨gb1033, 0, none⟩) (Kd.R_types HO_968004.out BK1033.out (by decide)) (fun _ hk => hk.2) (.int .i64 t1020)) (fun _ hk => hk.2) (.int .i64 t1021)) (fun _ hk => hk.2) (.int .i64 t1022)) (fun _ hk => hk.2) (.slice Ao129 t1023.length co129)) (fun _ hk => hk.2) (.slice Ao130 t1026.length co130)) (fun _ hk => hk.2) (.string t1029)) (fun _ hk => hk.2) (.string t1030)) (fun _ hk => hk.2) (.int .i64 t1031)) (fun _ h_ => h_.1))) hb); have n2_ := Aside0.mk (Kd.R_below (by (with_reducible repeat (first | apply Kd.R_alloc | apply Kd.R_drewN | apply Kd.R_drew)); exact (Kd.R_mono (Kd.R_far (p := ⟨gb1033, 7, none⟩) (Kd.R_far (p := ⟨gb1033, 6, none⟩) (Kd.R_far (p := ⟨gb1033, 5, none⟩) (Kd.R_far (p := ⟨gb1033, 4, none⟩) (Kd.R_far (p := ⟨gb1033, 3, none⟩) (Kd.R_far (p := ⟨gb1033, 2, none⟩) (Kd.R_far (p := ⟨gb1033, 1, none⟩) (Kd.R_far (p := ⟨gb1033, 0, none⟩) (Kd.R_types HO_978003.out BK1033.out (by decide)) (fun _ hk => hk.2) (.int .i64 t1020)) (fun _ hk => hk.2) (.int .i64 t1021)) (fun _ hk => hk.2) (.int .i64 t1022)) (fun _ hk => hk.2) (.slice Ao129 t1023.length co129)) (fun _ hk => hk.2) (.slice Ao130 t1026.length co130)) (fun _ hk => hk.2) (.string t1029)) (fun _ hk => hk.2) (.string t1030)) (fun _ hk => hk.2) (.int .i64 t1031)) (fun _ h_ => h_.1))) hb); have n3_ := Aside0.mk (Kd.R_below (by (with_reducible repeat (first | apply Kd.R_alloc | apply Kd.R_drewN | apply Kd.R_drew)); exact (Kd.R_mono (Kd.R_far (p := ⟨gb1033, 7, none⟩) (Kd.R_far (p := ⟨gb1033, 6, none⟩) (Kd.R_far (p := ⟨gb1033, 5, none⟩) (Kd.R_far (p := ⟨gb1033, 4, none⟩) (Kd.R_far (p := ⟨gb1033, 3, none⟩) (Kd.R_far (p := ⟨gb1033, 2, none⟩) (Kd.R_far (p := ⟨gb1033, 1, none⟩) (Kd.R_far (p := ⟨gb1033, 0, none⟩) (Kd.R_types HO_978004.out BK1033.out (by decide)) (fun _ hk => hk.2) (.int .i64 t1020)) (fun _ hk => hk.2) (.int .i64 t1021)) (fun _ hk => hk.2) (.int .i64 t1022)) (fun _ hk => hk.2) (.slice Ao129 t1023.length co129)) (fun _ hk => hk.2) (.slice Ao130 t1026.length co130)) (fun _ hk => hk.2) (.string t1029)) (fun _ hk => hk.2) (.string t1030)) (fun _ hk => hk.2) (.int .i64 t1031)) (fun _ h_ => h_.1))) hb); have n4_ := Aside0.mk (Kd.R_below (by (with_reducible repeat (first | apply Kd.R_alloc | apply Kd.R_drewN | apply Kd.R_drew)); exact (Kd.R_mono (Kd.R_far (p := ⟨gb1033, 7, none⟩) (Kd.R_far (p := ⟨gb1033, 6, none⟩) (Kd.R_far (p := ⟨gb1033, 5, none⟩) (Kd.R_far (p := ⟨gb1033, 4, none⟩) (Kd.R_far (p := ⟨gb1033, 3, none⟩) (Kd.R_far (p := ⟨gb1033, 2, none⟩) (Kd.R_far (p := ⟨gb1033, 1, none⟩) (Kd.R_far (p := ⟨gb1033, 0, none⟩) (Kd.R_types HO_992003.out BK1033.out (by decide)) (fun _ hk => hk.2) (.int .i64 t1020)) (fun _ hk => hk.2) (.int .i64 t1021)) (fun _ hk => hk.2) (.int .i64 t1022)) (fun _ hk => hk.2) (.slice Ao129 t1023.length co129)) (fun _ hk => hk.2) (.slice Ao130 t1026.length co130)) (fun _ hk => hk.2) (.string t1029)) (fun _ hk => hk.2) (.string t1030)) (fun _ hk => hk.2) (.int .i64 t1031)) (fun _ h_ => h_.1))) hb); have n5_ := Aside0.mk (Kd.R_below (by (with_reducible repeat (first | apply Kd.R_alloc | apply Kd.R_drewN | apply Kd.R_drew)); exact (Kd.R_mono (Kd.R_far (p := ⟨gb1033, 7, none⟩) (Kd.R_far (p := ⟨gb1033, 6, none⟩) (Kd.R_far (p := ⟨gb1033, 5, none⟩) (Kd.R_far (p := ⟨gb1033, 4, none⟩) (Kd.R_far (p := ⟨gb1033, 3, none⟩) (Kd.R_far (p := ⟨gb1033, 2, none⟩) (Kd.R_far (p := ⟨gb1033, 1, none⟩) (Kd.R_far (p := ⟨gb1033, 0, none⟩) (Kd.R_types HO_992004.out BK1033.out (by decide)) (fun _ hk => hk.2) (.int .i64 t1020)) (fun _ hk => hk.2) (.int .i64 t1021)) (fun _ hk => hk.2) (.int .i64 t1022)) (fun _ hk => hk.2) (.slice Ao129 t1023.length co129)) (fun _ hk => hk.2) (.slice Ao130 t1026.length co130)) (fun _ hk => hk.2) (.string t1029)) (fun _ hk => hk.2) (.string t1030)) (fun _ hk => hk.2) (.int .i64 t1031)) (fun _ h_ => h_.1))) hb); have n6_ := Aside0.mk (Kd.R_below (by (with_reducible repeat (first | apply Kd.R_alloc | apply Kd.R_drewN | apply Kd.R_drew)); exact (Kd.R_mono (Kd.R_far (p := ⟨gb1033, 7, none⟩) (Kd.R_far (p := ⟨gb1033, 6, none⟩) (Kd.R_far (p := ⟨gb1033, 5, none⟩) (Kd.R_far (p := ⟨gb1033, 4, none⟩) (Kd.R_far (p := ⟨gb1033, 3, none⟩) (Kd.R_far (p := ⟨gb1033, 2, none⟩) (Kd.R_far (p := ⟨gb1033, 1, none⟩) (Kd.R_far (p := ⟨gb1033, 0, none⟩) (Kd.R_types HO1016.out BK1033.out (by decide)) (fun _ hk => hk.2) (.int .i64 t1020)) (fun _ hk => hk.2) (.int .i64 t1021)) (fun _ hk => hk.2) (.int .i64 t1022)) (fun _ hk => hk.2) (.slice Ao129 t1023.length co129)) (fun _ hk => hk.2) (.slice Ao130 t1026.length co130)) (fun _ hk => hk.2) (.string t1029)) (fun _ hk => hk.2) (.string t1030)) (fun _ hk => hk.2) (.int .i64 t1031)) (fun _ h_ => h_.1))) hb); have n7_ := Aside0.mk (Kd.R_below (by (with_reducible repeat (first | apply Kd.R_alloc | apply Kd.R_drewN | apply Kd.R_drew)); exact (Kd.R_mono (Kd.R_far (p := ⟨gb1033, 7, none⟩) (Kd.R_far (p := ⟨gb1033, 6, none⟩) (Kd.R_far (p := ⟨gb1033, 5, none⟩) (Kd.R_far (p := ⟨gb1033, 4, none⟩) (Kd.R_far (p := ⟨gb1033, 3, none⟩) (Kd.R_far (p := ⟨gb1033, 2, none⟩) (Kd.R_far (p := ⟨gb1033, 1, none⟩) (Kd.R_far (p := ⟨gb1033, 0, none⟩) (Kd.R_types HO1019.out BK1033.out (by decide)) (fun _ hk => hk.2) (.int .i64 t1020)) (fun _ hk => hk.2) (.int .i64 t1021)) (fun _ hk => hk.2) (.int .i64 t1022)) (fun _ hk => hk.2) (.slice Ao129 t1023.length co129)) (fun _ hk => hk.2) (.slice Ao130 t1026.length co130)) (fun _ hk => hk.2) (.string t1029)) (fun _ hk => hk.2) (.string t1030)) (fun _ hk => hk.2) (.int .i64 t1031)) (fun _ h_ => h_.1))) hb); have n8_ := Aside0.mk (Kd.R_below (by (with_reducible repeat (first | apply Kd.R_alloc | apply Kd.R_drewN | apply Kd.R_drew)); exact (Kd.R_mono (Kd.R_far (p := ⟨gb1033, 7, none⟩) (Kd.R_far (p := ⟨gb1033, 6, none⟩) (Kd.R_far (p := ⟨gb1033, 5, none⟩) (Kd.R_far (p := ⟨gb1033, 4, none⟩) (Kd.R_far (p := ⟨gb1033, 3, none⟩) (Kd.R_far (p := ⟨gb1033, 2, none⟩) (Kd.R_far (p := ⟨gb1033, 1, none⟩) (Kd.R_far (p := ⟨gb1033, 0, none⟩) (Kd.R_types HO1025.out BK1033.out (by decide)) (fun _ hk => hk.2) (.int .i64 t1020)) (fun _ hk => hk.2) (.int .i64 t1021)) (fun _ hk => hk.2) (.int .i64 t1022)) (fun _ hk => hk.2) (.slice Ao129 t1023.length co129)) (fun _ hk => hk.2) (.slice Ao130 t1026.length co130)) (fun _ hk => hk.2) (.string t1029)) (fun _ hk => hk.2) (.string t1030)) (fun _ hk => hk.2) (.int .i64 t1031)) (fun _ h_ => h_.1))) hb); have n9_ := Aside0.mk (Kd.R_below (by (with_reducible repeat (first | apply Kd.R_alloc | apply Kd.R_drewN | apply Kd.R_drew)); exact (Kd.R_mono (Kd.R_far (p := ⟨gb1033, 7, none⟩) (Kd.R_far (p := ⟨gb1033, 6, none⟩) (Kd.R_far (p := ⟨gb1033, 5, none⟩) (Kd.R_far (p := ⟨gb1033, 4, none⟩) (Kd.R_far (p := ⟨gb1033, 3, none⟩) (Kd.R_far (p := ⟨gb1033, 2, none⟩) (Kd.R_far (p := ⟨gb1033, 1, none⟩) (Kd.R_far (p := ⟨gb1033, 0, none⟩) (Kd.R_types HO1028.out BK1033.out (by decide)) (fun _ hk => hk.2) (.int .i64 t1020)) (fun _ hk => hk.2) (.int .i64 t1021)) (fun _ hk => hk.2) (.int .i64 t1022)) (fun _ hk => hk.2) (.slice Ao129 t1023.length co129)) (fun _ hk => hk.2) (.slice Ao130 t1026.length co130)) (fun _ hk => hk.2) (.string t1029)) (fun _ hk => hk.2) (.string t1030)) (fun _ hk => hk.2) (.int .i64 t1031)) (fun _ h_ => h_.1))) hb); have n10_ := Aside0.mk (blk_below (g := gb943) (o := .cells #[.int .i64 a0_0, .int .i64 a0_1, .int .i64 a0_2, .slice A0_3 l0_3.length c0_3, .slice A0_4 l0_4.length c0_4] 59 (0, 0)) (by (with_reducible repeat (first | refine blk_drewN ?_ _ | refine blk_drew ?_ | refine blk_alloc ?_ _)); refine blk_far ?_ NB943_1033.out _; (with_reducible repeat (first | refine blk_drewN ?_ _ | refine blk_drew ?_ | refine blk_alloc ?_ _)); refine blk_far ?_ NB943_1033.out _; (with_reducible repeat (first | refine blk_drewN ?_ _ | refine blk_drew ?_ | refine blk_alloc ?_ _)); refine blk_far ?_ NB943_1033.out _; (with_reducible repeat (first | refine blk_drewN ?_ _ | refine blk_drew ?_ | refine blk_alloc ?_ _)); refine blk_far ?_ NB943_1033.out _; (with_reducible repeat (first | refine blk_drewN ?_ _ | refine blk_drew ?_ | refine blk_alloc ?_ _)); refine blk_far ?_ NB943_1033.out _; (with_reducible repeat (first | refine blk_drewN ?_ _ | refine blk_drew ?_ | refine blk_alloc ?_ _)); refine blk_far ?_ NB943_1033.out _; (with_reducible repeat (first | refine blk_drewN ?_ _ | refine blk_drew ?_ | refine blk_alloc ?_ _)); refine blk_far ?_ NB943_1033.out _; (with_reducible repeat (first | refine blk_drewN ?_ _ | refine blk_drew ?_ | refine blk_alloc ?_ _)); refine blk_far ?_ NB943_1033.out _; exact bs BK943.out) hb); have n11_ := Aside0.mk (blk_below (g := gb967) (o := .cells #[.int .i64 t954, .int .i64 t955, .int .i64 t956, .slice Ao23 t957.length co23, .slice Ao24 t960.length co24, .string t963, .string t964, .int .i64 t965] 72 (0, 0)) (by (with_reducible repeat (first | refine blk_drewN ?_ _ | refine blk_drew ?_ | refine blk_alloc ?_ _)); refine blk_far ?_ NB967_1033.out _; (with_reducible repeat (first | refine blk_drewN ?_ _ | refine blk_drew ?_ | refine blk_alloc ?_ _)); refine blk_far ?_ NB967_1033.out _; (with_reducible repeat (first | refine blk_drewN ?_ _ | refine blk_drew ?_ | refine blk_alloc ?_ _)); refine blk_far ?_ NB967_1033.out _; (with_reducible repeat (first | refine blk_drewN ?_ _ | refine blk_drew ?_ | refine blk_alloc ?_ _)); refine blk_far ?_ NB967_1033.out _; (with_reducible repeat (first | refine blk_drewN ?_ _ | refine blk_drew ?_ | refine blk_alloc ?_ _)); refine blk_far ?_ NB967_1033.out _; (with_reducible repeat (first | refine blk_drewN ?_ _ | refine blk_drew ?_ | refine blk_alloc ?_ _)); refine blk_far ?_ NB967_1033.out _; (with_reducible repeat (first | refine blk_drewN ?_ _ | refine blk_drew ?_ | refine blk_alloc ?_ _)); refine blk_far ?_ NB967_1033.out _; (with_reducible repeat (first | refine blk_drewN ?_ _ | refine blk_drew ?_ | refine blk_alloc ?_ _)); refine blk_far ?_ NB967_1033.out _; exact bs BK967.out) hb); have n12_ := Aside0.mk (blk_below (g := gb977) (o := .cells #[.int .i64 t968, .int .i64 t969, .int .i64 t970, .slice Ao31 t1004.length co31, .slice Ao32 t1005.length co32] 25 (0, 0)) (by (with_reducible repeat (first | refine blk_drewN ?_ _ | refine blk_drew ?_ | refine blk_alloc ?_ _)); refine blk_far ?_ NB977_1033.out _; (with_reducible repeat (first | refine blk_drewN ?_ _ | refine blk_drew ?_ | refine blk_alloc ?_ _)); refine blk_far ?_ NB977_1033.out _; (with_reducible repeat (first | refine blk_drewN ?_ _ | refine blk_drew ?_ | refine blk_alloc ?_ _)); refine blk_far ?_ NB977_1033.out _; (with_reducible repeat (first | refine blk_drewN ?_ _ | refine blk_drew ?_ | refine blk_alloc ?_ _)); refine blk_far ?_ NB977_1033.out _; (with_reducible repeat (first | refine blk_drewN ?_ _ | refine blk_drew ?_ | refine blk_alloc ?_ _)); refine blk_far ?_ NB977_1033.out _; (with_reducible repeat (first | refine blk_drewN ?_ _ | refine blk_drew ?_ | refine blk_alloc ?_ _)); refine blk_far ?_ NB977_1033.out _; (with_reducible repeat (first | refine blk_drewN ?_ _ | refine blk_drew ?_ | refine blk_alloc ?_ _)); refine blk_far ?_ NB977_1033.out _; (with_reducible repeat (first | refine blk_drewN ?_ _ | refine blk_drew ?_ | refine blk_alloc ?_ _)); refine blk_far ?_ NB977_1033.out _; exact bs BK977.out) hb); have n13_ := Aside0.mk (blk_below (g := gb991) (o := .cells #[.int .i64 t978, .int .i64 t979, .int .i64 t980, .slice Ao39 t981.length co39, .slice Ao40 t984.length co40, .string t987, .string t988, .int .i64 t989] 72 (0, 0)) (by (with_reducible repeat (first | refine blk_drewN ?_ _ | refine blk_drew ?_ | refine blk_alloc ?_ _)); refine blk_far ?_ NB991_1033.out _; (with_reducible repeat (first | refine blk_drewN ?_ _ | refine blk_drew ?_ | refine blk_alloc ?_ _)); refine blk_far ?_ NB991_1033.out _; (with_reducible repeat (first | refine blk_drewN ?_ _ | refine blk_drew ?_ | refine blk_alloc ?_ _)); refine blk_far ?_ NB991_1033.out _; (with_reducible repeat (first | refine blk_drewN ?_ _ | refine blk_drew ?_ | refine blk_alloc ?_ _)); refine blk_far ?_ NB991_1033.out _; (with_reducible repeat (first | refine blk_drewN ?_ _ | refine blk_drew ?_ | refine blk_alloc ?_ _)); refine blk_far ?_ NB991_1033.out _; (with_reducible repeat (first | refine blk_drewN ?_ _ | refine blk_drew ?_ | refine blk_alloc ?_ _)); refine blk_far ?_ NB991_1033.out _; (with_reducible repeat (first | refine blk_drewN ?_ _ | refine blk_drew ?_ | refine blk_alloc ?_ _)); refine blk_far ?_ NB991_1033.out _; (with_reducible repeat (first | refine blk_drewN ?_ _ | refine blk_drew ?_ | refine blk_alloc ?_ _)); refine blk_far ?_ NB991_1033.out _; exact bs BK991.out) hb); have n14_ := Aside0.mk (blk_below (g := gb1033) (o := .cells #[.int .i64 t1020, .int .i64 t1021, .int .i64 t1022, .slice Ao129 t1023.length co129, .slice Ao130 t1026.length co130, .string t1029, .string t1030, .int .i64 t1031] 72 (0, 0)) (by (with_reducible repeat (first | refine blk_drewN ?_ _ | refine blk_drew ?_ | refine blk_alloc ?_ _)); refine blk_put (cs := #[.int .i64 t1020, .int .i64 t1021, .int .i64 t1022, .slice Ao129 t1023.length co129, .slice Ao130 t1026.length co130, .string t1029, .string t1030, .int .i64 0]) ?_ 7 _ rfl; (with_reducible repeat (first | refine blk_drewN ?_ _ | refine blk_drew ?_ | refine blk_alloc ?_ _)); refine blk_put (cs := #[.int .i64 t1020, .int .i64 t1021, .int .i64 t1022, .slice Ao129 t1023.length co129, .slice Ao130 t1026.length co130, .string t1029, .string (⟨#[]⟩ : ByteArray), .int .i64 0]) ?_ 6 _ rfl; (with_reducible repeat (first | refine blk_drewN ?_ _ | refine blk_drew ?_ | refine blk_alloc ?_ _)); refine blk_put (cs := #[.int .i64 t1020, .int .i64 t1021, .int .i64 t1022, .slice Ao129 t1023.length co129, .slice Ao130 t1026.length co130, .string (⟨#[]⟩ : ByteArray), .string (⟨#[]⟩ : ByteArray), .int .i64 0]) ?_ 5 _ rfl; (with_reducible repeat (first | refine blk_drewN ?_ _ | refine blk_drew ?_ | refine blk_alloc ?_ _)); refine blk_put (cs := #[.int .i64 t1020, .int .i64 t1021, .int .i64 t1022, .slice Ao129 t1023.length co129, .slice none 0 0, .string (⟨#[]⟩ : ByteArray), .string (⟨#[]⟩ : ByteArray), .int .i64 0]) ?_ 4 _ rfl; (with_reducible repeat (first | refine blk_drewN ?_ _ | refine blk_drew ?_ | refine blk_alloc ?_ _)); refine blk_put (cs := #[.int .i64 t1020, .int .i64 t1021, .int .i64 t1022, .slice none 0 0, .slice none 0 0, .string (⟨#[]⟩ : ByteArray), .string (⟨#[]⟩ : ByteArray), .int .i64 0]) ?_ 3 _ rfl; (with_reducible repeat (first | refine blk_drewN ?_ _ | refine blk_drew ?_ | refine blk_alloc ?_ _)); refine blk_put (cs := #[.int .i64 t1020, .int .i64 t1021, .int .i64 0, .slice none 0 0, .slice none 0 0, .string (⟨#[]⟩ : ByteArray), .string (⟨#[]⟩ : ByteArray), .int .i64 0]) ?_ 2 _ rfl; (with_reducible repeat (first | refine blk_drewN ?_ _ | refine blk_drew ?_ | refine blk_alloc ?_ _)); refine blk_put (cs := #[.int .i64 t1020, .int .i64 0, .int .i64 0, .slice none 0 0, .slice none 0 0, .string (⟨#[]⟩ : ByteArray), .string (⟨#[]⟩ : ByteArray), .int .i64 0]) ?_ 1 _ rfl; (with_reducible repeat (first | refine blk_drewN ?_ _ | refine blk_drew ?_ | refine blk_alloc ?_ _)); refine blk_put (cs := #[.int .i64 0, .int .i64 0, .int .i64 0, .slice none 0 0, .slice none 0 0, .string (⟨#[]⟩ : ByteArray), .string (⟨#[]⟩ : ByteArray), .int .i64 0]) ?_ 0 _ rfl; exact bs BK1033.out) hb); have n15_ := Aside0.mk (below_step (by repeat (first | (with_reducible first | exact bw HB.out | refine bset ?_ | apply bA | apply bN | apply bD) | exact HB.out)) hb); replace HO_968003 := n0_; replace HO_968004 := n1_; replace HO_978003 := n2_; replace HO_978004 := n3_; replace HO_992003 := n4_; replace HO_992004 := n5_; replace HO1016 := n6_; replace HO1019 := n7_; replace HO1025 := n8_; replace HO1028 := n9_; replace BK943 := n10_; replace BK967 := n11_; replace BK977 := n12_; replace BK991 := n13_; replace BK1033 := n14_; replace HB := n15_; clear n0_ n1_ n2_ n3_ n4_ n5_ n6_ n7_ n8_ n9_ n10_ n11_ n12_ n13_ n14_ n15_; (try clear hb); (try clear hb2); (try clear hk); (try clear hi)))
      go_meet
      case rel => exact ⟨_, (true), (by first | rfl | (simp; done) | (simp [*]; done)), H', ⟨by have := HJ10.out; have := HJ63.out; first | omega | exact Nat.le_refl _⟩, ⟨by (try simp only [hl978003_63]); (try simp only [hl978004_63]); (with_reducible repeat (first | apply Kd.R_alloc | apply Kd.R_drewN | apply Kd.R_drew)); exact Kd.R_mono HO_968003.out (fun _ hk => ⟨hk.1.1.1, ⟨hk.1.1.2, hk.2⟩⟩)⟩, ⟨by (try simp only [hl978003_63]); (try simp only [hl978004_63]); (with_reducible repeat (first | apply Kd.R_alloc | apply Kd.R_drewN | apply Kd.R_drew)); exact Kd.R_mono HO_968004.out (fun _ hk => ⟨hk.1.1.1, ⟨hk.1.1.2, hk.2⟩⟩)⟩, ⟨by (try simp only [hl978003_63]); (try simp only [hl978004_63]); (with_reducible repeat (first | apply Kd.R_alloc | apply Kd.R_drewN | apply Kd.R_drew)); exact Kd.R_mono HO_978003.out (fun _ hk => ⟨hk.1.1.1, ⟨hk.1.1.2, hk.2⟩⟩)⟩, ⟨by (try simp only [hl978003_63]); (try simp only [hl978004_63]); (with_reducible repeat (first | apply Kd.R_alloc | apply Kd.R_drewN | apply Kd.R_drew)); exact Kd.R_mono HO_978004.out (fun _ hk => ⟨hk.1.1.1, ⟨hk.1.1.2, hk.2⟩⟩)⟩, ⟨by (try simp only [hl978003_63]); (try simp only [hl978004_63]); (with_reducible repeat (first | apply Kd.R_alloc | apply Kd.R_drewN | apply Kd.R_drew)); exact Kd.R_mono HO_992003.out (fun _ hk => ⟨hk.1.1.1, ⟨hk.1.1.2, hk.2⟩⟩)⟩, ⟨by (try simp only [hl978003_63]); (try simp only [hl978004_63]); (with_reducible repeat (first | apply Kd.R_alloc | apply Kd.R_drewN | apply Kd.R_drew)); exact Kd.R_mono HO_992004.out (fun _ hk => ⟨hk.1.1.1, ⟨hk.1.1.2, hk.2⟩⟩)⟩, ⟨by (try simp only [hl978003_63]); (try simp only [hl978004_63]); (with_reducible repeat (first | apply Kd.R_alloc | apply Kd.R_drewN | apply Kd.R_drew)); exact Kd.R_mono HO1025.out (fun _ hk => ⟨hk.1.1.1.2, ⟨hk.1.1.2, hk.1.2⟩⟩)⟩, ⟨by (try simp only [hl978003_63]); (try simp only [hl978004_63]); (with_reducible repeat (first | apply Kd.R_alloc | apply Kd.R_drewN | apply Kd.R_drew)); exact Kd.R_mono HO1028.out (fun _ hk => ⟨hk.1.1.1.2, ⟨hk.1.1.2, hk.1.2⟩⟩)⟩, ⟨by (try simp only [hl978003_63]); (try simp only [hl978004_63]); exact bs BK943.out⟩, ⟨by (try simp only [hl978003_63]); (try simp only [hl978004_63]); exact bs BK967.out⟩, ⟨by (try simp only [hl978003_63]); (try simp only [hl978004_63]); exact bs BK977.out⟩, ⟨by (try simp only [hl978003_63]); (try simp only [hl978004_63]); exact bs BK991.out⟩, ⟨by (try simp only [hl978003_63]); (try simp only [hl978004_63]); exact bs BK1033.out⟩, ⟨by repeat (first | (with_reducible first | exact bw HB.out | refine bset ?_ | apply bA | apply bN | apply bD) | exact HB.out)⟩⟩
     case rest =>
      clear HC108
      try clear c1
      try clear c2
      try clear p2
      try clear c3
      try clear c3b0
      try clear c4
      try clear c5
      try clear c6
      try clear c7
      try clear c8
      try clear c9
      try clear c10
      try clear c11
      try clear c12
      try clear c13
      try clear c14
      try clear c15
      try clear c18
      try clear c19
      try clear c21
      try clear c28
      try clear c29
      try clear c35
      try clear c36
      try clear c37
      try clear c39
      try clear c42
      try clear c43
      try clear c44
      try clear c45
      try clear c47
      try clear c48
      try clear c50
      try clear c51
      try clear c52
      try clear c53
      try clear c54
      try clear c55
      try clear c56
      try clear c59
      try clear c62
      try clear c70
      try clear c71
      try clear c72
      try clear c75
      try clear c75b0
      try clear c77
      try clear c78
      try clear c79
      try clear c80
      try clear c82
      try clear c83
      try clear c86
      try clear c87
      try clear c88
      try clear c90
      try clear c91
      try clear c94
      try clear c97
      try clear c97b0
      try clear c98
      try clear c99
      try clear c100
      try clear c105
      try clear c105b0
      try clear c105b1
      try clear c109
      try clear c110
      try clear c111
      try clear c116
      try clear c117
      try clear c124
      try clear c125
      try clear c126
      try clear c127
      try clear c132
      try clear c133
      try clear c134
      try clear c135
      try clear c136
      try clear c138
      try clear c139
      try clear c140
      try clear c143
      try clear c144
      try clear c145
      try clear c146
      try clear c148
      try clear c149
      try clear c150
      try clear hcz101_0
      try clear hcz101_1
      try clear hcz101_2
      try clear hcz101_3
      try clear hcz101_4
      try clear hcz101_5
      try clear hcz101_6
      try clear hcz101_7
      try clear hcz103_0
      try clear hcz103_1
      try clear hcz103_2
      try clear hcz103_3
      try clear hcz103_4
      try clear hcz103_5
      try clear hcz103_6
      try clear hcz103_7
      try clear hcz112_0
      try clear hcz112_1
      try clear hcz112_2
      try clear hcz112_3
      try clear hcz112_4
      try clear hcz112_5
      try clear hcz112_6
      try clear hcz112_7
      try clear hcz114_0
      try clear hcz114_1
      try clear hcz114_2
      try clear hcz114_3
      try clear hcz114_4
      try clear hcz114_5
      try clear hcz114_6
      try clear hcz114_7
      try clear hcz118_0
      try clear hcz118_1
      try clear hcz118_2
      try clear hcz118_3
      try clear hcz118_4
      try clear hcz128_0
      try clear hcz128_1
      try clear hcz128_2
      try clear hcz128_3
      try clear hcz128_4
      try clear hcz128_5
      try clear hcz128_6
      try clear hcz128_7
      try clear hcz137_0
      try clear hcz137_1
      try clear hcz137_2
      try clear hcz137_3
      try clear hcz137_4
      try clear hcz137_5
      try clear hcz137_6
      try clear hcz137_7
      try clear hcz13_0
      try clear hcz13_1
      try clear hcz13_2
      try clear hcz13_3
      try clear hcz13_4
      try clear hcz141_0
      try clear hcz141_1
      try clear hcz141_2
      try clear hcz141_3
      try clear hcz141_4
      try clear hcz141_5
      try clear hcz141_6
      try clear hcz141_7
      try clear hcz147_0
      try clear hcz147_1
      try clear hcz147_2
      try clear hcz147_3
      try clear hcz147_4
      try clear hcz147_5
      try clear hcz147_6
      try clear hcz147_7
      try clear hcz151_0
      try clear hcz151_1
      try clear hcz151_2
      try clear hcz151_3
      try clear hcz151_4
      try clear hcz151_5
      try clear hcz151_6
      try clear hcz151_7
      try clear hcz15_0
      try clear hcz15_1
      try clear hcz15_2
      try clear hcz15_3
      try clear hcz15_4
      try clear hcz22_0
      try clear hcz22_1
      try clear hcz22_2
      try clear hcz22_3
      try clear hcz22_4
      try clear hcz22_5
      try clear hcz22_6
      try clear hcz22_7
      try clear hcz25_0
      try clear hcz25_1
      try clear hcz25_2
      try clear hcz25_3
      try clear hcz25_4
      try clear hcz30_0
      try clear hcz30_1
      try clear hcz30_2
      try clear hcz30_3
      try clear hcz30_4
      try clear hcz38_0
      try clear hcz38_1
      try clear hcz38_2
      try clear hcz38_3
      try clear hcz38_4
      try clear hcz38_5
      try clear hcz38_6
      try clear hcz38_7
      try clear hcz46_0
      try clear hcz46_1
      try clear hcz46_2
      try clear hcz46_3
      try clear hcz46_4
      try clear hcz46_5
      try clear hcz46_6
      try clear hcz46_7
      try clear hcz49_0
      try clear hcz49_1
      try clear hcz49_2
      try clear hcz49_3
      try clear hcz49_4
      try clear hcz49_5
      try clear hcz49_6
      try clear hcz49_7
      try clear hcz54_0
      try clear hcz54_1
      try clear hcz54_2
      try clear hcz54_3
      try clear hcz54_4
      try clear hcz54_5
      try clear hcz54_6
      try clear hcz54_7
      try clear hcz57_0
      try clear hcz57_1
      try clear hcz57_2
      try clear hcz57_3
      try clear hcz57_4
      try clear hcz57_5
      try clear hcz57_6
      try clear hcz57_7
      try clear hcz5_0
      try clear hcz5_1
      try clear hcz5_2
      try clear hcz5_3
      try clear hcz5_4
      try clear hcz73_0
      try clear hcz73_1
      try clear hcz73_2
      try clear hcz73_3
      try clear hcz73_4
      try clear hcz81_0
      try clear hcz81_1
      try clear hcz81_2
      try clear hcz81_3
      try clear hcz81_4
      try clear hcz81_5
      try clear hcz81_6
      try clear hcz81_7
      try clear hcz84_0
      try clear hcz84_1
      try clear hcz84_2
      try clear hcz84_3
      try clear hcz84_4
      try clear hcz84_5
      try clear hcz84_6
      try clear hcz84_7
      try clear hcz89_0
      try clear hcz89_1
      try clear hcz89_2
      try clear hcz89_3
      try clear hcz89_4
      try clear hcz89_5
      try clear hcz89_6
      try clear hcz89_7
      try clear hcz92_0
      try clear hcz92_1
      try clear hcz92_2
      try clear hcz92_3
      try clear hcz92_4
      try clear hcz92_5
      try clear hcz92_6
      try clear hcz92_7
      try clear hfz101_0
      try clear hfz101_1
      try clear hfz101_2
      try clear hfz101_3
      try clear hfz101_4
      try clear hfz101_5
      try clear hfz101_6
      try clear hfz101_7
      try clear hfz103_0
      try clear hfz103_1
      try clear hfz103_2
      try clear hfz103_3
      try clear hfz103_4
      try clear hfz103_5
      try clear hfz103_6
      try clear hfz103_7
      try clear hfz112_0
      try clear hfz112_1
      try clear hfz112_2
      try clear hfz112_3
      try clear hfz112_4
      try clear hfz112_5
      try clear hfz112_6
      try clear hfz112_7
      try clear hfz114_0
      try clear hfz114_1
      try clear hfz114_2
      try clear hfz114_3
      try clear hfz114_4
      try clear hfz114_5
      try clear hfz114_6
      try clear hfz114_7
      try clear hfz118_0
      try clear hfz118_1
      try clear hfz118_2
      try clear hfz118_3
      try clear hfz118_4
      try clear hfz128_0
      try clear hfz128_1
      try clear hfz128_2
      try clear hfz128_3
      try clear hfz128_4
      try clear hfz128_5
      try clear hfz128_6
      try clear hfz128_7
      try clear hfz137_0
      try clear hfz137_1
      try clear hfz137_2
      try clear hfz137_3
      try clear hfz137_4
      try clear hfz137_5
      try clear hfz137_6
      try clear hfz137_7
      try clear hfz13_0
      try clear hfz13_1
      try clear hfz13_2
      try clear hfz13_3
      try clear hfz13_4
      try clear hfz141_0
      try clear hfz141_1
      try clear hfz141_2
      try clear hfz141_3
      try clear hfz141_4
      try clear hfz141_5
      try clear hfz141_6
      try clear hfz141_7
      try clear hfz147_0
      try clear hfz147_1
      try clear hfz147_2
      try clear hfz147_3
      try clear hfz147_4
      try clear hfz147_5
      try clear hfz147_6
      try clear hfz147_7
      try clear hfz151_0
      try clear hfz151_1
      try clear hfz151_2
      try clear hfz151_3
      try clear hfz151_4
      try clear hfz151_5
      try clear hfz151_6
      try clear hfz151_7
      try clear hfz15_0
      try clear hfz15_1
      try clear hfz15_2
      try clear hfz15_3
      try clear hfz15_4
      try clear hfz22_0
      try clear hfz22_1
      try clear hfz22_2
      try clear hfz22_3
      try clear hfz22_4
      try clear hfz22_5
      try clear hfz22_6
      try clear hfz22_7
      try clear hfz25_0
      try clear hfz25_1
      try clear hfz25_2
      try clear hfz25_3
      try clear hfz25_4
      try clear hfz30_0
      try clear hfz30_1
      try clear hfz30_2
      try clear hfz30_3
      try clear hfz30_4
      try clear hfz38_0
      try clear hfz38_1
      try clear hfz38_2
      try clear hfz38_3
      try clear hfz38_4
      try clear hfz38_5
      try clear hfz38_6
      try clear hfz38_7
      try clear hfz46_0
      try clear hfz46_1
      try clear hfz46_2
      try clear hfz46_3
      try clear hfz46_4
      try clear hfz46_5
      try clear hfz46_6
      try clear hfz46_7
      try clear hfz49_0
      try clear hfz49_1
      try clear hfz49_2
      try clear hfz49_3
      try clear hfz49_4
      try clear hfz49_5
      try clear hfz49_6
      try clear hfz49_7
      try clear hfz54_0
      try clear hfz54_1
      try clear hfz54_2
      try clear hfz54_3
      try clear hfz54_4
      try clear hfz54_5
      try clear hfz54_6
      try clear hfz54_7
      try clear hfz57_0
      try clear hfz57_1
      try clear hfz57_2
      try clear hfz57_3
      try clear hfz57_4
      try clear hfz57_5
      try clear hfz57_6
      try clear hfz57_7
      try clear hfz5_0
      try clear hfz5_1
      try clear hfz5_2
      try clear hfz5_3
      try clear hfz5_4
      try clear hfz73_0
      try clear hfz73_1
      try clear hfz73_2
      try clear hfz73_3
      try clear hfz73_4
      try clear hfz81_0
      try clear hfz81_1
      try clear hfz81_2
      try clear hfz81_3
      try clear hfz81_4
      try clear hfz81_5
      try clear hfz81_6
      try clear hfz81_7
      try clear hfz84_0
      try clear hfz84_1
      try clear hfz84_2
      try clear hfz84_3
      try clear hfz84_4
      try clear hfz84_5
      try clear hfz84_6
      try clear hfz84_7
      try clear hfz89_0
      try clear hfz89_1
      try clear hfz89_2
      try clear hfz89_3
      try clear hfz89_4
      try clear hfz89_5
      try clear hfz89_6
      try clear hfz89_7
      try clear hfz92_0
      try clear hfz92_1
      try clear hfz92_2
      try clear hfz92_3
      try clear hfz92_4
      try clear hfz92_5
      try clear hfz92_6
      try clear hfz92_7
      try clear p2
      obtain ⟨kq, x87_107, rfl, HA, HJ107, HO_968003, HO_968004, HO_978003, HO_978004, HO_992003, HO_992004, HO_1034003, HO_1034004, BK943, BK967, BK977, BK991, BK1033, HB⟩ := hcut
      have hl992003_107 := (Kd.R_reads' HO_992003.out).1
      rw [hl992003_107] at HO_992003
      (try simp only [hl992003_107])
      (try simp only [hl992003_107] at BK943)
      (try simp only [hl992003_107] at BK967)
      (try simp only [hl992003_107] at BK977)
      (try simp only [hl992003_107] at BK991)
      (try simp only [hl992003_107] at BK1033)
      (try simp only [hl992003_107] at HO_968003)
      (try simp only [hl992003_107] at HO_968004)
      (try simp only [hl992003_107] at HO_978003)
      (try simp only [hl992003_107] at HO_978004)
      (try simp only [hl992003_107] at HO_992004)
      (try simp only [hl992003_107] at HO_1034003)
      (try simp only [hl992003_107] at HO_1034004)
      have hl992004_107 := (Kd.R_reads' HO_992004.out).1
      rw [hl992004_107] at HO_992004
      (try simp only [hl992004_107])
      (try simp only [hl992004_107] at BK943)
      (try simp only [hl992004_107] at BK967)
      (try simp only [hl992004_107] at BK977)
      (try simp only [hl992004_107] at BK991)
      (try simp only [hl992004_107] at BK1033)
      (try simp only [hl992004_107] at HO_968003)
      (try simp only [hl992004_107] at HO_968004)
      (try simp only [hl992004_107] at HO_978003)
      (try simp only [hl992004_107] at HO_978004)
      (try simp only [hl992004_107] at HO_992003)
      (try simp only [hl992004_107] at HO_1034003)
      (try simp only [hl992004_107] at HO_1034004)
      cases kq with
      | zero => exact absurd HA.out (by simp [laws_FnExactNewConsole.j2])
      | succ kj107 =>
       have H := HA.out
       clear HA
       simp only [laws_FnExactNewConsole.j2] at H
       by_cases c153 : x87_107 = true
       ·subst c153
        have H1 : (some false) = some r := by rw [if_pos rfl] at H; exact H
        clear H
        have H := H1
        clear H1
        obtain rfl := Option.some.inj H
        go_wp2
        go_ret
        exact ⟨by first | rfl | (simp [errW_none, errW_some] <;> rfl) | (simp [*, errW_none, errW_some] <;> rfl), by repeat (first | (with_reducible first | exact bw HB.out | refine bset ?_ | apply bA | apply bN | apply bD) | exact HB.out)⟩
       replace c153 := Bool.eq_false_iff.mpr c153
       subst c153
       have H1 : ((laws_heldConsole.f kj107 t978 t979 t980 t1008 t1009 t987 t988 t989 1).bind fun t1035 => (if t1035 < 0 then (some false) else (if t1035 = t1007 then (some true) else (some false)))) = some r := by rw [if_neg (show ¬ (false = true) by decide)] at H; exact H
       clear H
       have H := H1
       clear H1
       replace H := Option.bind_eq_some_iff.mp H
       obtain ⟨t1035, A1540, H⟩ := H
       replace H : (if t1035 < 0 then (some false) else (if t1035 = t1007 then (some true) else (some false))) = some r := H
       have A154 := Aside0.mk A1540
       clear A1540
       by_cases c155 : t1035 < 0
       ·rw [if_pos c155] at H
        have c155b0 : decide (t1035 < 0) = true := decide_eq_true c155
        clear c155
        obtain rfl := Option.some.inj H
        have hnb156 := NB991_943.out
        have hnc156 := NB943_991.out
        have hnb157 := NB991_967.out
        have hnc157 := NB967_991.out
        have hnb158 := NB991_977.out
        have hnc158 := NB977_991.out
        have hnb159 := NB991_1033.out
        have hnc159 := NB1033_991.out
        obtain ⟨hcz160_0, hcz160_1, hcz160_2, hcz160_3, hcz160_4, hcz160_5, hcz160_6, hcz160_7, hfz160_0, hfz160_1, hfz160_2, hfz160_3, hfz160_4, hfz160_5, hfz160_6, hfz160_7⟩ := bz8 BK991.out
        go_wp2_with (first | ((with_reducible refine gate_callee (f := 54) rfl ?_); refine goesL_ (some 90) rfl rfl Try.func54 (by kernel_rfl) rfl #[.agg #[.int .i64 t978, .int .i64 t979, .int .i64 t980, .slice Ao39 t1008.length co39, .slice Ao40 t1009.length co40, .string t987, .string t988, .int .i64 t989], .int .i64 1] rfl (by (try simp only [mA_]); first | done | rfl | (simp only [List.length_drop, List.length_take]; rfl)) ?_; (with_reducible refine (laws_heldConsole.calls kj107 t978 t979 t980 _ _ t1008 _ _ t1009 t987 t988 t989 1 t1035 _ ?side1 ?side2 ?side3 ?side4 A154.out).mono ?_); (case side1 => repeat (first | exact (Kd.R_reads' HO_992003.out).2.2 | (with_reducible refine Kd.C_alloc ?_ _) | (with_reducible refine Kd.C_drewN ?_ _) | (with_reducible refine Kd.C_drew ?_))); (case side2 => exact (Kd.R_reads' HO_992003.out).2.1); (case side3 => repeat (first | exact (Kd.R_reads' HO_992004.out).2.2 | (with_reducible refine Kd.C_alloc ?_ _) | (with_reducible refine Kd.C_drewN ?_ _) | (with_reducible refine Kd.C_drew ?_))); (case side4 => exact (Kd.R_reads' HO_992004.out).2.1); rintro e w161 ⟨rfl, hb⟩; refine ⟨_, rfl, ?_⟩; have n0_ := Aside0.mk (Kd.R_below (bR HO_968003.out) hb); have n1_ := Aside0.mk (Kd.R_below (bR HO_968004.out) hb); have n2_ := Aside0.mk (Kd.R_below (bR HO_978003.out) hb); have n3_ := Aside0.mk (Kd.R_below (bR HO_978004.out) hb); have n4_ := Aside0.mk (Kd.R_below (bR HO_992003.out) hb); have n5_ := Aside0.mk (Kd.R_below (bR HO_992004.out) hb); have n6_ := Aside0.mk (Kd.R_below (bR HO_1034003.out) hb); have n7_ := Aside0.mk (Kd.R_below (bR HO_1034004.out) hb); have n8_ := Aside0.mk (blk_below (bs BK943.out) hb); have n9_ := Aside0.mk (blk_below (bs BK967.out) hb); have n10_ := Aside0.mk (blk_below (bs BK977.out) hb); have n11_ := Aside0.mk (blk_below (bs BK991.out) hb); have n12_ := Aside0.mk (blk_below (bs BK1033.out) hb); have n13_ := Aside0.mk (below_step (by repeat (first | (with_reducible first | exact bw HB.out | refine bset ?_ | apply bA | apply bN | apply bD) | exact HB.out)) hb); replace HO_968003 := n0_; replace HO_968004 := n1_; replace HO_978003 := n2_; replace HO_978004 := n3_; replace HO_992003 := n4_; replace HO_992004 := n5_; replace HO_1034003 := n6_; replace HO_1034004 := n7_; replace BK943 := n8_; replace BK967 := n9_; replace BK977 := n10_; replace BK991 := n11_; replace BK1033 := n12_; replace HB := n13_; clear n0_ n1_ n2_ n3_ n4_ n5_ n6_ n7_ n8_ n9_ n10_ n11_ n12_ n13_; (try clear hb); (try clear hb2); (try clear hk); (try clear hi)))
        go_ret
        exact ⟨by first | rfl | (simp [errW_none, errW_some] <;> rfl) | (simp [*, errW_none, errW_some] <;> rfl), by repeat (first | (with_reducible first | exact bw HB.out | refine bset ?_ | apply bA | apply bN | apply bD) | exact HB.out)⟩
       rw [if_neg c155] at H
       have c155b0 : decide (t1035 < 0) = false := decide_eq_false c155
       clear c155
       by_cases c162 : t1035 = t1007
       rotate_left
       ·rw [if_neg c162] at H
        have c162b0 : (t1035 == t1007) = false := beq_eq_false_iff_ne.mpr c162
        have c162b1 : (t1035 != t1007) = true := bne_iff_ne.mpr c162
        obtain rfl := Option.some.inj H
        have hnb169 := NB991_943.out
        have hnc169 := NB943_991.out
        have hnb170 := NB991_967.out
        have hnc170 := NB967_991.out
        have hnb171 := NB991_977.out
        have hnc171 := NB977_991.out
        have hnb172 := NB991_1033.out
        have hnc172 := NB1033_991.out
        obtain ⟨hcz173_0, hcz173_1, hcz173_2, hcz173_3, hcz173_4, hcz173_5, hcz173_6, hcz173_7, hfz173_0, hfz173_1, hfz173_2, hfz173_3, hfz173_4, hfz173_5, hfz173_6, hfz173_7⟩ := bz8 BK991.out
        go_wp2_with (first | ((with_reducible refine gate_callee (f := 54) rfl ?_); refine goesL_ (some 90) rfl rfl Try.func54 (by kernel_rfl) rfl #[.agg #[.int .i64 t978, .int .i64 t979, .int .i64 t980, .slice Ao39 t1008.length co39, .slice Ao40 t1009.length co40, .string t987, .string t988, .int .i64 t989], .int .i64 1] rfl (by (try simp only [mA_]); first | done | rfl | (simp only [List.length_drop, List.length_take]; rfl)) ?_; (with_reducible refine (laws_heldConsole.calls kj107 t978 t979 t980 _ _ t1008 _ _ t1009 t987 t988 t989 1 t1035 _ ?side1 ?side2 ?side3 ?side4 A154.out).mono ?_); (case side1 => repeat (first | exact (Kd.R_reads' HO_992003.out).2.2 | (with_reducible refine Kd.C_alloc ?_ _) | (with_reducible refine Kd.C_drewN ?_ _) | (with_reducible refine Kd.C_drew ?_))); (case side2 => exact (Kd.R_reads' HO_992003.out).2.1); (case side3 => repeat (first | exact (Kd.R_reads' HO_992004.out).2.2 | (with_reducible refine Kd.C_alloc ?_ _) | (with_reducible refine Kd.C_drewN ?_ _) | (with_reducible refine Kd.C_drew ?_))); (case side4 => exact (Kd.R_reads' HO_992004.out).2.1); rintro e w174 ⟨rfl, hb⟩; refine ⟨_, rfl, ?_⟩; have n0_ := Aside0.mk (Kd.R_below (bR HO_968003.out) hb); have n1_ := Aside0.mk (Kd.R_below (bR HO_968004.out) hb); have n2_ := Aside0.mk (Kd.R_below (bR HO_978003.out) hb); have n3_ := Aside0.mk (Kd.R_below (bR HO_978004.out) hb); have n4_ := Aside0.mk (Kd.R_below (bR HO_992003.out) hb); have n5_ := Aside0.mk (Kd.R_below (bR HO_992004.out) hb); have n6_ := Aside0.mk (Kd.R_below (bR HO_1034003.out) hb); have n7_ := Aside0.mk (Kd.R_below (bR HO_1034004.out) hb); have n8_ := Aside0.mk (blk_below (bs BK943.out) hb); have n9_ := Aside0.mk (blk_below (bs BK967.out) hb); have n10_ := Aside0.mk (blk_below (bs BK977.out) hb); have n11_ := Aside0.mk (blk_below (bs BK991.out) hb); have n12_ := Aside0.mk (blk_below (bs BK1033.out) hb); have n13_ := Aside0.mk (below_step (by repeat (first | (with_reducible first | exact bw HB.out | refine bset ?_ | apply bA | apply bN | apply bD) | exact HB.out)) hb); replace HO_968003 := n0_; replace HO_968004 := n1_; replace HO_978003 := n2_; replace HO_978004 := n3_; replace HO_992003 := n4_; replace HO_992004 := n5_; replace HO_1034003 := n6_; replace HO_1034004 := n7_; replace BK943 := n8_; replace BK967 := n9_; replace BK977 := n10_; replace BK991 := n11_; replace BK1033 := n12_; replace HB := n13_; clear n0_ n1_ n2_ n3_ n4_ n5_ n6_ n7_ n8_ n9_ n10_ n11_ n12_ n13_; (try clear hb); (try clear hb2); (try clear hk); (try clear hi)))
        go_ret
        exact ⟨by first | rfl | (simp [errW_none, errW_some] <;> rfl) | (simp [*, errW_none, errW_some] <;> rfl), by repeat (first | (with_reducible first | exact bw HB.out | refine bset ?_ | apply bA | apply bN | apply bD) | exact HB.out)⟩
       rw [if_pos c162] at H
       have c162b0 : (t1035 == t1007) = true := beq_iff_eq.mpr c162
       have c162b1 : (t1035 != t1007) = false := bne_eq_false_iff_eq.mpr c162
       clear c162
       obtain rfl := Option.some.inj H
       have hnb163 := NB991_943.out
       have hnc163 := NB943_991.out
       have hnb164 := NB991_967.out
       have hnc164 := NB967_991.out
       have hnb165 := NB991_977.out
       have hnc165 := NB977_991.out
       have hnb166 := NB991_1033.out
       have hnc166 := NB1033_991.out
       obtain ⟨hcz167_0, hcz167_1, hcz167_2, hcz167_3, hcz167_4, hcz167_5, hcz167_6, hcz167_7, hfz167_0, hfz167_1, hfz167_2, hfz167_3, hfz167_4, hfz167_5, hfz167_6, hfz167_7⟩ := bz8 BK991.out
       go_wp2_with (first | ((with_reducible refine gate_callee (f := 54) rfl ?_); refine goesL_ (some 90) rfl rfl Try.func54 (by kernel_rfl) rfl #[.agg #[.int .i64 t978, .int .i64 t979, .int .i64 t980, .slice Ao39 t1008.length co39, .slice Ao40 t1009.length co40, .string t987, .string t988, .int .i64 t989], .int .i64 1] rfl (by (try simp only [mA_]); first | done | rfl | (simp only [List.length_drop, List.length_take]; rfl)) ?_; (with_reducible refine (laws_heldConsole.calls kj107 t978 t979 t980 _ _ t1008 _ _ t1009 t987 t988 t989 1 t1035 _ ?side1 ?side2 ?side3 ?side4 A154.out).mono ?_); (case side1 => repeat (first | exact (Kd.R_reads' HO_992003.out).2.2 | (with_reducible refine Kd.C_alloc ?_ _) | (with_reducible refine Kd.C_drewN ?_ _) | (with_reducible refine Kd.C_drew ?_))); (case side2 => exact (Kd.R_reads' HO_992003.out).2.1); (case side3 => repeat (first | exact (Kd.R_reads' HO_992004.out).2.2 | (with_reducible refine Kd.C_alloc ?_ _) | (with_reducible refine Kd.C_drewN ?_ _) | (with_reducible refine Kd.C_drew ?_))); (case side4 => exact (Kd.R_reads' HO_992004.out).2.1); rintro e w168 ⟨rfl, hb⟩; refine ⟨_, rfl, ?_⟩; have n0_ := Aside0.mk (Kd.R_below (bR HO_968003.out) hb); have n1_ := Aside0.mk (Kd.R_below (bR HO_968004.out) hb); have n2_ := Aside0.mk (Kd.R_below (bR HO_978003.out) hb); have n3_ := Aside0.mk (Kd.R_below (bR HO_978004.out) hb); have n4_ := Aside0.mk (Kd.R_below (bR HO_992003.out) hb); have n5_ := Aside0.mk (Kd.R_below (bR HO_992004.out) hb); have n6_ := Aside0.mk (Kd.R_below (bR HO_1034003.out) hb); have n7_ := Aside0.mk (Kd.R_below (bR HO_1034004.out) hb); have n8_ := Aside0.mk (blk_below (bs BK943.out) hb); have n9_ := Aside0.mk (blk_below (bs BK967.out) hb); have n10_ := Aside0.mk (blk_below (bs BK977.out) hb); have n11_ := Aside0.mk (blk_below (bs BK991.out) hb); have n12_ := Aside0.mk (blk_below (bs BK1033.out) hb); have n13_ := Aside0.mk (below_step (by repeat (first | (with_reducible first | exact bw HB.out | refine bset ?_ | apply bA | apply bN | apply bD) | exact HB.out)) hb); replace HO_968003 := n0_; replace HO_968004 := n1_; replace HO_978003 := n2_; replace HO_978004 := n3_; replace HO_992003 := n4_; replace HO_992004 := n5_; replace HO_1034003 := n6_; replace HO_1034004 := n7_; replace BK943 := n8_; replace BK967 := n9_; replace BK977 := n10_; replace BK991 := n11_; replace BK1033 := n12_; replace HB := n13_; clear n0_ n1_ n2_ n3_ n4_ n5_ n6_ n7_ n8_ n9_ n10_ n11_ n12_ n13_; (try clear hb); (try clear hb2); (try clear hk); (try clear hi)))
       go_ret
       exact ⟨by first | rfl | (simp [errW_none, errW_some] <;> rfl) | (simp [*, errW_none, errW_some] <;> rfl), by repeat (first | (with_reducible first | exact bw HB.out | refine bset ?_ | apply bA | apply bN | apply bD) | exact HB.out)⟩

end Go.Proofs.Ytafdeppeacmpdaa.X
