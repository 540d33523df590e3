-- PRINTED by print.py (a twelfth state) out of the translation. Not trusted: Lean checks it.
import Derived.Test.YtebkgebibammiaaPFnExactIsWithinx0
import Derived.Test.YtebkgebibammiaaPFnExactIsWithinx8
import Derived.Test.YtebkgebibammiaaPFnExactIsWithinx12
import Derived.Test.YtebkgebibammiaaPFnExactIsWithinx14
namespace Go.Proofs.Ytebkgebibammiaa.PFnExactIsWithin
open Go.RowKit Go.Proofs.YtebkgebibammiaaW.PrintWords Go.Proofs.YtebkgebibammiaaW.PrintLast Go.Proofs.YtebkgebibammiaaW.PrintMore
attribute [local go_sem] max2_int min2_int max_two min_two max_three min_three max_four min_four   -- for this text's walks alone
set_option linter.unusedVariables false
set_option linter.unusedSimpArgs false

/-! ### impl_GapOf: function 108 -/
def impl_GapOf.j0 : Nat → Int → Int → Bool → Option (Int × Int)
 | 0, _, _, _ => none
 | k + 1, x0, x1, x6 => if x6 = true then (some (0, 2)) else (if x1 > x0 then (some (0, 6)) else (if x0 = 0 then (some (0, 0)) else ((impl_divUp.f (wrap64 (1000 * (wrap64 (x0 - x1)))) x0).bind fun t303 => (some (t303, 0)))))
def impl_GapOf.f (k : Nat) (a0 : Int) (a1 : Int) : Option (Int × Int) := (impl_within.f a0 0 1000000000000000).bind fun t301 => (if t301 = true then ((impl_within.f a1 0 1000000000000000).bind fun t302 => (impl_GapOf.j0 k a0 a1 (!t302))) else (impl_GapOf.j0 k a0 a1 true))
theorem impl_GapOf.mono_l : ∀ k, (∀ y0 y1 y2, LeO (impl_GapOf.j0 k y0 y1 y2) (impl_GapOf.j0 (k + 1) y0 y1 y2))
 | 0 => fun _ _ _ r h => by simp [impl_GapOf.j0] at h
 | k + 1 => by
  have ih0 := impl_GapOf.mono_l k
  ·
   intro y0 y1 y2
   unfold impl_GapOf.j0
   repeat' first
   | (with_reducible exact ih0 _ _ _)
   | (with_reducible exact LeO.refl _)
   | (with_reducible exact LeO.none _)
   | (with_reducible refine LeO.ite ?_ ?_)
   | (with_reducible refine LeO.bind ?_ (fun _ => ?_))
   | exact ih0 _ _ _
   | exact LeO.none _
   | refine LeO.ite ?_ ?_
   | refine LeO.bind ?_ (fun _ => ?_)
theorem impl_GapOf.mono : ∀ a0 a1 k, LeO (impl_GapOf.f k a0 a1) (impl_GapOf.f (k + 1) a0 a1) := by
 intro a0 a1 k
 have ih0 := impl_GapOf.mono_l k
 unfold impl_GapOf.f
 repeat' first
   | (with_reducible exact ih0 _ _ _)
   | (with_reducible exact LeO.refl _)
   | (with_reducible exact LeO.none _)
   | (with_reducible refine LeO.ite ?_ ?_)
   | (with_reducible refine LeO.bind ?_ (fun _ => ?_))
   | exact ih0 _ _ _
   | exact LeO.none _
   | refine LeO.ite ?_ ?_
   | refine LeO.bind ?_ (fun _ => ?_)
set_option maxHeartbeats 8000000 in
set_option maxRecDepth 100000 in
theorem impl_GapOf.calls (k : Nat) (a0 : Int) (a1 : Int) (r1 : Int) (r2 : Int) (w : World) (h : impl_GapOf.f k a0 a1 = some (r1, r2)) :
  Calls Try.prog 108 #[.int .i64 a0, .int .i64 a1] w fun e w' => e = .returned (.tuple #[.int .i64 r1, .int .i64 r2]) ∧ Drawn0 w w' := by
 have H : ((impl_within.f a0 0 1000000000000000).bind fun t301 => (if t301 = true then ((impl_within.f a1 0 1000000000000000).bind fun t302 => (impl_GapOf.j0 k a0 a1 (!t302))) else (impl_GapOf.j0 k a0 a1 true))) = some (r1, r2) := h
 clear h
 have HC3 := Aside0.mk H
 clear H
 go_enter Try.func108, Try.ntmps108
 go_upto_region 1 with (fail)
 go_cut [6] (fun v6 wc => ∃ (kq : Nat) (x6_2 : Bool), v6 = .bool x6_2 ∧ Aside0 (impl_GapOf.j0 kq a0 a1 x6_2 = some (r1, r2)) ∧ Aside0 (kq ≤ k) ∧ Drawn0 w wc)
 case first =>
  have H := HC3.out
  clear HC3
  replace H := Option.bind_eq_some_iff.mp H
  obtain ⟨t301, A40, H⟩ := H
  replace H : (if t301 = true then ((impl_within.f a1 0 1000000000000000).bind fun t302 => (impl_GapOf.j0 k a0 a1 (!t302))) else (impl_GapOf.j0 k a0 a1 true)) = some (r1, r2) := H
  have A4 := Aside0.mk A40
  clear A40
  by_cases c5 : t301 = true
  ·
   subst c5
   have H1 : ((impl_within.f a1 0 1000000000000000).bind fun t302 => (impl_GapOf.j0 k a0 a1 (!t302))) = some (r1, r2) := by rw [if_pos rfl] at H; exact H
   clear H
   have H := H1
   clear H1
   replace H := Option.bind_eq_some_iff.mp H
   obtain ⟨t302, A60, H⟩ := H
   replace H : (impl_GapOf.j0 k a0 a1 (!t302)) = some (r1, r2) := H
   have A6 := Aside0.mk A60
   clear A60
   have H' := Aside0.mk H
   clear H
   go_wp2_with (first | ((with_reducible refine gate_callee (f := 104) rfl ?_); refine goesL_ (some 8) rfl rfl Try.func104 (by kernel_rfl) rfl #[.int .i64 a0, .int .i64 0, .int .i64 1000000000000000] rfl mT_ ?_; (with_reducible refine (impl_within.calls a0 0 1000000000000000 true _ A4.out).mono ?_); rintro e w' ⟨rfl, ⟨nd, rfl⟩⟩; refine ⟨_, rfl, ?_⟩) | (go_at_call 104; (with_reducible refine (impl_within.calls a1 0 1000000000000000 t302 _ A6.out).mono ?_); rintro e w' ⟨rfl, ⟨nd, rfl⟩⟩))
   go_meet
   case rel => exact ⟨_, (!t302), rs_, H', ⟨by first | omega | exact Nat.le_refl _⟩, dr_⟩
  ·
   replace c5 := Bool.eq_false_iff.mpr c5
   subst c5
   have H1 : (impl_GapOf.j0 k a0 a1 true) = some (r1, r2) := by rw [if_neg (show ¬ (false = true) by decide)] at H; exact H
   clear H
   have H := H1
   clear H1
   have H' := Aside0.mk H
   clear H
   go_wp2_with (first | ((with_reducible refine gate_callee (f := 104) rfl ?_); refine goesL_ (some 8) rfl rfl Try.func104 (by kernel_rfl) rfl #[.int .i64 a0, .int .i64 0, .int .i64 1000000000000000] rfl mT_ ?_; (with_reducible refine (impl_within.calls a0 0 1000000000000000 false _ A4.out).mono ?_); rintro e w' ⟨rfl, ⟨nd, rfl⟩⟩; refine ⟨_, rfl, ?_⟩))
   go_meet
   case rel => exact ⟨_, (true), rs_, H', ⟨by first | omega | exact Nat.le_refl _⟩, dr_⟩
 case rest =>
  clear HC3
  try clear c1
  try clear p2
  try clear c5
  obtain ⟨kq, x6_2, rfl, HA, HJ2, ⟨mc2, rfl⟩⟩ := hcut
  cases kq with
  | zero => exact absurd HA.out (by simp [impl_GapOf.j0])
  | succ kj2 =>
   have H := HA.out
   clear HA
   simp only [impl_GapOf.j0] at H
   by_cases c7 : x6_2 = true
   ·
    subst c7
    have H1 : (some (0, 2)) = some (r1, r2) := by rw [if_pos rfl] at H; exact H
    clear H
    have H := H1
    clear H1
    simp only [Option.some.injEq, Prod.mk.injEq] at H
    obtain ⟨rfl, rfl⟩ := H
    go_wp2
    go_ret2
    exact ⟨rs_, dr_⟩
   ·
    replace c7 := Bool.eq_false_iff.mpr c7
    subst c7
    have H1 : (if a1 > a0 then (some (0, 6)) else (if a0 = 0 then (some (0, 0)) else ((impl_divUp.f (wrap64 (1000 * (wrap64 (a0 - a1)))) a0).bind fun t303 => (some (t303, 0))))) = some (r1, r2) := by rw [if_neg (show ¬ (false = true) by decide)] at H; exact H
    clear H
    have H := H1
    clear H1
    by_cases c8 : a1 > a0
    ·
     rw [if_pos c8] at H
     have c8b0 : decide (a0 < a1) = true := decide_eq_true c8
     clear c8
     simp only [Option.some.injEq, Prod.mk.injEq] at H
     obtain ⟨rfl, rfl⟩ := H
     go_wp2
     go_ret2
     exact ⟨rs_, dr_⟩
    ·
     rw [if_neg c8] at H
     have c8b0 : decide (a0 < a1) = false := decide_eq_false c8
     clear c8
     by_cases c9 : a0 = 0
     ·
      rw [if_pos c9] at H
      have c9b0 : (a0 == 0) = true := beq_iff_eq.mpr c9
      have c9b1 : (a0 != 0) = false := bne_eq_false_iff_eq.mpr c9
      clear c9
      simp only [Option.some.injEq, Prod.mk.injEq] at H
      obtain ⟨rfl, rfl⟩ := H
      go_wp2
      go_ret2
      exact ⟨rs_, dr_⟩
     ·
      rw [if_neg c9] at H
      have c9b0 : (a0 == 0) = false := beq_eq_false_iff_ne.mpr c9
      have c9b1 : (a0 != 0) = true := bne_iff_ne.mpr c9
      replace H := Option.bind_eq_some_iff.mp H
      obtain ⟨t303, A100, H⟩ := H
      replace H : (some (t303, 0)) = some (r1, r2) := H
      have A10 := Aside0.mk A100
      clear A100
      simp only [Option.some.injEq, Prod.mk.injEq] at H
      obtain ⟨rfl, rfl⟩ := H
      go_wp2_with (first | ((with_reducible refine gate_callee (f := 139) rfl ?_); refine goesL_ (some 27) rfl rfl Try.func139 (by kernel_rfl) rfl #[.int .i64 (wrap64 (1000 * (wrap64 (a0 - a1)))), .int .i64 a0] rfl mT_ ?_; (with_reducible refine (impl_divUp.calls (wrap64 (1000 * (wrap64 (a0 - a1)))) a0 t303 _ A10.out).mono ?_); rintro e w' ⟨rfl, ⟨nd, rfl⟩⟩; refine ⟨_, rfl, ?_⟩))
      go_ret2
      exact ⟨rs_, dr_⟩

/-! ### impl_IsWithin: function 52 -/
def impl_IsWithin.f (k : Nat) (l0 : List (S77)) (l1 : List (List Bool)) (l2 : List Int) (a3 : Int) : Option (Bool) := (impl_within.f a3 0 1000).bind fun t304 => (if t304 = true then ((impl_PlanCost.f k l0 l1 l2).bind fun bt305 => ((impl_DayBound.f k l0 l2).bind fun bt307 => (if bt305.2 = 0 then (if bt307.2 = 0 then ((impl_GapOf.f k bt305.1 bt307.1).bind fun bt309 => (if bt309.2 = 0 then (some (decide (bt309.1 ≤ a3))) else (some false))) else (some false)) else (some false)))) else (some false))
theorem impl_IsWithin.mono : ∀ a0 a1 a2 a3 k, LeO (impl_IsWithin.f k a0 a1 a2 a3) (impl_IsWithin.f (k + 1) a0 a1 a2 a3) := by
 intro a0 a1 a2 a3 k
 unfold impl_IsWithin.f
 repeat' first
   | (with_reducible exact impl_DayBound.mono _ _ _)
   | (with_reducible exact impl_GapOf.mono _ _ _)
   | (with_reducible exact impl_PlanCost.mono _ _ _ _)
   | (with_reducible exact LeO.refl _)
   | (with_reducible exact LeO.none _)
   | (with_reducible refine LeO.ite ?_ ?_)
   | (with_reducible refine LeO.bind ?_ (fun _ => ?_))
   | exact impl_DayBound.mono _ _ _
   | exact impl_GapOf.mono _ _ _
   | exact impl_PlanCost.mono _ _ _ _
   | exact LeO.none _
   | refine LeO.ite ?_ ?_
   | refine LeO.bind ?_ (fun _ => ?_)
set_option maxHeartbeats 8000000 in
set_option maxRecDepth 100000 in
theorem impl_IsWithin.calls (k : Nat) (A0 : Option Addr) (c0 : Nat) (l0 : List (S77)) (A1 : Option Addr) (c1 : Nat) (l1 : List (List Bool)) (A2 : Option Addr) (c2 : Nat) (l2 : List Int) (a3 : Int) (r : Bool) (w : World) (hr0 : Kd.C k77 w A0 l0.length l0) (hc0 : l0.length ≤ c0) (hr1 : Kd.C (Kd.slice 4 Kd.bool) w A1 l1.length l1) (hc1 : l1.length ≤ c1) (hr2 : Kd.C (Kd.int .i64) w A2 l2.length l2) (hc2 : l2.length ≤ c2) (h : impl_IsWithin.f k l0 l1 l2 a3 = some r) :
  Calls Try.prog 52 #[.slice A0 l0.length c0, .slice A1 l1.length c1, .slice A2 l2.length c2, .int .i64 a3] w fun e w' => e = .returned (.bool r) ∧ Below w.heap.size w w' := by
 have HR0 := Aside0.mk hr0
 have HC0 := Aside0.mk hc0
 clear hr0 hc0
 have HR1 := Aside0.mk hr1
 have HC1 := Aside0.mk hc1
 clear hr1 hc1
 have HR2 := Aside0.mk hr2
 have HC2 := Aside0.mk hc2
 clear hr2 hc2
 have HB := Aside0.mk (Below.refl w.heap.size w)
 have H : ((impl_within.f a3 0 1000).bind fun t304 => (if t304 = true then ((impl_PlanCost.f k l0 l1 l2).bind fun bt305 => ((impl_DayBound.f k l0 l2).bind fun bt307 => (if bt305.2 = 0 then (if bt307.2 = 0 then ((impl_GapOf.f k bt305.1 bt307.1).bind fun bt309 => (if bt309.2 = 0 then (some (decide (bt309.1 ≤ a3))) else (some false))) else (some false)) else (some false)))) else (some false))) = some r := h
 clear h
 replace H := Option.bind_eq_some_iff.mp H
 obtain ⟨t304, A50, H⟩ := H
 replace H : (if t304 = true then ((impl_PlanCost.f k l0 l1 l2).bind fun bt305 => ((impl_DayBound.f k l0 l2).bind fun bt307 => (if bt305.2 = 0 then (if bt307.2 = 0 then ((impl_GapOf.f k bt305.1 bt307.1).bind fun bt309 => (if bt309.2 = 0 then (some (decide (bt309.1 ≤ a3))) else (some false))) else (some false)) else (some false)))) else (some false)) = some r := H
 have A5 := Aside0.mk A50
 clear A50
 by_cases c6 : t304 = true
 ·
  subst c6
  have H1 : ((impl_PlanCost.f k l0 l1 l2).bind fun bt305 => ((impl_DayBound.f k l0 l2).bind fun bt307 => (if bt305.2 = 0 then (if bt307.2 = 0 then ((impl_GapOf.f k bt305.1 bt307.1).bind fun bt309 => (if bt309.2 = 0 then (some (decide (bt309.1 ≤ a3))) else (some false))) else (some false)) else (some false)))) = some r := by rw [if_pos rfl] at H; exact H
  clear H
  have H := H1
  clear H1
  replace H := Option.bind_eq_some_iff.mp H
  obtain ⟨⟨t305, t306⟩, A70, H⟩ := H
  replace H : ((impl_DayBound.f k l0 l2).bind fun bt307 => (if t306 = 0 then (if bt307.2 = 0 then ((impl_GapOf.f k t305 bt307.1).bind fun bt309 => (if bt309.2 = 0 then (some (decide (bt309.1 ≤ a3))) else (some false))) else (some false)) else (some false))) = some r := H
  have A7 := Aside0.mk A70
  clear A70
  replace H := Option.bind_eq_some_iff.mp H
  obtain ⟨⟨t307, t308⟩, A80, H⟩ := H
  replace H : (if t306 = 0 then (if t308 = 0 then ((impl_GapOf.f k t305 t307).bind fun bt309 => (if bt309.2 = 0 then (some (decide (bt309.1 ≤ a3))) else (some false))) else (some false)) else (some false)) = some r := H
  have A8 := Aside0.mk A80
  clear A80
  by_cases c9 : t306 = 0
  ·
   rw [if_pos c9] at H
   have c9b0 : (t306 == 0) = true := beq_iff_eq.mpr c9
   have c9b1 : (t306 != 0) = false := bne_eq_false_iff_eq.mpr c9
   clear c9
   by_cases c10 : t308 = 0
   ·
    rw [if_pos c10] at H
    have c10b0 : (t308 == 0) = true := beq_iff_eq.mpr c10
    have c10b1 : (t308 != 0) = false := bne_eq_false_iff_eq.mpr c10
    clear c10
    replace H := Option.bind_eq_some_iff.mp H
    obtain ⟨⟨t309, t310⟩, A110, H⟩ := H
    replace H : (if t310 = 0 then (some (decide (t309 ≤ a3))) else (some false)) = some r := H
    have A11 := Aside0.mk A110
    clear A110
    by_cases c12 : t310 = 0
    ·
     rw [if_pos c12] at H
     have c12b0 : (t310 == 0) = true := beq_iff_eq.mpr c12
     have c12b1 : (t310 != 0) = false := bne_eq_false_iff_eq.mpr c12
     clear c12
     obtain rfl := Option.some.inj H
     go_enter Try.func52, Try.ntmps52
     go_wp2_with (first | ((with_reducible refine gate_callee (f := 104) rfl ?_); refine goesL_ (some 16) rfl rfl Try.func104 (by kernel_rfl) rfl #[.int .i64 a3, .int .i64 0, .int .i64 1000] rfl mT_ ?_; (with_reducible refine (impl_within.calls a3 0 1000 true _ A5.out).mono ?_); rintro e w' ⟨rfl, ⟨nd, rfl⟩⟩; refine ⟨_, rfl, ?_⟩) | ((with_reducible refine gate_callee (f := 41) rfl ?_); refine goesL_ (some 22) rfl rfl Try.func41 (by kernel_rfl) rfl #[.slice A0 l0.length c0, .slice A1 l1.length c1, .slice A2 l2.length c2] rfl mT_ ?_; (with_reducible refine (impl_PlanCost.calls k _ _ l0 _ _ l1 _ _ l2 t305 t306 _ ?side1 ?side2 ?side3 ?side4 ?side5 ?side6 A7.out).mono ?_); (case side1 => exact cA_ HR0.out); (case side2 => exact HC0.out); (case side3 => exact cA_ HR1.out); (case side4 => exact HC1.out); (case side5 => exact cA_ HR2.out); (case side6 => exact HC2.out); rintro e w13 ⟨rfl, hb⟩; refine ⟨_, rfl, ?_⟩; have n0_ := Aside0.mk (below_step bB_ hb); clear HB; have HB := n0_; clear n0_; (try clear hb); (try clear hb2); (try clear hk); (try clear hi)) | ((with_reducible refine gate_callee (f := 17) rfl ?_); refine goesL_ (some 28) rfl rfl Try.func17 (by kernel_rfl) rfl #[.slice A0 l0.length c0, .slice A2 l2.length c2] rfl mT_ ?_; (with_reducible refine (impl_DayBound.calls k _ _ l0 _ _ l2 t307 t308 _ ?side1 ?side2 ?side3 ?side4 A8.out).mono ?_); (case side1 => exact cA_ (Kd.C_below HR0.out HB.out)); (case side2 => exact HC0.out); (case side3 => exact cA_ (Kd.C_below HR2.out HB.out)); (case side4 => exact HC2.out); rintro e w14 ⟨rfl, hb⟩; refine ⟨_, rfl, ?_⟩; have n0_ := Aside0.mk (below_step bB_ hb); clear HB; have HB := n0_; clear n0_; (try clear hb); (try clear hb2); (try clear hk); (try clear hi)) | ((with_reducible refine gate_callee (f := 108) rfl ?_); refine goesL_ (some 40) rfl rfl Try.func108 (by kernel_rfl) rfl #[.int .i64 t305, .int .i64 t307] rfl mT_ ?_; (with_reducible refine (impl_GapOf.calls k t305 t307 t309 t310 _ A11.out).mono ?_); rintro e w' ⟨rfl, ⟨nd, rfl⟩⟩; refine ⟨_, rfl, ?_⟩))
     go_ret
     exact ⟨er_, bB_⟩
    ·
     rw [if_neg c12] at H
     have c12b0 : (t310 == 0) = false := beq_eq_false_iff_ne.mpr c12
     have c12b1 : (t310 != 0) = true := bne_iff_ne.mpr c12
     obtain rfl := Option.some.inj H
     go_enter Try.func52, Try.ntmps52
     go_wp2_with (first | ((with_reducible refine gate_callee (f := 104) rfl ?_); refine goesL_ (some 16) rfl rfl Try.func104 (by kernel_rfl) rfl #[.int .i64 a3, .int .i64 0, .int .i64 1000] rfl mT_ ?_; (with_reducible refine (impl_within.calls a3 0 1000 true _ A5.out).mono ?_); rintro e w' ⟨rfl, ⟨nd, rfl⟩⟩; refine ⟨_, rfl, ?_⟩) | ((with_reducible refine gate_callee (f := 41) rfl ?_); refine goesL_ (some 22) rfl rfl Try.func41 (by kernel_rfl) rfl #[.slice A0 l0.length c0, .slice A1 l1.length c1, .slice A2 l2.length c2] rfl mT_ ?_; (with_reducible refine (impl_PlanCost.calls k _ _ l0 _ _ l1 _ _ l2 t305 t306 _ ?side1 ?side2 ?side3 ?side4 ?side5 ?side6 A7.out).mono ?_); (case side1 => exact cA_ HR0.out); (case side2 => exact HC0.out); (case side3 => exact cA_ HR1.out); (case side4 => exact HC1.out); (case side5 => exact cA_ HR2.out); (case side6 => exact HC2.out); rintro e w15 ⟨rfl, hb⟩; refine ⟨_, rfl, ?_⟩; have n0_ := Aside0.mk (below_step bB_ hb); clear HB; have HB := n0_; clear n0_; (try clear hb); (try clear hb2); (try clear hk); (try clear hi)) | ((with_reducible refine gate_callee (f := 17) rfl ?_); refine goesL_ (some 28) rfl rfl Try.func17 (by kernel_rfl) rfl #[.slice A0 l0.length c0, .slice A2 l2.length c2] rfl mT_ ?_; (with_reducible refine (impl_DayBound.calls k _ _ l0 _ _ l2 t307 t308 _ ?side1 ?side2 ?side3 ?side4 A8.out).mono ?_); (case side1 => exact cA_ (Kd.C_below HR0.out HB.out)); (case side2 => exact HC0.out); (case side3 => exact cA_ (Kd.C_below HR2.out HB.out)); (case side4 => exact HC2.out); rintro e w16 ⟨rfl, hb⟩; refine ⟨_, rfl, ?_⟩; have n0_ := Aside0.mk (below_step bB_ hb); clear HB; have HB := n0_; clear n0_; (try clear hb); (try clear hb2); (try clear hk); (try clear hi)) | ((with_reducible refine gate_callee (f := 108) rfl ?_); refine goesL_ (some 40) rfl rfl Try.func108 (by kernel_rfl) rfl #[.int .i64 t305, .int .i64 t307] rfl mT_ ?_; (with_reducible refine (impl_GapOf.calls k t305 t307 t309 t310 _ A11.out).mono ?_); rintro e w' ⟨rfl, ⟨nd, rfl⟩⟩; refine ⟨_, rfl, ?_⟩))
     go_ret
     exact ⟨er_, bB_⟩
   ·
    rw [if_neg c10] at H
    have c10b0 : (t308 == 0) = false := beq_eq_false_iff_ne.mpr c10
    have c10b1 : (t308 != 0) = true := bne_iff_ne.mpr c10
    obtain rfl := Option.some.inj H
    go_enter Try.func52, Try.ntmps52
    go_wp2_with (first | ((with_reducible refine gate_callee (f := 104) rfl ?_); refine goesL_ (some 16) rfl rfl Try.func104 (by kernel_rfl) rfl #[.int .i64 a3, .int .i64 0, .int .i64 1000] rfl mT_ ?_; (with_reducible refine (impl_within.calls a3 0 1000 true _ A5.out).mono ?_); rintro e w' ⟨rfl, ⟨nd, rfl⟩⟩; refine ⟨_, rfl, ?_⟩) | ((with_reducible refine gate_callee (f := 41) rfl ?_); refine goesL_ (some 22) rfl rfl Try.func41 (by kernel_rfl) rfl #[.slice A0 l0.length c0, .slice A1 l1.length c1, .slice A2 l2.length c2] rfl mT_ ?_; (with_reducible refine (impl_PlanCost.calls k _ _ l0 _ _ l1 _ _ l2 t305 t306 _ ?side1 ?side2 ?side3 ?side4 ?side5 ?side6 A7.out).mono ?_); (case side1 => exact cA_ HR0.out); (case side2 => exact HC0.out); (case side3 => exact cA_ HR1.out); (case side4 => exact HC1.out); (case side5 => exact cA_ HR2.out); (case side6 => exact HC2.out); rintro e w17 ⟨rfl, hb⟩; refine ⟨_, rfl, ?_⟩; have n0_ := Aside0.mk (below_step bB_ hb); clear HB; have HB := n0_; clear n0_; (try clear hb); (try clear hb2); (try clear hk); (try clear hi)) | ((with_reducible refine gate_callee (f := 17) rfl ?_); refine goesL_ (some 28) rfl rfl Try.func17 (by kernel_rfl) rfl #[.slice A0 l0.length c0, .slice A2 l2.length c2] rfl mT_ ?_; (with_reducible refine (impl_DayBound.calls k _ _ l0 _ _ l2 t307 t308 _ ?side1 ?side2 ?side3 ?side4 A8.out).mono ?_); (case side1 => exact cA_ (Kd.C_below HR0.out HB.out)); (case side2 => exact HC0.out); (case side3 => exact cA_ (Kd.C_below HR2.out HB.out)); (case side4 => exact HC2.out); rintro e w18 ⟨rfl, hb⟩; refine ⟨_, rfl, ?_⟩; have n0_ := Aside0.mk (below_step bB_ hb); clear HB; have HB := n0_; clear n0_; (try clear hb); (try clear hb2); (try clear hk); (try clear hi)))
    go_ret
    exact ⟨er_, bB_⟩
  ·
   rw [if_neg c9] at H
   have c9b0 : (t306 == 0) = false := beq_eq_false_iff_ne.mpr c9
   have c9b1 : (t306 != 0) = true := bne_iff_ne.mpr c9
   obtain rfl := Option.some.inj H
   go_enter Try.func52, Try.ntmps52
   go_wp2_with (first | ((with_reducible refine gate_callee (f := 104) rfl ?_); refine goesL_ (some 16) rfl rfl Try.func104 (by kernel_rfl) rfl #[.int .i64 a3, .int .i64 0, .int .i64 1000] rfl mT_ ?_; (with_reducible refine (impl_within.calls a3 0 1000 true _ A5.out).mono ?_); rintro e w' ⟨rfl, ⟨nd, rfl⟩⟩; refine ⟨_, rfl, ?_⟩) | ((with_reducible refine gate_callee (f := 41) rfl ?_); refine goesL_ (some 22) rfl rfl Try.func41 (by kernel_rfl) rfl #[.slice A0 l0.length c0, .slice A1 l1.length c1, .slice A2 l2.length c2] rfl mT_ ?_; (with_reducible refine (impl_PlanCost.calls k _ _ l0 _ _ l1 _ _ l2 t305 t306 _ ?side1 ?side2 ?side3 ?side4 ?side5 ?side6 A7.out).mono ?_); (case side1 => exact cA_ HR0.out); (case side2 => exact HC0.out); (case side3 => exact cA_ HR1.out); (case side4 => exact HC1.out); (case side5 => exact cA_ HR2.out); (case side6 => exact HC2.out); rintro e w19 ⟨rfl, hb⟩; refine ⟨_, rfl, ?_⟩; have n0_ := Aside0.mk (below_step bB_ hb); clear HB; have HB := n0_; clear n0_; (try clear hb); (try clear hb2); (try clear hk); (try clear hi)) | ((with_reducible refine gate_callee (f := 17) rfl ?_); refine goesL_ (some 28) rfl rfl Try.func17 (by kernel_rfl) rfl #[.slice A0 l0.length c0, .slice A2 l2.length c2] rfl mT_ ?_; (with_reducible refine (impl_DayBound.calls k _ _ l0 _ _ l2 t307 t308 _ ?side1 ?side2 ?side3 ?side4 A8.out).mono ?_); (case side1 => exact cA_ (Kd.C_below HR0.out HB.out)); (case side2 => exact HC0.out); (case side3 => exact cA_ (Kd.C_below HR2.out HB.out)); (case side4 => exact HC2.out); rintro e w20 ⟨rfl, hb⟩; refine ⟨_, rfl, ?_⟩; have n0_ := Aside0.mk (below_step bB_ hb); clear HB; have HB := n0_; clear n0_; (try clear hb); (try clear hb2); (try clear hk); (try clear hi)))
   go_ret
   exact ⟨er_, bB_⟩
 ·
  replace c6 := Bool.eq_false_iff.mpr c6
  subst c6
  have H1 : (some false) = some r := by rw [if_neg (show ¬ (false = true) by decide)] at H; exact H
  clear H
  have H := H1
  clear H1
  obtain rfl := Option.some.inj H
  go_enter Try.func52, Try.ntmps52
  go_wp2_with (first | ((with_reducible refine gate_callee (f := 104) rfl ?_); refine goesL_ (some 16) rfl rfl Try.func104 (by kernel_rfl) rfl #[.int .i64 a3, .int .i64 0, .int .i64 1000] rfl mT_ ?_; (with_reducible refine (impl_within.calls a3 0 1000 false _ A5.out).mono ?_); rintro e w' ⟨rfl, ⟨nd, rfl⟩⟩; refine ⟨_, rfl, ?_⟩))
  go_ret
  exact ⟨er_, bB_⟩


end Go.Proofs.Ytebkgebibammiaa.PFnExactIsWithin
