-- PRINTED by print.py (a twelfth state) out of the translation. Not trusted: Lean checks it.
import Derived.Test.YtebkgebibammiaaPFnExactIsWithinx0
import Derived.Test.YtebkgebibammiaaPFnExactIsWithinx10
import Derived.Test.YtebkgebibammiaaPFnExactIsWithinx11
namespace Go.Proofs.Ytebkgebibammiaa.PFnExactIsWithin
open Go.RowKit Go.Proofs.YtebkgebibammiaaW.PrintWords Go.Proofs.YtebkgebibammiaaW.PrintLast Go.Proofs.YtebkgebibammiaaW.PrintMore
attribute [local go_sem] max2_int min2_int max_two min_two max_three min_three max_four min_four   -- for this text's walks alone
set_option linter.unusedVariables false
set_option linter.unusedSimpArgs false

/-! ### impl_hourBound: function 62 -/
def impl_hourBound.l0 : Nat → List (S77) → Int → Int → List Int → Int → Int → Option (Int × Bool)
 | 0, _, _, _, _, _, _ => none
 | k + 1, x0, x1, x6, x11, x12, x13 => if x13 < x12 then (if 0 ≤ x13 then (if x13 < (x11.length : Int) then (if 0 ≤ (rd x11 x13) then (if (rd x11 x13) < (x0.length : Int) then (impl_hourBound.l0 k x0 (wrap64 (x1 - (mn ((rd_T77 x0 (rd x11 x13)).f2) x1))) (wrap64 (x6 + (wrap64 ((mn ((rd_T77 x0 (rd x11 x13)).f2) x1) * ((rd_T77 x0 (rd x11 x13)).f3))))) x11 x12 (wrap64 (x13 + 1))) else (none)) else (none)) else (none)) else (none)) else (some (x6, (x1 == 0)))
def impl_hourBound.f (k : Nat) (l0 : List (S77)) (a1 : Int) : Option (Int × Bool) := (impl_meritOrder.f l0).bind fun t282 => (impl_hourBound.l0 k l0 a1 0 t282 (t282.length : Int) 0)
theorem impl_hourBound.mono_l : ∀ k, (∀ y0 y1 y2 y3 y4 y5, LeO (impl_hourBound.l0 k y0 y1 y2 y3 y4 y5) (impl_hourBound.l0 (k + 1) y0 y1 y2 y3 y4 y5))
 | 0 => fun _ _ _ _ _ _ r h => by simp [impl_hourBound.l0] at h
 | k + 1 => by
  have ih0 := impl_hourBound.mono_l k
  ·
   intro y0 y1 y2 y3 y4 y5
   unfold impl_hourBound.l0
   repeat' first
   | (with_reducible exact ih0 _ _ _ _ _ _)
   | (with_reducible exact LeO.refl _)
   | (with_reducible exact LeO.none _)
   | (with_reducible refine LeO.ite ?_ ?_)
   | (with_reducible refine LeO.bind ?_ (fun _ => ?_))
   | exact ih0 _ _ _ _ _ _
   | exact LeO.none _
   | refine LeO.ite ?_ ?_
   | refine LeO.bind ?_ (fun _ => ?_)
theorem impl_hourBound.mono : ∀ a0 a1 k, LeO (impl_hourBound.f k a0 a1) (impl_hourBound.f (k + 1) a0 a1) := by
 intro a0 a1 k
 have ih0 := impl_hourBound.mono_l k
 unfold impl_hourBound.f
 repeat' first
   | (with_reducible exact ih0 _ _ _ _ _ _)
   | (with_reducible exact LeO.refl _)
   | (with_reducible exact LeO.none _)
   | (with_reducible refine LeO.ite ?_ ?_)
   | (with_reducible refine LeO.bind ?_ (fun _ => ?_))
   | exact ih0 _ _ _ _ _ _
   | exact LeO.none _
   | refine LeO.ite ?_ ?_
   | refine LeO.bind ?_ (fun _ => ?_)
set_option maxHeartbeats 8000000 in
set_option maxRecDepth 100000 in
theorem impl_hourBound.calls (k : Nat) (A0 : Option Addr) (c0 : Nat) (l0 : List (S77)) (a1 : Int) (r1 : Int) (r2 : Bool) (w : World) (hr0 : Kd.C k77 w A0 l0.length l0) (hc0 : l0.length ≤ c0) (h : impl_hourBound.f k l0 a1 = some (r1, r2)) :
  Calls Try.prog 62 #[.slice A0 l0.length c0, .int .i64 a1] w fun e w' => e = .returned (.tuple #[.int .i64 r1, .bool r2]) ∧ Below w.heap.size w w' := by
 have HR0 := Aside0.mk hr0
 have HC0 := Aside0.mk hc0
 clear hr0 hc0
 have HB := Aside0.mk (Below.refl w.heap.size w)
 have H : ((impl_meritOrder.f l0).bind fun t282 => (impl_hourBound.l0 k l0 a1 0 t282 (t282.length : Int) 0)) = some (r1, r2) := h
 clear h
 replace H := Option.bind_eq_some_iff.mp H
 obtain ⟨t282, A30, H⟩ := H
 replace H : (impl_hourBound.l0 k l0 a1 0 t282 (t282.length : Int) 0) = some (r1, r2) := H
 have A3 := Aside0.mk A30
 clear A30
 have H' := Aside0.mk H
 clear H
 go_enter Try.func62, Try.ntmps62
 go_wp2_with (first | ((with_reducible refine gate_callee (f := 114) rfl ?_); refine goesL_ (some 11) rfl rfl Try.func114 (by kernel_rfl) rfl #[.slice A0 l0.length c0] rfl mT_ ?_; (with_reducible refine (impl_meritOrder.calls _ _ l0 t282 _ ?side1 ?side2 A3.out).mono ?_); (case side1 => exact cA_ HR0.out); (case side2 => exact HC0.out); rintro e w4 ⟨v283, rfl, ho0, hb⟩; refine ⟨_, rfl, ?_⟩; have n0_ := Aside0.mk (Kd.R_lower ho0 (below_size bB_)); have n1_ := Aside0.mk (below_step bB_ hb); clear HB; have HO284 := n0_; have HB := n1_; clear n0_ n1_; (try clear hb); (try clear hb2); (try clear hk); (try clear hi); (try clear ho0); obtain ⟨Ao5, co5, eo5⟩ := Kd.R_slice HO284.out; subst eo5))
 go_loopg [1, 6, 13] k (fun kq v1 v6 v13 w' => ∃ (x1_1 : Int) (x6_1 : Int) (x13_1 : Int), v1 = .int .i64 x1_1 ∧ v6 = .int .i64 x6_1 ∧ v13 = .int .i64 x13_1 ∧ Aside0 (impl_hourBound.l0 kq l0 x1_1 x6_1 t282 (t282.length : Int) x13_1 = some (r1, r2)) ∧ Aside0 (kq ≤ k) ∧ Aside0 (Kd.R (Kd.int .i64) 2 w' w.heap.size (fun _ => True) (.slice Ao5 t282.length co5) t282) ∧ Aside0 (Below w.heap.size w w'))
 case atStart => exact ⟨(a1), (0), (0), rs_, rs_, rs_, H', ⟨Nat.le_refl _⟩, ⟨rA_ HO284.out⟩, ⟨bB_⟩⟩
 case round =>
  clear H'
  try clear c1
  try clear p2
  obtain ⟨x1_1, x6_1, x13_1, rfl, rfl, rfl, HA, HK1, HO_11, HB⟩ := hrel
  cases gk with
  | zero => exact absurd HA.out (by simp [impl_hourBound.l0])
  | succ k1 =>
   have H := HA.out
   clear HA
   simp only [impl_hourBound.l0] at H
   by_cases c6 : x13_1 < (t282.length : Int)
   ·
    rw [if_pos c6] at H
    have c6b0 : decide (x13_1 < (t282.length : Int)) = true := decide_eq_true c6
    clear c6
    by_cases c7 : 0 ≤ x13_1
    ·
     rw [if_pos c7] at H
     have c7b0 : decide (0 ≤ x13_1) = true := decide_eq_true c7
     clear c7
     by_cases c8 : x13_1 < (t282.length : Int)
     ·
      rw [if_pos c8] at H
      have c8b0 : decide (x13_1 < (t282.length : Int)) = true := decide_eq_true c8
      clear c8
      by_cases c9 : 0 ≤ (rd t282 x13_1)
      ·
       rw [if_pos c9] at H
       have c9b0 : decide (0 ≤ (rd t282 x13_1)) = true := decide_eq_true c9
       clear c9
       by_cases c10 : (rd t282 x13_1) < (l0.length : Int)
       ·
        rw [if_pos c10] at H
        have c10b0 : decide ((rd t282 x13_1) < (l0.length : Int)) = true := decide_eq_true c10
        clear c10
        obtain ⟨ji11, hji11⟩ : ∃ j_ : Int, (mn ((rd_T77 l0 (rd t282 x13_1)).f2) x1_1) = j_ := ⟨_, rfl⟩
        replace H : (impl_hourBound.l0 k1 l0 (wrap64 (x1_1 - (ji11))) (wrap64 (x6_1 + (wrap64 ((ji11) * ((rd_T77 l0 (rd t282 x13_1)).f3))))) t282 (t282.length : Int) (wrap64 (x13_1 + 1))) = some (r1, r2) := by first | (rw [hji11] at H; exact H) | (simp only [hji11] at H ⊢; exact H)
        have hji11_ : (if x1_1 < ((rd_T77 l0 (rd t282 x13_1)).f2) then x1_1 else ((rd_T77 l0 (rd t282 x13_1)).f2)) = ji11 := hji11
        have H' := Aside0.mk H
        clear H
        have p285 : 0 ≤ (x13_1 : Int) := of_decide_eq_true as_
        have q285 : x13_1 < (t282.length : Int) := of_decide_eq_true as_
        obtain ⟨ad285, e285, hx285_0⟩ := Kd.at_int (Kd.R_reads' HO_11.out).2.2 x13_1 p285 q285
        cases e285
        replace p285 := eq_true p285
        replace q285 := eq_true q285
        have p286 : 0 ≤ ((rd t282 x13_1) : Int) := of_decide_eq_true as_
        have q286 : (rd t282 x13_1) < (l0.length : Int) := of_decide_eq_true as_
        obtain ⟨ad286, e286, hx286_0, hx286_1, hx286_2, hx286_3, hx286_4, hx286_5, hx286_6⟩ := at_T77 HR0.out (rd t282 x13_1) p286 q286
        cases e286
        replace hx286_0 := cl_ HB hx286_0
        replace hx286_1 := cl_ HB hx286_1
        replace hx286_2 := cl_ HB hx286_2
        replace hx286_3 := cl_ HB hx286_3
        replace hx286_4 := cl_ HB hx286_4
        replace hx286_5 := cl_ HB hx286_5
        replace hx286_6 := cl_ HB hx286_6
        replace p286 := eq_true p286
        replace q286 := eq_true q286
        have p287 : 0 ≤ ((rd t282 x13_1) : Int) := of_decide_eq_true as_
        have q287 : (rd t282 x13_1) < (l0.length : Int) := of_decide_eq_true as_
        obtain ⟨ad287, e287, hx287_0, hx287_1, hx287_2, hx287_3, hx287_4, hx287_5, hx287_6⟩ := at_T77 HR0.out (rd t282 x13_1) p287 q287
        obtain rfl : ad286 = ad287 := (by injection e287)
        replace hx287_0 := cl_ HB hx287_0
        replace hx287_1 := cl_ HB hx287_1
        replace hx287_2 := cl_ HB hx287_2
        replace hx287_3 := cl_ HB hx287_3
        replace hx287_4 := cl_ HB hx287_4
        replace hx287_5 := cl_ HB hx287_5
        replace hx287_6 := cl_ HB hx287_6
        replace p287 := eq_true p287
        replace q287 := eq_true q287
        go_wp2
        go_roundg k1
        case measure => have := HK1.out; omega
        case rel => exact ⟨(wrap64 (x1_1 - (ji11))), (wrap64 (x6_1 + (wrap64 ((ji11) * ((rd_T77 l0 (rd t282 x13_1)).f3))))), (wrap64 (x13_1 + 1)), (by first | rfl | (simp; done) | (simp only [← hji11] <;> (first | rfl | simp)) | (simp [*]; done)), (by first | rfl | (simp; done) | (simp only [← hji11] <;> (first | rfl | simp)) | (simp [*]; done)), rs_, H', ⟨by have := HK1.out; omega⟩, ⟨rA_ HO_11.out⟩, ⟨bB_⟩⟩
       ·
        rw [if_neg c10] at H
        exact absurd H (by simp)
      ·
       rw [if_neg c9] at H
       exact absurd H (by simp)
     ·
      rw [if_neg c8] at H
      exact absurd H (by simp)
    ·
     rw [if_neg c7] at H
     exact absurd H (by simp)
   ·
    rw [if_neg c6] at H
    have c6b0 : decide (x13_1 < (t282.length : Int)) = false := decide_eq_false c6
    clear c6
    simp only [Option.some.injEq, Prod.mk.injEq] at H
    obtain ⟨rfl, rfl⟩ := H
    go_wp2
    go_ret2
    exact ⟨er_, bB_⟩

/-! ### impl_DayBound: function 17 -/
def impl_DayBound.l0 : Nat → List (S77) → Int → List Int → Int → Int → Option (Int × Int)
 | 0, _, _, _, _, _ => none
 | k + 1, x0, x7, x21, x22, x23 => if x23 < x22 then (if 0 ≤ x23 then (if x23 < (x21.length : Int) then ((impl_hourBound.f k x0 (rd x21 x23)).bind fun bt291 => (if bt291.2 = true then (impl_DayBound.l0 k x0 (wrap64 (x7 + bt291.1)) x21 x22 (wrap64 (x23 + 1))) else (some (0, 3)))) else (none)) else (none)) else (some (x7, 0))
def impl_DayBound.f (k : Nat) (l0 : List (S77)) (l1 : List Int) : Option (Int × Int) := (impl_demandsCode.f k l0 l1).bind fun t288 => (if t288 = 0 then ((impl_startBound.f k l0 l1).bind fun t289 => (impl_DayBound.l0 k l0 t289 l1 (l1.length : Int) 0)) else (some (0, t288)))
theorem impl_DayBound.mono_l : ∀ k, (∀ y0 y1 y2 y3 y4, LeO (impl_DayBound.l0 k y0 y1 y2 y3 y4) (impl_DayBound.l0 (k + 1) y0 y1 y2 y3 y4))
 | 0 => fun _ _ _ _ _ r h => by simp [impl_DayBound.l0] at h
 | k + 1 => by
  have ih0 := impl_DayBound.mono_l k
  ·
   intro y0 y1 y2 y3 y4
   unfold impl_DayBound.l0
   repeat' first
   | (with_reducible exact ih0 _ _ _ _ _)
   | (with_reducible exact impl_demandsCode.mono _ _ _)
   | (with_reducible exact impl_hourBound.mono _ _ _)
   | (with_reducible exact impl_startBound.mono _ _ _)
   | (with_reducible exact LeO.refl _)
   | (with_reducible exact LeO.none _)
   | (with_reducible refine LeO.ite ?_ ?_)
   | (with_reducible refine LeO.bind ?_ (fun _ => ?_))
   | exact ih0 _ _ _ _ _
   | exact impl_demandsCode.mono _ _ _
   | exact impl_hourBound.mono _ _ _
   | exact impl_startBound.mono _ _ _
   | exact LeO.none _
   | refine LeO.ite ?_ ?_
   | refine LeO.bind ?_ (fun _ => ?_)
theorem impl_DayBound.mono : ∀ a0 a1 k, LeO (impl_DayBound.f k a0 a1) (impl_DayBound.f (k + 1) a0 a1) := by
 intro a0 a1 k
 have ih0 := impl_DayBound.mono_l k
 unfold impl_DayBound.f
 repeat' first
   | (with_reducible exact ih0 _ _ _ _ _)
   | (with_reducible exact impl_demandsCode.mono _ _ _)
   | (with_reducible exact impl_hourBound.mono _ _ _)
   | (with_reducible exact impl_startBound.mono _ _ _)
   | (with_reducible exact LeO.refl _)
   | (with_reducible exact LeO.none _)
   | (with_reducible refine LeO.ite ?_ ?_)
   | (with_reducible refine LeO.bind ?_ (fun _ => ?_))
   | exact ih0 _ _ _ _ _
   | exact impl_demandsCode.mono _ _ _
   | exact impl_hourBound.mono _ _ _
   | exact impl_startBound.mono _ _ _
   | exact LeO.none _
   | refine LeO.ite ?_ ?_
   | refine LeO.bind ?_ (fun _ => ?_)
set_option maxHeartbeats 8000000 in
set_option maxRecDepth 100000 in
theorem impl_DayBound.calls (k : Nat) (A0 : Option Addr) (c0 : Nat) (l0 : List (S77)) (A1 : Option Addr) (c1 : Nat) (l1 : List Int) (r1 : Int) (r2 : Int) (w : World) (hr0 : Kd.C k77 w A0 l0.length l0) (hc0 : l0.length ≤ c0) (hr1 : Kd.C (Kd.int .i64) w A1 l1.length l1) (hc1 : l1.length ≤ c1) (h : impl_DayBound.f k l0 l1 = some (r1, r2)) :
  Calls Try.prog 17 #[.slice A0 l0.length c0, .slice A1 l1.length c1] w fun e w' => e = .returned (.tuple #[.int .i64 r1, .int .i64 r2]) ∧ Below w.heap.size w w' := by
 have HR0 := Aside0.mk hr0
 have HC0 := Aside0.mk hc0
 clear hr0 hc0
 have HR1 := Aside0.mk hr1
 have HC1 := Aside0.mk hc1
 clear hr1 hc1
 have HB := Aside0.mk (Below.refl w.heap.size w)
 have H : ((impl_demandsCode.f k l0 l1).bind fun t288 => (if t288 = 0 then ((impl_startBound.f k l0 l1).bind fun t289 => (impl_DayBound.l0 k l0 t289 l1 (l1.length : Int) 0)) else (some (0, t288)))) = some (r1, r2) := h
 clear h
 replace H := Option.bind_eq_some_iff.mp H
 obtain ⟨t288, A30, H⟩ := H
 replace H : (if t288 = 0 then ((impl_startBound.f k l0 l1).bind fun t289 => (impl_DayBound.l0 k l0 t289 l1 (l1.length : Int) 0)) else (some (0, t288))) = some (r1, r2) := H
 have A3 := Aside0.mk A30
 clear A30
 by_cases c4 : t288 = 0
 ·
  rw [if_pos c4] at H
  have c4b0 : (t288 == 0) = true := beq_iff_eq.mpr c4
  have c4b1 : (t288 != 0) = false := bne_eq_false_iff_eq.mpr c4
  clear c4
  replace H := Option.bind_eq_some_iff.mp H
  obtain ⟨t289, A50, H⟩ := H
  replace H : (impl_DayBound.l0 k l0 t289 l1 (l1.length : Int) 0) = some (r1, r2) := H
  have A5 := Aside0.mk A50
  clear A50
  have H' := Aside0.mk H
  clear H
  go_enter Try.func17, Try.ntmps17
  go_wp2_with (first | ((with_reducible refine gate_callee (f := 60) rfl ?_); refine goesL_ (some 14) rfl rfl Try.func60 (by kernel_rfl) rfl #[.slice A0 l0.length c0, .slice A1 l1.length c1] rfl mT_ ?_; (with_reducible refine (impl_demandsCode.calls k _ _ l0 _ _ l1 t288 _ ?side1 ?side2 ?side3 ?side4 A3.out).mono ?_); (case side1 => exact cA_ HR0.out); (case side2 => exact HC0.out); (case side3 => exact cA_ HR1.out); (case side4 => exact HC1.out); rintro e w6 ⟨rfl, hb⟩; refine ⟨_, rfl, ?_⟩; have n0_ := Aside0.mk (below_step bB_ hb); clear HB; have HB := n0_; clear n0_; (try clear hb); (try clear hb2); (try clear hk); (try clear hi)) | ((with_reducible refine gate_callee (f := 61) rfl ?_); refine goesL_ (some 20) rfl rfl Try.func61 (by kernel_rfl) rfl #[.slice A0 l0.length c0, .slice A1 l1.length c1] rfl mT_ ?_; (with_reducible refine (impl_startBound.calls k _ _ l0 _ _ l1 t289 _ ?side1 ?side2 ?side3 ?side4 A5.out).mono ?_); (case side1 => exact cA_ (Kd.C_below HR0.out HB.out)); (case side2 => exact HC0.out); (case side3 => exact cA_ (Kd.C_below HR1.out HB.out)); (case side4 => exact HC1.out); rintro e w7 ⟨rfl, hb⟩; refine ⟨_, rfl, ?_⟩; have n0_ := Aside0.mk (below_step bB_ hb); clear HB; have HB := n0_; clear n0_; (try clear hb); (try clear hb2); (try clear hk); (try clear hi)))
  go_loopg [7, 23] k (fun kq v7 v23 w' => ∃ (x7_1 : Int) (x23_1 : Int), v7 = .int .i64 x7_1 ∧ v23 = .int .i64 x23_1 ∧ Aside0 (impl_DayBound.l0 kq l0 x7_1 l1 (l1.length : Int) x23_1 = some (r1, r2)) ∧ Aside0 (kq ≤ k) ∧ Aside0 (Below w.heap.size w w'))
  case atStart => exact ⟨(t289), (0), rs_, rs_, H', ⟨Nat.le_refl _⟩, ⟨bB_⟩⟩
  case round =>
   clear H'
   try clear c1
   try clear p2
   try clear c4
   try clear c4b0
   try clear c4b1
   try clear c6
   obtain ⟨x7_1, x23_1, rfl, rfl, HA, HK1, HB⟩ := hrel
   cases gk with
   | zero => exact absurd HA.out (by simp [impl_DayBound.l0])
   | succ k1 =>
    have H := HA.out
    clear HA
    simp only [impl_DayBound.l0] at H
    by_cases c8 : x23_1 < (l1.length : Int)
    ·
     rw [if_pos c8] at H
     have c8b0 : decide (x23_1 < (l1.length : Int)) = true := decide_eq_true c8
     clear c8
     by_cases c9 : 0 ≤ x23_1
     ·
      rw [if_pos c9] at H
      have c9b0 : decide (0 ≤ x23_1) = true := decide_eq_true c9
      clear c9
      by_cases c10 : x23_1 < (l1.length : Int)
      ·
       rw [if_pos c10] at H
       have c10b0 : decide (x23_1 < (l1.length : Int)) = true := decide_eq_true c10
       clear c10
       replace H := Option.bind_eq_some_iff.mp H
       obtain ⟨⟨t291, t292⟩, A110, H⟩ := H
       replace H : (if t292 = true then (impl_DayBound.l0 k1 l0 (wrap64 (x7_1 + t291)) l1 (l1.length : Int) (wrap64 (x23_1 + 1))) else (some (0, 3))) = some (r1, r2) := H
       have A11 := Aside0.mk A110
       clear A110
       by_cases c12 : t292 = true
       ·
        subst c12
        have H1 : (impl_DayBound.l0 k1 l0 (wrap64 (x7_1 + t291)) l1 (l1.length : Int) (wrap64 (x23_1 + 1))) = some (r1, r2) := by rw [if_pos rfl] at H; exact H
        clear H
        have H := H1
        clear H1
        have H' := Aside0.mk H
        clear H
        have p290 : 0 ≤ (x23_1 : Int) := of_decide_eq_true as_
        have q290 : x23_1 < (l1.length : Int) := of_decide_eq_true as_
        obtain ⟨ad290, e290, hx290_0⟩ := Kd.at_int HR1.out x23_1 p290 q290
        cases e290
        replace hx290_0 := cl_ HB hx290_0
        replace p290 := eq_true p290
        replace q290 := eq_true q290
        go_wp2_with (first | ((with_reducible refine gate_callee (f := 62) rfl ?_); refine goesL_ (some 30) rfl rfl Try.func62 (by kernel_rfl) rfl #[.slice A0 l0.length c0, .int .i64 (rd l1 x23_1)] rfl mT_ ?_; (with_reducible refine (impl_hourBound.calls k1 _ _ l0 (rd l1 x23_1) t291 true _ ?side1 ?side2 A11.out).mono ?_); (case side1 => exact cA_ (Kd.C_below HR0.out HB.out)); (case side2 => exact HC0.out); rintro e w13 ⟨rfl, hb⟩; refine ⟨_, rfl, ?_⟩; have n0_ := Aside0.mk (below_step bB_ hb); clear HB; have HB := n0_; clear n0_; (try clear hb); (try clear hb2); (try clear hk); (try clear hi)))
        go_roundg k1
        case measure => have := HK1.out; omega
        case rel => exact ⟨(wrap64 (x7_1 + t291)), (wrap64 (x23_1 + 1)), rs_, rs_, H', ⟨by have := HK1.out; omega⟩, ⟨bB_⟩⟩
       ·
        replace c12 := Bool.eq_false_iff.mpr c12
        subst c12
        have H1 : (some (0, 3)) = some (r1, r2) := by rw [if_neg (show ¬ (false = true) by decide)] at H; exact H
        clear H
        have H := H1
        clear H1
        simp only [Option.some.injEq, Prod.mk.injEq] at H
        obtain ⟨rfl, rfl⟩ := H
        have p290 : 0 ≤ (x23_1 : Int) := of_decide_eq_true as_
        have q290 : x23_1 < (l1.length : Int) := of_decide_eq_true as_
        obtain ⟨ad290, e290, hx290_0⟩ := Kd.at_int HR1.out x23_1 p290 q290
        cases e290
        replace hx290_0 := cl_ HB hx290_0
        replace p290 := eq_true p290
        replace q290 := eq_true q290
        go_wp2_with (first | ((with_reducible refine gate_callee (f := 62) rfl ?_); refine goesL_ (some 30) rfl rfl Try.func62 (by kernel_rfl) rfl #[.slice A0 l0.length c0, .int .i64 (rd l1 x23_1)] rfl mT_ ?_; (with_reducible refine (impl_hourBound.calls k1 _ _ l0 (rd l1 x23_1) t291 false _ ?side1 ?side2 A11.out).mono ?_); (case side1 => exact cA_ (Kd.C_below HR0.out HB.out)); (case side2 => exact HC0.out); rintro e w14 ⟨rfl, hb⟩; refine ⟨_, rfl, ?_⟩; have n0_ := Aside0.mk (below_step bB_ hb); clear HB; have HB := n0_; clear n0_; (try clear hb); (try clear hb2); (try clear hk); (try clear hi)))
        go_ret2
        exact ⟨er_, bB_⟩
      ·
       rw [if_neg c10] at H
       exact absurd H (by simp)
     ·
      rw [if_neg c9] at H
      exact absurd H (by simp)
    ·
     rw [if_neg c8] at H
     have c8b0 : decide (x23_1 < (l1.length : Int)) = false := decide_eq_false c8
     clear c8
     simp only [Option.some.injEq, Prod.mk.injEq] at H
     obtain ⟨rfl, rfl⟩ := H
     go_wp2
     go_ret2
     exact ⟨er_, bB_⟩
 ·
  rw [if_neg c4] at H
  have c4b0 : (t288 == 0) = false := beq_eq_false_iff_ne.mpr c4
  have c4b1 : (t288 != 0) = true := bne_iff_ne.mpr c4
  simp only [Option.some.injEq, Prod.mk.injEq] at H
  obtain ⟨rfl, rfl⟩ := H
  go_enter Try.func17, Try.ntmps17
  go_wp2_with (first | ((with_reducible refine gate_callee (f := 60) rfl ?_); refine goesL_ (some 14) rfl rfl Try.func60 (by kernel_rfl) rfl #[.slice A0 l0.length c0, .slice A1 l1.length c1] rfl mT_ ?_; (with_reducible refine (impl_demandsCode.calls k _ _ l0 _ _ l1 t288 _ ?side1 ?side2 ?side3 ?side4 A3.out).mono ?_); (case side1 => exact cA_ HR0.out); (case side2 => exact HC0.out); (case side3 => exact cA_ HR1.out); (case side4 => exact HC1.out); rintro e w15 ⟨rfl, hb⟩; refine ⟨_, rfl, ?_⟩; have n0_ := Aside0.mk (below_step bB_ hb); clear HB; have HB := n0_; clear n0_; (try clear hb); (try clear hb2); (try clear hk); (try clear hi)))
  go_ret2
  exact ⟨er_, bB_⟩

/-! ### impl_statesCode: function 101 -/
theorem bcell_ {W w1 : World} (hb : Below W.heap.size W w1) : (∀ b o, b < W.heap.size → w1.cell? ⟨b, o, none⟩ = W.cell? ⟨b, o, none⟩) ∧ (∀ b o, b < W.heap.size → w1.frozen? ⟨b, o, none⟩ = W.frozen? ⟨b, o, none⟩) :=
 ⟨fun b o h => hb.cell (p := ⟨b, o, none⟩) h, fun b o h => hb.frozen (p := ⟨b, o, none⟩) h⟩

/-- What a predicate that is handed over says of a value, in every world in which what was there stays. -/
def Gives2 (P : Program) (g : Nat) (lb : Array Value) (w0 : World) (x : Value) (b : Bool) : Prop :=
 ∀ W, Below w0.heap.size w0 W → Calls P g (#[x] ++ lb) W fun e w' => e = .returned (.bool b) ∧ Below W.heap.size W w'
theorem Gives2.later {P : Program} {g : Nat} {lb : Array Value} {w0 W : World} {x : Value} {b : Bool} (h : Gives2 P g lb w0 x b) (hb : Below w0.heap.size w0 W) : Gives2 P g lb W x b :=
 fun W2 h2 => h W2 (hb.trans (h2.mono hb.size))

/-- What a predicate on rows says of a row. -/
def GivesRow {α : Type} (P : Program) (d : Kd α) (g : Nat) (lb : Array Value) (w0 : World) (x : List α) (b : Bool) : Prop :=
 ∀ W, Below w0.heap.size w0 W → ∀ (A : Option Addr) (c : Nat), x.length ≤ c → Kd.C d W A x.length x → Calls P g (#[.slice A x.length c] ++ lb) W fun e w' => e = .returned (.bool b) ∧ Below W.heap.size W w'
set_option maxHeartbeats 2000000 in
theorem slices_IndexFunc_rowsB (p : List Bool → Bool) (g : Nat) (lb : Array Value) (eg : ∀ args w, (callFunc g args).run Try.prog w = .ok (.enter g args) w)
  (A : Option Addr) (c : Nat) (l : List (List Bool)) (w : World) (hr : Kd.C (Kd.slice 4 Kd.bool) w A l.length l) (hbig : l.length < 9223372036854775807)
  (hp : ∀ x, x ∈ l → GivesRow Try.prog Kd.bool g lb w x (p x)) :
  Calls Try.prog 168 #[.slice A l.length c, .func (.func g) #[] lb] w fun e w' => e = .returned (.int .i64 (idxF p l 0)) ∧ Below w.heap.size w w' := by
 have HR := Aside0.mk hr
 have HP := Aside0.mk hp
 clear hr hp
 go_enter Try.func168, Try.ntmps168
 go_wp2
 go_loopg [5, 8] l.length (fun gg _ s8 wr => ∃ kk : Nat, kk ≤ l.length ∧ l.length - kk ≤ gg ∧ s8 = .int .i64 kk ∧ Aside0 (Below w.heap.size w wr) ∧ Aside0 (∀ j, j < kk → p (l.getD j []) = false))
 case atStart => exact ⟨0, Nat.zero_le _, by omega, rfl, ⟨Below.refl _ w⟩, ⟨fun j hj => absurd hj (Nat.not_lt_zero _)⟩⟩
 case round =>
  obtain ⟨kk, hkk, hg, rfl, BW, A0⟩ := hrel
  by_cases hlt : kk < l.length
  ·
   have hltz : (kk : Int) < (l.length : Int) := by omega
   obtain ⟨ad, cs, rfl, hcl, hK, hcc⟩ := Kd.C_get (Kd.C_below HR.out BW.out) [] (kk : Int) (by omega) hltz
   obtain ⟨Ai, ci, rfl, hci, hCi⟩ := hK
   have hx := hcc 0 _ rfl
   simp only [Int.toNat_natCast] at hx hci hCi
   have hx1 : wr.cell? (ad.add kk) = some (.slice Ai (l.getD kk []).length ci) := by
    have e : kk * (Kd.slice 4 Kd.bool).sz + 0 = kk := by show kk * 1 + 0 = kk; omega
    rw [e] at hx
    exact hx
   clear hx hcc hcl
   have hmem : l.getD kk [] ∈ l := by
    rw [List.getD_eq_getElem?_getD, List.getElem?_eq_getElem hlt]
    exact List.getElem_mem _
   have hcall := HP.out _ hmem wr BW.out Ai ci hci hCi
   obtain ⟨y, ey⟩ : ∃ y, y = l.getD kk [] := ⟨_, rfl⟩
   rw [← ey] at hx1 hcall
   have B := Aside0.mk ey
   clear ey hmem hci hCi
   cases hq : p y with
   | true =>
    rw [hq] at hcall
    have HQ := Aside0.mk hq
    clear hq
    go_wp2_with (go_at_fn g; refine hcall.mono ?_; rintro e w' ⟨rfl, hb'⟩)
    go_ret
    refine ⟨?_, BW.out.trans (hb'.mono BW.out.size)⟩
    rw [idxF_drop_hit p [] l kk 0 hlt A0.out (by rw [← B.out]; exact HQ.out), Nat.zero_add]
    rfl
   | false =>
    rw [hq] at hcall
    have HQ := Aside0.mk hq
    clear hq
    go_wp2_with (go_at_fn g; refine hcall.mono ?_; rintro e w' ⟨rfl, hb'⟩)
    go_roundg (l.length - (kk + 1))
    case measure => omega
    case rel =>
     refine ⟨kk + 1, by omega, by omega, by go_num, ⟨BW.out.trans (hb'.mono BW.out.size)⟩, ⟨fun j hj => ?_⟩⟩
     by_cases e : j = kk
     ·
      subst e
      rw [← B.out]; exact HQ.out
     ·
      exact A0.out j (by omega)
  ·
   have hltz : ¬ (kk : Int) < (l.length : Int) := by omega
   have : kk = l.length := by omega
   subst this
   go_wp2
   go_ret
   refine ⟨?_, BW.out⟩
   rw [idxF_miss p [] l 0 A0.out]
   rfl
set_option maxHeartbeats 2000000 in
theorem slices_ContainsFunc_rowsB (p : List Bool → Bool) (g : Nat) (lb : Array Value) (eg : ∀ args w, (callFunc g args).run Try.prog w = .ok (.enter g args) w)
  (A : Option Addr) (c : Nat) (l : List (List Bool)) (w : World) (hr : Kd.C (Kd.slice 4 Kd.bool) w A l.length l) (hbig : l.length < 9223372036854775807)
  (hp : ∀ x, x ∈ l → GivesRow Try.prog Kd.bool g lb w x (p x)) :
  Calls Try.prog 133 #[.slice A l.length c, .func (.func g) #[] lb] w fun e w' => e = .returned (.bool (l.any p)) ∧ Below w.heap.size w w' := by
 rw [← idxF_any p l 0]
 have HR := Aside0.mk hr
 have HP := Aside0.mk hp
 clear hr hp
 go_enter Try.func133, Try.ntmps133
 go_wp2_with (go_at_call 168; refine (slices_IndexFunc_rowsB p g lb eg A c l _ HR.out hbig HP.out).mono ?_; rintro e w' ⟨rfl, hb'⟩)
 go_ret
 exact ⟨rfl, hb'⟩

def impl_statesCode.f (k : Nat) (l0 : List S77) (l1 : List (List Bool)) : Option Int :=
 if l1.length ≤ 1048576 then (impl_ValidUnits.f k l0).bind fun t => some (if t = true then (if l1.length < 1 then 7 else if l1.length > 12 then 7 else if l1.any (fun x => x.length != l0.length) = true then 7 else 0) else 1) else none
theorem impl_statesCode.mono : ∀ a0 a1 k, LeO (impl_statesCode.f k a0 a1) (impl_statesCode.f (k + 1) a0 a1) := by
 intro a0 a1 k
 unfold impl_statesCode.f
 exact LeO.ite (LeO.bind (impl_ValidUnits.mono _ _) (fun _ => LeO.refl _)) (LeO.none _)
theorem statesCode_1 (w : World) (B : Nat) (A0 : Option Addr) (n c0 : Nat) (hB : B < w.heap.size) (hb : w.cell? ⟨B, 0, none⟩ = some (.slice A0 n c0)) (x : List Bool) :
  GivesRow Try.prog Kd.bool 134 #[.pointer (some ⟨B, 0, none⟩)] w x (x.length != n) := fun W hbel A c _ _ => by
 have hb' : W.cell? ⟨B, 0, none⟩ = some (.slice A0 n c0) := (hbel.cell (p := ⟨B, 0, none⟩) hB).trans hb
 by_cases hx : x.length = n
 ·
  go_enter Try.func134, Try.ntmps134
  go_wp2
  go_ret
  exact ⟨by simp [hx], Below.refl _ _⟩
 ·
  have hz : ¬ (x.length : Int) = (n : Int) := by omega
  go_enter Try.func134, Try.ntmps134
  go_wp2
  go_ret
  have e1 : ((x.length : Int) != (n : Int)) = true := bne_iff_ne.mpr hz
  have e2 : (x.length != n) = true := bne_iff_ne.mpr hx
  exact ⟨by show Ending.returned (.bool ((x.length : Int) != (n : Int))) = _; rw [e1, e2], Below.refl _ _⟩
set_option maxHeartbeats 4000000 in
theorem impl_statesCode.calls (k : Nat) (A0 : Option Addr) (c0 : Nat) (l0 : List S77) (A1 : Option Addr) (c1 : Nat) (l1 : List (List Bool)) (r : Int) (w : World) (hr0 : Kd.C k77 w A0 l0.length l0) (hc0 : l0.length ≤ c0) (hr1 : Kd.C (Kd.slice 4 Kd.bool) w A1 l1.length l1) (hc1 : l1.length ≤ c1) (h : impl_statesCode.f k l0 l1 = some r) :
  Calls Try.prog 101 #[.slice A0 l0.length c0, .slice A1 l1.length c1] w fun e w' => e = .returned (.int .i64 r) ∧ Below w.heap.size w w' := by
 unfold impl_statesCode.f at h
 split at h
 ·
  rename_i hlen
  obtain ⟨t, ht, h⟩ := Option.bind_eq_some_iff.mp h
  obtain rfl := Option.some.inj h
  have HR0 := Aside0.mk hr0
  have HC0 := Aside0.mk hc0
  have HR1 := Aside0.mk hr1
  have HT := Aside0.mk ht
  clear h hr0 hc0 hr1 hc1 ht
  cases t with
  | false =>
   simp only [Bool.false_eq_true, if_false]
   go_enter Try.func101, Try.ntmps101
   go_wp2_with (go_at_call 67; refine (impl_ValidUnits.calls k A0 c0 l0 false _ (Kd.C_alloc HR0.out _) HC0.out HT.out).mono ?_; rintro e w1 ⟨rfl, hb⟩)
   go_ret
   exact ⟨rfl, ((Below.refl _ w).alloc (Nat.le_refl _) _).trans (hb.mono (by simp))⟩
  | true =>
   simp only [if_true]
   by_cases h1 : l1.length < 1
   ·
    have h1z : (l1.length : Int) < 1 := by omega
    rw [if_pos h1]
    go_enter Try.func101, Try.ntmps101
    go_wp2_with (go_at_call 67; refine (impl_ValidUnits.calls k A0 c0 l0 true _ (Kd.C_alloc HR0.out _) HC0.out HT.out).mono ?_; rintro e w1 ⟨rfl, hb⟩)
    go_ret
    exact ⟨rfl, ((Below.refl _ w).alloc (Nat.le_refl _) _).trans (hb.mono (by simp))⟩
   ·
    have h1z : ¬ (l1.length : Int) < 1 := by omega
    rw [if_neg h1]
    by_cases h2 : l1.length > 12
    ·
     have h2z : (12 : Int) < (l1.length : Int) := by omega
     rw [if_pos h2]
     go_enter Try.func101, Try.ntmps101
     go_wp2_with (go_at_call 67; refine (impl_ValidUnits.calls k A0 c0 l0 true _ (Kd.C_alloc HR0.out _) HC0.out HT.out).mono ?_; rintro e w1 ⟨rfl, hb⟩)
     go_ret
     exact ⟨rfl, ((Below.refl _ w).alloc (Nat.le_refl _) _).trans (hb.mono (by simp))⟩
    ·
     have h2z : ¬ (12 : Int) < (l1.length : Int) := by omega
     rw [if_neg h2]
     have hC := fun (W : World) (hbel : Below w.heap.size w W) (hB : w.heap.size < W.heap.size) (hb : W.cell? ⟨w.heap.size, 0, none⟩ = some (.slice A0 l0.length c0)) =>
      slices_ContainsFunc_rowsB (fun x => x.length != l0.length) 134 #[.pointer (some ⟨w.heap.size, 0, none⟩)] (enters_of Try.func134 (by kernel_rfl) rfl) A1 c1 l1 W (Kd.C_below HR1.out hbel) (by omega) (fun x _ => statesCode_1 W _ A0 l0.length c0 hB hb x)
     cases hq : l1.any (fun x => x.length != l0.length) with
     | true =>
      rw [hq] at hC
      simp only [if_true]
      clear hq
      go_enter Try.func101, Try.ntmps101
      go_wp2_with (first | (go_at_call 67; refine (impl_ValidUnits.calls k A0 c0 l0 true _ (Kd.C_alloc HR0.out _) HC0.out HT.out).mono ?_; rintro e w1 ⟨rfl, hb⟩; have HB1 := Aside0.mk (((Below.refl _ w).alloc (Nat.le_refl _) _).trans (hb.mono (by simp))); have HZ := Aside0.mk (show w.heap.size < w1.heap.size by have := hb.size; simp at this; omega); have hx0 := (bcell_ hb).1 w.heap.size 0 (by simp); simp at hx0; clear hb) | (go_at_call 133; refine (hC _ HB1.out HZ.out hx0).mono ?_; rintro e w2 ⟨rfl, hb2⟩))
      go_ret
      exact ⟨rfl, HB1.out.trans (hb2.mono HB1.out.size)⟩
     | false =>
      rw [hq] at hC
      simp only [Bool.false_eq_true, if_false]
      clear hq
      go_enter Try.func101, Try.ntmps101
      go_wp2_with (first | (go_at_call 67; refine (impl_ValidUnits.calls k A0 c0 l0 true _ (Kd.C_alloc HR0.out _) HC0.out HT.out).mono ?_; rintro e w1 ⟨rfl, hb⟩; have HB1 := Aside0.mk (((Below.refl _ w).alloc (Nat.le_refl _) _).trans (hb.mono (by simp))); have HZ := Aside0.mk (show w.heap.size < w1.heap.size by have := hb.size; simp at this; omega); have hx0 := (bcell_ hb).1 w.heap.size 0 (by simp); simp at hx0; clear hb) | (go_at_call 133; refine (hC _ HB1.out HZ.out hx0).mono ?_; rintro e w2 ⟨rfl, hb2⟩))
      go_ret
      exact ⟨rfl, HB1.out.trans (hb2.mono HB1.out.size)⟩
 ·
  cases h

/-! ### impl_planCode: function 93 -/
def impl_planCode.f (k : Nat) (l0 : List (S77)) (l1 : List (List Bool)) (l2 : List Int) : Option (Int) := (impl_statesCode.f k l0 l1).bind fun t293 => ((impl_demandsCode.f k l0 l2).bind fun t294 => (if (mx t293 t294) = 0 then (if (l1.length : Int) = (l2.length : Int) then (some (mx t293 t294)) else (some 7)) else (some (mx t293 t294))))
theorem impl_planCode.mono : ∀ a0 a1 a2 k, LeO (impl_planCode.f k a0 a1 a2) (impl_planCode.f (k + 1) a0 a1 a2) := by
 intro a0 a1 a2 k
 unfold impl_planCode.f
 repeat' first
   | (with_reducible exact impl_demandsCode.mono _ _ _)
   | (with_reducible exact impl_statesCode.mono _ _ _)
   | (with_reducible exact LeO.refl _)
   | (with_reducible exact LeO.none _)
   | (with_reducible refine LeO.ite ?_ ?_)
   | (with_reducible refine LeO.bind ?_ (fun _ => ?_))
   | exact impl_demandsCode.mono _ _ _
   | exact impl_statesCode.mono _ _ _
   | exact LeO.none _
   | refine LeO.ite ?_ ?_
   | refine LeO.bind ?_ (fun _ => ?_)
set_option maxHeartbeats 8000000 in
set_option maxRecDepth 100000 in
theorem impl_planCode.calls (k : Nat) (A0 : Option Addr) (c0 : Nat) (l0 : List (S77)) (A1 : Option Addr) (c1 : Nat) (l1 : List (List Bool)) (A2 : Option Addr) (c2 : Nat) (l2 : List Int) (r : Int) (w : World) (hr0 : Kd.C k77 w A0 l0.length l0) (hc0 : l0.length ≤ c0) (hr1 : Kd.C (Kd.slice 4 Kd.bool) w A1 l1.length l1) (hc1 : l1.length ≤ c1) (hr2 : Kd.C (Kd.int .i64) w A2 l2.length l2) (hc2 : l2.length ≤ c2) (h : impl_planCode.f k l0 l1 l2 = some r) :
  Calls Try.prog 93 #[.slice A0 l0.length c0, .slice A1 l1.length c1, .slice A2 l2.length c2] w fun e w' => e = .returned (.int .i64 r) ∧ Below w.heap.size w w' := by
 have HR0 := Aside0.mk hr0
 have HC0 := Aside0.mk hc0
 clear hr0 hc0
 have HR1 := Aside0.mk hr1
 have HC1 := Aside0.mk hc1
 clear hr1 hc1
 have HR2 := Aside0.mk hr2
 have HC2 := Aside0.mk hc2
 clear hr2 hc2
 have HB := Aside0.mk (Below.refl w.heap.size w)
 have H : ((impl_statesCode.f k l0 l1).bind fun t293 => ((impl_demandsCode.f k l0 l2).bind fun t294 => (if (mx t293 t294) = 0 then (if (l1.length : Int) = (l2.length : Int) then (some (mx t293 t294)) else (some 7)) else (some (mx t293 t294))))) = some r := h
 clear h
 replace H := Option.bind_eq_some_iff.mp H
 obtain ⟨t293, A40, H⟩ := H
 replace H : ((impl_demandsCode.f k l0 l2).bind fun t294 => (if (mx t293 t294) = 0 then (if (l1.length : Int) = (l2.length : Int) then (some (mx t293 t294)) else (some 7)) else (some (mx t293 t294)))) = some r := H
 have A4 := Aside0.mk A40
 clear A40
 replace H := Option.bind_eq_some_iff.mp H
 obtain ⟨t294, A50, H⟩ := H
 replace H : (if (mx t293 t294) = 0 then (if (l1.length : Int) = (l2.length : Int) then (some (mx t293 t294)) else (some 7)) else (some (mx t293 t294))) = some r := H
 have A5 := Aside0.mk A50
 clear A50
 obtain ⟨ji6, hji6⟩ : ∃ j_ : Int, (mx t293 t294) = j_ := ⟨_, rfl⟩
 replace H : (if (ji6) = 0 then (if (l1.length : Int) = (l2.length : Int) then (some ji6) else (some 7)) else (some ji6)) = some r := by first | (rw [hji6] at H; exact H) | (simp only [hji6] at H ⊢; exact H)
 (try rw [hji6] at A4)
 (try rw [hji6] at A5)
 have hji6_ : (if t293 < t294 then t294 else t293) = ji6 := hji6
 by_cases c7 : (ji6) = 0
 ·
  rw [if_pos c7] at H
  have c7b0 : ((ji6) == 0) = true := beq_iff_eq.mpr c7
  have c7b1 : ((ji6) != 0) = false := bne_eq_false_iff_eq.mpr c7
  clear c7
  by_cases c8 : (l1.length : Int) = (l2.length : Int)
  ·
   rw [if_pos c8] at H
   have c8b0 : ((l1.length : Int) == (l2.length : Int)) = true := beq_iff_eq.mpr c8
   have c8b1 : ((l1.length : Int) != (l2.length : Int)) = false := bne_eq_false_iff_eq.mpr c8
   have c8b2 : (l1.length == l2.length) = true := by first | simpa using c8 | (simp at c8 ⊢; omega)
   clear c8
   obtain rfl := Option.some.inj H
   go_enter Try.func93, Try.ntmps93
   go_wp2_with (first | ((with_reducible refine gate_callee (f := 101) rfl ?_); refine goesL_ (some 10) rfl rfl Try.func101 (by kernel_rfl) rfl #[.slice A0 l0.length c0, .slice A1 l1.length c1] rfl mT_ ?_; (with_reducible refine (impl_statesCode.calls k _ _ l0 _ _ l1 t293 _ ?side1 ?side2 ?side3 ?side4 A4.out).mono ?_); (case side1 => exact cA_ HR0.out); (case side2 => exact HC0.out); (case side3 => exact cA_ HR1.out); (case side4 => exact HC1.out); rintro e w9 ⟨rfl, hb⟩; refine ⟨_, rfl, ?_⟩; have n0_ := Aside0.mk (below_step bB_ hb); clear HB; have HB := n0_; clear n0_; (try clear hb); (try clear hb2); (try clear hk); (try clear hi)) | ((with_reducible refine gate_callee (f := 60) rfl ?_); refine goesL_ (some 13) rfl rfl Try.func60 (by kernel_rfl) rfl #[.slice A0 l0.length c0, .slice A2 l2.length c2] rfl mT_ ?_; (with_reducible refine (impl_demandsCode.calls k _ _ l0 _ _ l2 t294 _ ?side1 ?side2 ?side3 ?side4 A5.out).mono ?_); (case side1 => exact cA_ (Kd.C_below HR0.out HB.out)); (case side2 => exact HC0.out); (case side3 => exact cA_ (Kd.C_below HR2.out HB.out)); (case side4 => exact HC2.out); rintro e w10 ⟨rfl, hb⟩; refine ⟨_, rfl, ?_⟩; have n0_ := Aside0.mk (below_step bB_ hb); clear HB; have HB := n0_; clear n0_; (try clear hb); (try clear hb2); (try clear hk); (try clear hi)))
   go_ret
   exact ⟨by first | rfl | (simp [errW_none, errW_some] <;> rfl) | (simp only [← hji6]; first | rfl | (simp [errW_none, errW_some] <;> rfl)) | (simp [*, errW_none, errW_some] <;> rfl), bB_⟩
  ·
   rw [if_neg c8] at H
   have c8b0 : ((l1.length : Int) == (l2.length : Int)) = false := beq_eq_false_iff_ne.mpr c8
   have c8b1 : ((l1.length : Int) != (l2.length : Int)) = true := bne_iff_ne.mpr c8
   have c8b2 : (l1.length == l2.length) = false := by first | simpa using c8 | (simp at c8 ⊢; omega)
   obtain rfl := Option.some.inj H
   go_enter Try.func93, Try.ntmps93
   go_wp2_with (first | ((with_reducible refine gate_callee (f := 101) rfl ?_); refine goesL_ (some 10) rfl rfl Try.func101 (by kernel_rfl) rfl #[.slice A0 l0.length c0, .slice A1 l1.length c1] rfl mT_ ?_; (with_reducible refine (impl_statesCode.calls k _ _ l0 _ _ l1 t293 _ ?side1 ?side2 ?side3 ?side4 A4.out).mono ?_); (case side1 => exact cA_ HR0.out); (case side2 => exact HC0.out); (case side3 => exact cA_ HR1.out); (case side4 => exact HC1.out); rintro e w11 ⟨rfl, hb⟩; refine ⟨_, rfl, ?_⟩; have n0_ := Aside0.mk (below_step bB_ hb); clear HB; have HB := n0_; clear n0_; (try clear hb); (try clear hb2); (try clear hk); (try clear hi)) | ((with_reducible refine gate_callee (f := 60) rfl ?_); refine goesL_ (some 13) rfl rfl Try.func60 (by kernel_rfl) rfl #[.slice A0 l0.length c0, .slice A2 l2.length c2] rfl mT_ ?_; (with_reducible refine (impl_demandsCode.calls k _ _ l0 _ _ l2 t294 _ ?side1 ?side2 ?side3 ?side4 A5.out).mono ?_); (case side1 => exact cA_ (Kd.C_below HR0.out HB.out)); (case side2 => exact HC0.out); (case side3 => exact cA_ (Kd.C_below HR2.out HB.out)); (case side4 => exact HC2.out); rintro e w12 ⟨rfl, hb⟩; refine ⟨_, rfl, ?_⟩; have n0_ := Aside0.mk (below_step bB_ hb); clear HB; have HB := n0_; clear n0_; (try clear hb); (try clear hb2); (try clear hk); (try clear hi)))
   go_ret
   exact ⟨by first | rfl | (simp [errW_none, errW_some] <;> rfl) | (simp only [← hji6]; first | rfl | (simp [errW_none, errW_some] <;> rfl)) | (simp [*, errW_none, errW_some] <;> rfl), bB_⟩
 ·
  rw [if_neg c7] at H
  have c7b0 : ((ji6) == 0) = false := beq_eq_false_iff_ne.mpr c7
  have c7b1 : ((ji6) != 0) = true := bne_iff_ne.mpr c7
  obtain rfl := Option.some.inj H
  go_enter Try.func93, Try.ntmps93
  go_wp2_with (first | ((with_reducible refine gate_callee (f := 101) rfl ?_); refine goesL_ (some 10) rfl rfl Try.func101 (by kernel_rfl) rfl #[.slice A0 l0.length c0, .slice A1 l1.length c1] rfl mT_ ?_; (with_reducible refine (impl_statesCode.calls k _ _ l0 _ _ l1 t293 _ ?side1 ?side2 ?side3 ?side4 A4.out).mono ?_); (case side1 => exact cA_ HR0.out); (case side2 => exact HC0.out); (case side3 => exact cA_ HR1.out); (case side4 => exact HC1.out); rintro e w13 ⟨rfl, hb⟩; refine ⟨_, rfl, ?_⟩; have n0_ := Aside0.mk (below_step bB_ hb); clear HB; have HB := n0_; clear n0_; (try clear hb); (try clear hb2); (try clear hk); (try clear hi)) | ((with_reducible refine gate_callee (f := 60) rfl ?_); refine goesL_ (some 13) rfl rfl Try.func60 (by kernel_rfl) rfl #[.slice A0 l0.length c0, .slice A2 l2.length c2] rfl mT_ ?_; (with_reducible refine (impl_demandsCode.calls k _ _ l0 _ _ l2 t294 _ ?side1 ?side2 ?side3 ?side4 A5.out).mono ?_); (case side1 => exact cA_ (Kd.C_below HR0.out HB.out)); (case side2 => exact HC0.out); (case side3 => exact cA_ (Kd.C_below HR2.out HB.out)); (case side4 => exact HC2.out); rintro e w14 ⟨rfl, hb⟩; refine ⟨_, rfl, ?_⟩; have n0_ := Aside0.mk (below_step bB_ hb); clear HB; have HB := n0_; clear n0_; (try clear hb); (try clear hb2); (try clear hk); (try clear hi)))
  go_ret
  exact ⟨by first | rfl | (simp [errW_none, errW_some] <;> rfl) | (simp only [← hji6]; first | rfl | (simp [errW_none, errW_some] <;> rfl)) | (simp [*, errW_none, errW_some] <;> rfl), bB_⟩

end Go.Proofs.Ytebkgebibammiaa.PFnExactIsWithin
