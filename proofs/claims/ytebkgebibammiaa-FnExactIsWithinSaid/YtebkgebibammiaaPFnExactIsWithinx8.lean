-- PRINTED by print.py (a twelfth state) out of the translation. Not trusted: Lean checks it.
import Derived.Test.YtebkgebibammiaaPFnExactIsWithinx0
import Derived.Test.YtebkgebibammiaaPFnExactIsWithinx3
import Derived.Test.YtebkgebibammiaaPFnExactIsWithinx5
import Derived.Test.YtebkgebibammiaaPFnExactIsWithinx7
namespace Go.Proofs.Ytebkgebibammiaa.PFnExactIsWithin
open Go.RowKit Go.Proofs.YtebkgebibammiaaW.PrintWords Go.Proofs.YtebkgebibammiaaW.PrintLast Go.Proofs.YtebkgebibammiaaW.PrintMore
attribute [local go_sem] max2_int min2_int max_two min_two max_three min_three max_four min_four   -- for this text's walks alone
set_option linter.unusedVariables false
set_option linter.unusedSimpArgs false

/-! ### spec_l15Start: function 111 -/
mutual
def spec_l15Start.l0 : Nat → List (S77) → List Int → Int → Int → Option (Int)
 | 0, _, _, _, _ => none
 | k + 1, x0, x1, x5, x6 => if x6 < (x1.length : Int) then (if 0 ≤ x6 then ((spec_l00Max.f x5 (rd x1 x6)).bind fun t238 => (spec_l15Start.l0 k x0 x1 t238 (wrap64 (x6 + 1)))) else (none)) else (if x5 = 0 then (some 0) else (if 0 < (x0.length : Int) then (spec_l15Start.l1 k x0 ((rd_T77 x0 0).f4) 1) else (none)))
def spec_l15Start.l1 : Nat → List (S77) → Int → Int → Option (Int)
 | 0, _, _, _ => none
 | k + 1, x0, x7, x8 => if x8 < (x0.length : Int) then (if 0 ≤ x8 then ((spec_l00Min.f x7 ((rd_T77 x0 x8).f4)).bind fun t241 => (spec_l15Start.l1 k x0 t241 (wrap64 (x8 + 1)))) else (none)) else (some x7)
end
def spec_l15Start.f (k : Nat) (l0 : List (S77)) (l1 : List Int) : Option (Int) := spec_l15Start.l0 k l0 l1 0 0
theorem spec_l15Start.mono_l : ∀ k, (∀ y0 y1 y2 y3, LeO (spec_l15Start.l0 k y0 y1 y2 y3) (spec_l15Start.l0 (k + 1) y0 y1 y2 y3)) ∧ (∀ y0 y1 y2, LeO (spec_l15Start.l1 k y0 y1 y2) (spec_l15Start.l1 (k + 1) y0 y1 y2))
 | 0 => ⟨fun _ _ _ _ r h => by simp [spec_l15Start.l0] at h, fun _ _ _ r h => by simp [spec_l15Start.l1] at h⟩
 | k + 1 => by
  obtain ⟨ih0, ih1⟩ := spec_l15Start.mono_l k
  refine ⟨?_, ?_⟩
  ·
   intro y0 y1 y2 y3
   unfold spec_l15Start.l0
   repeat' first
   | (with_reducible exact ih0 _ _ _ _)
   | (with_reducible exact ih1 _ _ _)
   | (with_reducible exact LeO.refl _)
   | (with_reducible exact LeO.none _)
   | (with_reducible refine LeO.ite ?_ ?_)
   | (with_reducible refine LeO.bind ?_ (fun _ => ?_))
   | exact ih0 _ _ _ _
   | exact ih1 _ _ _
   | exact LeO.none _
   | refine LeO.ite ?_ ?_
   | refine LeO.bind ?_ (fun _ => ?_)
  ·
   intro y0 y1 y2
   unfold spec_l15Start.l1
   repeat' first
   | (with_reducible exact ih0 _ _ _ _)
   | (with_reducible exact ih1 _ _ _)
   | (with_reducible exact LeO.refl _)
   | (with_reducible exact LeO.none _)
   | (with_reducible refine LeO.ite ?_ ?_)
   | (with_reducible refine LeO.bind ?_ (fun _ => ?_))
   | exact ih0 _ _ _ _
   | exact ih1 _ _ _
   | exact LeO.none _
   | refine LeO.ite ?_ ?_
   | refine LeO.bind ?_ (fun _ => ?_)
theorem spec_l15Start.mono : ∀ a0 a1 k, LeO (spec_l15Start.f k a0 a1) (spec_l15Start.f (k + 1) a0 a1) := by
 intro a0 a1 k
 obtain ⟨ih0, ih1⟩ := spec_l15Start.mono_l k
 unfold spec_l15Start.f
 repeat' first
   | (with_reducible exact ih0 _ _ _ _)
   | (with_reducible exact ih1 _ _ _)
   | (with_reducible exact LeO.refl _)
   | (with_reducible exact LeO.none _)
   | (with_reducible refine LeO.ite ?_ ?_)
   | (with_reducible refine LeO.bind ?_ (fun _ => ?_))
   | exact ih0 _ _ _ _
   | exact ih1 _ _ _
   | exact LeO.none _
   | refine LeO.ite ?_ ?_
   | refine LeO.bind ?_ (fun _ => ?_)
set_option maxHeartbeats 8000000 in
set_option maxRecDepth 100000 in
theorem spec_l15Start.calls (k : Nat) (A0 : Option Addr) (c0 : Nat) (l0 : List (S77)) (A1 : Option Addr) (c1 : Nat) (l1 : List Int) (r : Int) (w : World) (hr0 : Kd.C k77 w A0 l0.length l0) (hc0 : l0.length ≤ c0) (hr1 : Kd.C (Kd.int .i64) w A1 l1.length l1) (hc1 : l1.length ≤ c1) (h : spec_l15Start.f k l0 l1 = some r) :
  Calls Try.prog 111 #[.slice A0 l0.length c0, .slice A1 l1.length c1] w fun e w' => e = .returned (.int .i64 r) ∧ Drawn0 w w' := by
 have HR0 := Aside0.mk hr0
 have HC0 := Aside0.mk hc0
 clear hr0 hc0
 have HR1 := Aside0.mk hr1
 have HC1 := Aside0.mk hc1
 clear hr1 hc1
 have H : (spec_l15Start.l0 k l0 l1 0 0) = some r := h
 clear h
 have H' := Aside0.mk H
 clear H
 go_enter Try.func111, Try.ntmps111
 go_wp2
 go_loopg [5, 6] k (fun kq v5 v6 w' => ∃ (x5_1 : Int) (x6_1 : Int), v5 = .int .i64 x5_1 ∧ v6 = .int .i64 x6_1 ∧ Aside0 (spec_l15Start.l0 kq l0 l1 x5_1 x6_1 = some r) ∧ Aside0 (kq ≤ k) ∧ Drawn0 w w')
 case atStart => exact ⟨(0), (0), rs_, rs_, H', ⟨Nat.le_refl _⟩, dr_⟩
 case round =>
  clear H'
  try clear c1
  try clear p2
  obtain ⟨x5_1, x6_1, rfl, rfl, HA, HK1, ⟨m1, rfl⟩⟩ := hrel
  cases gk with
  | zero => exact absurd HA.out (by simp [spec_l15Start.l0])
  | succ k1 =>
   have H := HA.out
   clear HA
   simp only [spec_l15Start.l0] at H
   by_cases c3 : x6_1 < (l1.length : Int)
   ·
    rw [if_pos c3] at H
    have c3b0 : decide (x6_1 < (l1.length : Int)) = true := decide_eq_true c3
    clear c3
    by_cases c4 : 0 ≤ x6_1
    ·
     rw [if_pos c4] at H
     have c4b0 : decide (0 ≤ x6_1) = true := decide_eq_true c4
     clear c4
     replace H := Option.bind_eq_some_iff.mp H
     obtain ⟨t238, A50, H⟩ := H
     replace H : (spec_l15Start.l0 k1 l0 l1 t238 (wrap64 (x6_1 + 1))) = some r := H
     have A5 := Aside0.mk A50
     clear A50
     have H' := Aside0.mk H
     clear H
     have p237 : 0 ≤ (x6_1 : Int) := of_decide_eq_true as_
     have q237 : x6_1 < (l1.length : Int) := of_decide_eq_true as_
     obtain ⟨ad237, e237, hx237_0⟩ := Kd.at_int HR1.out x6_1 p237 q237
     cases e237
     replace p237 := eq_true p237
     replace q237 := eq_true q237
     go_wp2_with (first | ((with_reducible refine gate_callee (f := 140) rfl ?_); refine goesL_ (some 20) rfl rfl Try.func140 (by kernel_rfl) rfl #[.int .i64 x5_1, .int .i64 (rd l1 x6_1)] rfl mT_ ?_; (with_reducible refine (spec_l00Max.calls x5_1 (rd l1 x6_1) t238 _ A5.out).mono ?_); rintro e w' ⟨rfl, ⟨nd, rfl⟩⟩; refine ⟨_, rfl, ?_⟩))
     go_roundg k1
     case measure => have := HK1.out; omega
     case rel => exact ⟨(t238), (wrap64 (x6_1 + 1)), rs_, rs_, H', ⟨by have := HK1.out; omega⟩, dr_⟩
    ·
     rw [if_neg c4] at H
     exact absurd H (by simp)
   ·
    rw [if_neg c3] at H
    have c3b0 : decide (x6_1 < (l1.length : Int)) = false := decide_eq_false c3
    clear c3
    by_cases c6 : x5_1 = 0
    ·
     rw [if_pos c6] at H
     have c6b0 : (x5_1 == 0) = true := beq_iff_eq.mpr c6
     have c6b1 : (x5_1 != 0) = false := bne_eq_false_iff_eq.mpr c6
     clear c6
     obtain rfl := Option.some.inj H
     go_wp2
     go_ret
     exact ⟨rs_, dr_⟩
    ·
     rw [if_neg c6] at H
     have c6b0 : (x5_1 == 0) = false := beq_eq_false_iff_ne.mpr c6
     have c6b1 : (x5_1 != 0) = true := bne_iff_ne.mpr c6
     by_cases c7 : 0 < (l0.length : Int)
     ·
      rw [if_pos c7] at H
      have c7b0 : decide (0 < (l0.length : Int)) = true := decide_eq_true c7
      have c7b1 : decide (0 < l0.length) = true := decide_eq_true (by omega)
      clear c7
      have H' := Aside0.mk H
      clear H
      have p239 : 0 ≤ (0 : Int) := (by omega)
      have q239 : 0 < (l0.length : Int) := of_decide_eq_true as_
      obtain ⟨ad239, e239, hx239_0, hx239_1, hx239_2, hx239_3, hx239_4, hx239_5, hx239_6⟩ := at_T77 HR0.out 0 p239 q239
      cases e239
      have qi239 : (0 < l0.length) = True := eq_true (by omega)
      (try rw [show ((0 : Int)).toNat = 0 from rfl] at hx239_0)
      (try rw [show 0 * 7 = 0 from rfl] at hx239_0)
      (try rw [Addr.add_zero'] at hx239_0)
      (try rw [show ((0 : Int)).toNat = 0 from rfl] at hx239_1)
      (try rw [show 0 * 7 = 0 from rfl] at hx239_1)
      (try rw [Addr.add_zero'] at hx239_1)
      (try rw [show ((0 : Int)).toNat = 0 from rfl] at hx239_2)
      (try rw [show 0 * 7 = 0 from rfl] at hx239_2)
      (try rw [Addr.add_zero'] at hx239_2)
      (try rw [show ((0 : Int)).toNat = 0 from rfl] at hx239_3)
      (try rw [show 0 * 7 = 0 from rfl] at hx239_3)
      (try rw [Addr.add_zero'] at hx239_3)
      (try rw [show ((0 : Int)).toNat = 0 from rfl] at hx239_4)
      (try rw [show 0 * 7 = 0 from rfl] at hx239_4)
      (try rw [Addr.add_zero'] at hx239_4)
      (try rw [show ((0 : Int)).toNat = 0 from rfl] at hx239_5)
      (try rw [show 0 * 7 = 0 from rfl] at hx239_5)
      (try rw [Addr.add_zero'] at hx239_5)
      (try rw [show ((0 : Int)).toNat = 0 from rfl] at hx239_6)
      (try rw [show 0 * 7 = 0 from rfl] at hx239_6)
      (try rw [Addr.add_zero'] at hx239_6)
      replace p239 := eq_true p239
      replace q239 := eq_true q239
      go_wp2
      go_loopg [7, 8] k1 (fun kq v7 v8 w' => ∃ (x7_2 : Int) (x8_2 : Int), v7 = .int .i64 x7_2 ∧ v8 = .int .i64 x8_2 ∧ Aside0 (spec_l15Start.l1 kq l0 x7_2 x8_2 = some r) ∧ Aside0 (kq ≤ k1) ∧ Drawn0 w w')
      case atStart => exact ⟨((rd_T77 l0 0).f4), (1), rs_, rs_, H', ⟨Nat.le_refl _⟩, dr_⟩
      case round =>
       clear H'
       try clear c1
       try clear p2
       try clear q2
       try clear hx2
       try clear qi2
       try clear c3
       try clear c3b0
       try clear c4
       try clear c4b0
       try clear c6
       try clear c6b0
       try clear c6b1
       try clear p6
       try clear c7
       try clear c7b0
       try clear c7b1
       try clear hx237_0
       try clear hx239_0
       try clear hx239_1
       try clear hx239_2
       try clear hx239_3
       try clear hx239_4
       try clear hx239_5
       try clear hx239_6
       try clear p2
       try clear p237
       try clear p239
       try clear q237
       try clear q239
       obtain ⟨x7_2, x8_2, rfl, rfl, HA, HK2, ⟨m2, rfl⟩⟩ := hrel
       cases gk with
       | zero => exact absurd HA.out (by simp [spec_l15Start.l1])
       | succ k2 =>
        have H := HA.out
        clear HA
        simp only [spec_l15Start.l1] at H
        by_cases c8 : x8_2 < (l0.length : Int)
        ·
         rw [if_pos c8] at H
         have c8b0 : decide (x8_2 < (l0.length : Int)) = true := decide_eq_true c8
         clear c8
         by_cases c9 : 0 ≤ x8_2
         ·
          rw [if_pos c9] at H
          have c9b0 : decide (0 ≤ x8_2) = true := decide_eq_true c9
          clear c9
          replace H := Option.bind_eq_some_iff.mp H
          obtain ⟨t241, A100, H⟩ := H
          replace H : (spec_l15Start.l1 k2 l0 t241 (wrap64 (x8_2 + 1))) = some r := H
          have A10 := Aside0.mk A100
          clear A100
          have H' := Aside0.mk H
          clear H
          have p240 : 0 ≤ (x8_2 : Int) := of_decide_eq_true as_
          have q240 : x8_2 < (l0.length : Int) := of_decide_eq_true as_
          obtain ⟨ad240, e240, hx240_0, hx240_1, hx240_2, hx240_3, hx240_4, hx240_5, hx240_6⟩ := at_T77 HR0.out x8_2 p240 q240
          obtain rfl : ad239 = ad240 := (by injection e240)
          replace p240 := eq_true p240
          replace q240 := eq_true q240
          go_wp2_with (first | ((with_reducible refine gate_callee (f := 99) rfl ?_); refine goesL_ (some 39) rfl rfl Try.func99 (by kernel_rfl) rfl #[.int .i64 x7_2, .int .i64 ((rd_T77 l0 x8_2).f4)] rfl mT_ ?_; (with_reducible refine (spec_l00Min.calls x7_2 ((rd_T77 l0 x8_2).f4) t241 _ A10.out).mono ?_); rintro e w' ⟨rfl, ⟨nd, rfl⟩⟩; refine ⟨_, rfl, ?_⟩))
          go_roundg k2
          case measure => have := HK1.out; have := HK2.out; omega
          case rel => exact ⟨(t241), (wrap64 (x8_2 + 1)), rs_, rs_, H', ⟨by have := HK1.out; have := HK2.out; omega⟩, dr_⟩
         ·
          rw [if_neg c9] at H
          exact absurd H (by simp)
        ·
         rw [if_neg c8] at H
         have c8b0 : decide (x8_2 < (l0.length : Int)) = false := decide_eq_false c8
         clear c8
         obtain rfl := Option.some.inj H
         go_wp2
         go_ret
         exact ⟨rs_, dr_⟩
     ·
      rw [if_neg c7] at H
      exact absurd H (by simp)

/-! ### spec_l15Hour: function 112 -/
def spec_l15Hour.l0 : Nat → List (S77) → Int → List Int → Int → Int → Option (Int × Bool)
 | 0, _, _, _, _, _ => none
 | k + 1, x0, x1, x6, x7, x8 => if x8 < (x6.length : Int) then (if 0 ≤ x8 then (if 0 ≤ (rd x6 x8) then (if (rd x6 x8) < (x0.length : Int) then ((spec_l00Min.f x1 ((rd_T77 [rd_T77 x0 (rd x6 x8)] 0).f2)).bind fun t249 => (spec_l15Hour.l0 k x0 (wrap64 (x1 - t249)) x6 (wrap64 (x7 + (wrap64 (t249 * ((rd_T77 [rd_T77 x0 (rd x6 x8)] 0).f3))))) (wrap64 (x8 + 1)))) else (none)) else (none)) else (none)) else (some (x7, (x1 == 0)))
def spec_l15Hour.f (k : Nat) (l0 : List (S77)) (a1 : Int) : Option (Int × Bool) := (spec_l13Order.f k l0).bind fun t242 => (spec_l15Hour.l0 k l0 a1 t242 0 0)
theorem spec_l15Hour.mono_l : ∀ k, (∀ y0 y1 y2 y3 y4, LeO (spec_l15Hour.l0 k y0 y1 y2 y3 y4) (spec_l15Hour.l0 (k + 1) y0 y1 y2 y3 y4))
 | 0 => fun _ _ _ _ _ r h => by simp [spec_l15Hour.l0] at h
 | k + 1 => by
  have ih0 := spec_l15Hour.mono_l k
  ·
   intro y0 y1 y2 y3 y4
   unfold spec_l15Hour.l0
   repeat' first
   | (with_reducible exact ih0 _ _ _ _ _)
   | (with_reducible exact spec_l13Order.mono _ _)
   | (with_reducible exact LeO.refl _)
   | (with_reducible exact LeO.none _)
   | (with_reducible refine LeO.ite ?_ ?_)
   | (with_reducible refine LeO.bind ?_ (fun _ => ?_))
   | exact ih0 _ _ _ _ _
   | exact spec_l13Order.mono _ _
   | exact LeO.none _
   | refine LeO.ite ?_ ?_
   | refine LeO.bind ?_ (fun _ => ?_)
theorem spec_l15Hour.mono : ∀ a0 a1 k, LeO (spec_l15Hour.f k a0 a1) (spec_l15Hour.f (k + 1) a0 a1) := by
 intro a0 a1 k
 have ih0 := spec_l15Hour.mono_l k
 unfold spec_l15Hour.f
 repeat' first
   | (with_reducible exact ih0 _ _ _ _ _)
   | (with_reducible exact spec_l13Order.mono _ _)
   | (with_reducible exact LeO.refl _)
   | (with_reducible exact LeO.none _)
   | (with_reducible refine LeO.ite ?_ ?_)
   | (with_reducible refine LeO.bind ?_ (fun _ => ?_))
   | exact ih0 _ _ _ _ _
   | exact spec_l13Order.mono _ _
   | exact LeO.none _
   | refine LeO.ite ?_ ?_
   | refine LeO.bind ?_ (fun _ => ?_)
set_option maxHeartbeats 8000000 in
set_option maxRecDepth 100000 in
theorem spec_l15Hour.calls (k : Nat) (A0 : Option Addr) (c0 : Nat) (l0 : List (S77)) (a1 : Int) (r1 : Int) (r2 : Bool) (w : World) (hr0 : Kd.C k77 w A0 l0.length l0) (hc0 : l0.length ≤ c0) (h : spec_l15Hour.f k l0 a1 = some (r1, r2)) :
  Calls Try.prog 112 #[.slice A0 l0.length c0, .int .i64 a1] w fun e w' => e = .returned (.tuple #[.int .i64 r1, .bool r2]) ∧ Below w.heap.size w w' := by
 have HR0 := Aside0.mk hr0
 have HC0 := Aside0.mk hc0
 clear hr0 hc0
 have HB := Aside0.mk (Below.refl w.heap.size w)
 have H : ((spec_l13Order.f k l0).bind fun t242 => (spec_l15Hour.l0 k l0 a1 t242 0 0)) = some (r1, r2) := h
 clear h
 replace H := Option.bind_eq_some_iff.mp H
 obtain ⟨t242, A30, H⟩ := H
 replace H : (spec_l15Hour.l0 k l0 a1 t242 0 0) = some (r1, r2) := H
 have A3 := Aside0.mk A30
 clear A30
 have H' := Aside0.mk H
 clear H
 go_enter Try.func112, Try.ntmps112
 go_wp2_with (first | ((with_reducible refine gate_callee (f := 116) rfl ?_); refine goesL_ (some 12) rfl rfl Try.func116 (by kernel_rfl) rfl #[.slice A0 l0.length c0] rfl mT_ ?_; (with_reducible refine (spec_l13Order.calls k _ _ l0 t242 _ ?side1 ?side2 A3.out).mono ?_); (case side1 => exact cA_ HR0.out); (case side2 => exact HC0.out); rintro e w4 ⟨v243, rfl, ho0, hb⟩; refine ⟨_, rfl, ?_⟩; have n0_ := Aside0.mk (Kd.R_lower ho0 (below_size bB_)); have n1_ := Aside0.mk (below_step bB_ hb); clear HB; have HO244 := n0_; have HB := n1_; clear n0_ n1_; (try clear hb); (try clear hb2); (try clear hk); (try clear hi); (try clear ho0)))
 go_loopg [1, 7, 8] k (fun kq v1 v7 v8 w' => ∃ (x1_1 : Int) (x7_1 : Int) (x8_1 : Int), v1 = .int .i64 x1_1 ∧ v7 = .int .i64 x7_1 ∧ v8 = .int .i64 x8_1 ∧ Aside0 (spec_l15Hour.l0 kq l0 x1_1 t242 x7_1 x8_1 = some (r1, r2)) ∧ Aside0 (kq ≤ k) ∧ Aside0 (Kd.R (Kd.int .i64) 2 w' w.heap.size (fun _ => True) v243 t242) ∧ Aside0 (Below w.heap.size w w'))
 case atStart => exact ⟨(a1), (0), (0), rs_, rs_, rs_, H', ⟨Nat.le_refl _⟩, ⟨rA_ HO244.out⟩, ⟨bB_⟩⟩
 case round =>
  clear H'
  try clear c1
  try clear p2
  obtain ⟨x1_1, x7_1, x8_1, rfl, rfl, rfl, HA, HK1, HO_6, HB⟩ := hrel
  cases gk with
  | zero => exact absurd HA.out (by simp [spec_l15Hour.l0])
  | succ k1 =>
   have H := HA.out
   clear HA
   simp only [spec_l15Hour.l0] at H
   by_cases c5 : x8_1 < (t242.length : Int)
   ·
    rw [if_pos c5] at H
    have c5b0 : decide (x8_1 < (t242.length : Int)) = true := decide_eq_true c5
    clear c5
    by_cases c6 : 0 ≤ x8_1
    ·
     rw [if_pos c6] at H
     have c6b0 : decide (0 ≤ x8_1) = true := decide_eq_true c6
     clear c6
     by_cases c7 : 0 ≤ (rd t242 x8_1)
     ·
      rw [if_pos c7] at H
      have c7b0 : decide (0 ≤ (rd t242 x8_1)) = true := decide_eq_true c7
      clear c7
      by_cases c8 : (rd t242 x8_1) < (l0.length : Int)
      ·
       rw [if_pos c8] at H
       have c8b0 : decide ((rd t242 x8_1) < (l0.length : Int)) = true := decide_eq_true c8
       clear c8
       replace H := Option.bind_eq_some_iff.mp H
       obtain ⟨t249, A90, H⟩ := H
       replace H : (spec_l15Hour.l0 k1 l0 (wrap64 (x1_1 - t249)) t242 (wrap64 (x7_1 + (wrap64 (t249 * ((rd_T77 [rd_T77 l0 (rd t242 x8_1)] 0).f3))))) (wrap64 (x8_1 + 1))) = some (r1, r2) := H
       have A9 := Aside0.mk A90
       clear A90
       have H' := Aside0.mk H
       clear H
       obtain ⟨Ao10, co10, eo10⟩ := Kd.R_slice HO_6.out
       subst eo10
       have p245 : 0 ≤ (x8_1 : Int) := of_decide_eq_true as_
       have q245 : x8_1 < (t242.length : Int) := of_decide_eq_true as_
       obtain ⟨ad245, e245, hx245_0⟩ := Kd.at_int (Kd.R_reads' HO_6.out).2.2 x8_1 p245 q245
       cases e245
       replace p245 := eq_true p245
       replace q245 := eq_true q245
       have p246 : 0 ≤ ((rd t242 x8_1) : Int) := of_decide_eq_true as_
       have q246 : (rd t242 x8_1) < (l0.length : Int) := of_decide_eq_true as_
       obtain ⟨ad246, e246, hx246_0, hx246_1, hx246_2, hx246_3, hx246_4, hx246_5, hx246_6⟩ := at_T77 HR0.out (rd t242 x8_1) p246 q246
       cases e246
       replace hx246_0 := cl_ HB hx246_0
       replace hx246_1 := cl_ HB hx246_1
       replace hx246_2 := cl_ HB hx246_2
       replace hx246_3 := cl_ HB hx246_3
       replace hx246_4 := cl_ HB hx246_4
       replace hx246_5 := cl_ HB hx246_5
       replace hx246_6 := cl_ HB hx246_6
       replace p246 := eq_true p246
       replace q246 := eq_true q246
       have HRe247 := Aside0.mk (show Kd.C k77 w (some (ad246.add (((rd t242 x8_1)).toNat * 7))) 1 [rd_T77 l0 (rd t242 x8_1)] from ep_elem HR0.out _ (rd t242 x8_1) (of_decide_eq_true as_) (of_decide_eq_true as_))
       have HCe247 := Aside0.mk (Nat.le_refl 1)
       have p248 : 0 ≤ (0 : Int) := (by omega)
       have q248 : 0 < ([rd_T77 l0 (rd t242 x8_1)].length : Int) := (by simp)
       obtain ⟨ad248, e248, hx248_0, hx248_1, hx248_2, hx248_3, hx248_4, hx248_5, hx248_6⟩ := at_T77 HRe247.out 0 p248 q248
       obtain rfl : (ad246.add (((rd t242 x8_1)).toNat * 7)) = ad248 := (by injection e248)
       have qi248 : (0 < [rd_T77 l0 (rd t242 x8_1)].length) = True := eq_true (by omega)
       (try rw [show ((0 : Int)).toNat = 0 from rfl] at hx248_0)
       (try rw [show 0 * 7 = 0 from rfl] at hx248_0)
       (try rw [Addr.add_zero'] at hx248_0)
       (try rw [show ((0 : Int)).toNat = 0 from rfl] at hx248_1)
       (try rw [show 0 * 7 = 0 from rfl] at hx248_1)
       (try rw [Addr.add_zero'] at hx248_1)
       (try rw [show ((0 : Int)).toNat = 0 from rfl] at hx248_2)
       (try rw [show 0 * 7 = 0 from rfl] at hx248_2)
       (try rw [Addr.add_zero'] at hx248_2)
       (try rw [show ((0 : Int)).toNat = 0 from rfl] at hx248_3)
       (try rw [show 0 * 7 = 0 from rfl] at hx248_3)
       (try rw [Addr.add_zero'] at hx248_3)
       (try rw [show ((0 : Int)).toNat = 0 from rfl] at hx248_4)
       (try rw [show 0 * 7 = 0 from rfl] at hx248_4)
       (try rw [Addr.add_zero'] at hx248_4)
       (try rw [show ((0 : Int)).toNat = 0 from rfl] at hx248_5)
       (try rw [show 0 * 7 = 0 from rfl] at hx248_5)
       (try rw [Addr.add_zero'] at hx248_5)
       (try rw [show ((0 : Int)).toNat = 0 from rfl] at hx248_6)
       (try rw [show 0 * 7 = 0 from rfl] at hx248_6)
       (try rw [Addr.add_zero'] at hx248_6)
       replace hx248_0 := cl_ HB hx248_0
       replace hx248_1 := cl_ HB hx248_1
       replace hx248_2 := cl_ HB hx248_2
       replace hx248_3 := cl_ HB hx248_3
       replace hx248_4 := cl_ HB hx248_4
       replace hx248_5 := cl_ HB hx248_5
       replace hx248_6 := cl_ HB hx248_6
       replace p248 := eq_true p248
       replace q248 := eq_true q248
       go_wp2_with (first | ((with_reducible refine gate_callee (f := 99) rfl ?_); refine goesL_ (some 30) rfl rfl Try.func99 (by kernel_rfl) rfl #[.int .i64 x1_1, .int .i64 ((rd_T77 [rd_T77 l0 (rd t242 x8_1)] 0).f2)] rfl mT_ ?_; (with_reducible refine (spec_l00Min.calls x1_1 ((rd_T77 [rd_T77 l0 (rd t242 x8_1)] 0).f2) t249 _ A9.out).mono ?_); rintro e w' ⟨rfl, ⟨nd, rfl⟩⟩; refine ⟨_, rfl, ?_⟩; have p250 : 0 ≤ (0 : Int) := (by omega); have q250 : 0 < ([rd_T77 l0 (rd t242 x8_1)].length : Int) := (by simp); obtain ⟨ad250, e250, hx250_0, hx250_1, hx250_2, hx250_3, hx250_4, hx250_5, hx250_6⟩ := at_T77 HRe247.out 0 p250 q250; obtain rfl : (ad246.add (((rd t242 x8_1)).toNat * 7)) = ad250 := (by injection e250); have qi250 : (0 < [rd_T77 l0 (rd t242 x8_1)].length) = True := eq_true (by omega); (try rw [show ((0 : Int)).toNat = 0 from rfl] at hx250_0); (try rw [show 0 * 7 = 0 from rfl] at hx250_0); (try rw [Addr.add_zero'] at hx250_0); (try rw [show ((0 : Int)).toNat = 0 from rfl] at hx250_1); (try rw [show 0 * 7 = 0 from rfl] at hx250_1); (try rw [Addr.add_zero'] at hx250_1); (try rw [show ((0 : Int)).toNat = 0 from rfl] at hx250_2); (try rw [show 0 * 7 = 0 from rfl] at hx250_2); (try rw [Addr.add_zero'] at hx250_2); (try rw [show ((0 : Int)).toNat = 0 from rfl] at hx250_3); (try rw [show 0 * 7 = 0 from rfl] at hx250_3); (try rw [Addr.add_zero'] at hx250_3); (try rw [show ((0 : Int)).toNat = 0 from rfl] at hx250_4); (try rw [show 0 * 7 = 0 from rfl] at hx250_4); (try rw [Addr.add_zero'] at hx250_4); (try rw [show ((0 : Int)).toNat = 0 from rfl] at hx250_5); (try rw [show 0 * 7 = 0 from rfl] at hx250_5); (try rw [Addr.add_zero'] at hx250_5); (try rw [show ((0 : Int)).toNat = 0 from rfl] at hx250_6); (try rw [show 0 * 7 = 0 from rfl] at hx250_6); (try rw [Addr.add_zero'] at hx250_6); replace hx250_0 := cl_ HB hx250_0; replace hx250_1 := cl_ HB hx250_1; replace hx250_2 := cl_ HB hx250_2; replace hx250_3 := cl_ HB hx250_3; replace hx250_4 := cl_ HB hx250_4; replace hx250_5 := cl_ HB hx250_5; replace hx250_6 := cl_ HB hx250_6; replace p250 := eq_true p250; replace q250 := eq_true q250))
       go_roundg k1
       case measure => have := HK1.out; omega
       case rel => exact ⟨(wrap64 (x1_1 - t249)), (wrap64 (x7_1 + (wrap64 (t249 * ((rd_T77 [rd_T77 l0 (rd t242 x8_1)] 0).f3))))), (wrap64 (x8_1 + 1)), rs_, rs_, rs_, H', ⟨by have := HK1.out; omega⟩, ⟨rA_ HO_6.out⟩, ⟨bB_⟩⟩
      ·
       rw [if_neg c8] at H
       exact absurd H (by simp)
     ·
      rw [if_neg c7] at H
      exact absurd H (by simp)
    ·
     rw [if_neg c6] at H
     exact absurd H (by simp)
   ·
    rw [if_neg c5] at H
    have c5b0 : decide (x8_1 < (t242.length : Int)) = false := decide_eq_false c5
    clear c5
    simp only [Option.some.injEq, Prod.mk.injEq] at H
    obtain ⟨rfl, rfl⟩ := H
    obtain ⟨Ao11, co11, eo11⟩ := Kd.R_slice HO_6.out
    subst eo11
    go_wp2
    go_ret2
    exact ⟨er_, bB_⟩

/-! ### spec_l15Day: function 58 -/
def spec_l15Day.l0 : Nat → List (S77) → List Int → Int → Int → Option (Int × Bool)
 | 0, _, _, _, _ => none
 | k + 1, x0, x1, x6, x7 => if x7 < (x1.length : Int) then (if 0 ≤ x7 then ((spec_l15Hour.f k x0 (rd x1 x7)).bind fun bt253 => (if bt253.2 = true then (spec_l15Day.l0 k x0 x1 (wrap64 (x6 + bt253.1)) (wrap64 (x7 + 1))) else (some (0, false)))) else (none)) else (some (x6, true))
def spec_l15Day.f (k : Nat) (l0 : List (S77)) (l1 : List Int) : Option (Int × Bool) := (spec_l15Start.f k l0 l1).bind fun t251 => (spec_l15Day.l0 k l0 l1 t251 0)
theorem spec_l15Day.mono_l : ∀ k, (∀ y0 y1 y2 y3, LeO (spec_l15Day.l0 k y0 y1 y2 y3) (spec_l15Day.l0 (k + 1) y0 y1 y2 y3))
 | 0 => fun _ _ _ _ r h => by simp [spec_l15Day.l0] at h
 | k + 1 => by
  have ih0 := spec_l15Day.mono_l k
  ·
   intro y0 y1 y2 y3
   unfold spec_l15Day.l0
   repeat' first
   | (with_reducible exact ih0 _ _ _ _)
   | (with_reducible exact spec_l15Hour.mono _ _ _)
   | (with_reducible exact spec_l15Start.mono _ _ _)
   | (with_reducible exact LeO.refl _)
   | (with_reducible exact LeO.none _)
   | (with_reducible refine LeO.ite ?_ ?_)
   | (with_reducible refine LeO.bind ?_ (fun _ => ?_))
   | exact ih0 _ _ _ _
   | exact spec_l15Hour.mono _ _ _
   | exact spec_l15Start.mono _ _ _
   | exact LeO.none _
   | refine LeO.ite ?_ ?_
   | refine LeO.bind ?_ (fun _ => ?_)
theorem spec_l15Day.mono : ∀ a0 a1 k, LeO (spec_l15Day.f k a0 a1) (spec_l15Day.f (k + 1) a0 a1) := by
 intro a0 a1 k
 have ih0 := spec_l15Day.mono_l k
 unfold spec_l15Day.f
 repeat' first
   | (with_reducible exact ih0 _ _ _ _)
   | (with_reducible exact spec_l15Hour.mono _ _ _)
   | (with_reducible exact spec_l15Start.mono _ _ _)
   | (with_reducible exact LeO.refl _)
   | (with_reducible exact LeO.none _)
   | (with_reducible refine LeO.ite ?_ ?_)
   | (with_reducible refine LeO.bind ?_ (fun _ => ?_))
   | exact ih0 _ _ _ _
   | exact spec_l15Hour.mono _ _ _
   | exact spec_l15Start.mono _ _ _
   | exact LeO.none _
   | refine LeO.ite ?_ ?_
   | refine LeO.bind ?_ (fun _ => ?_)
set_option maxHeartbeats 8000000 in
set_option maxRecDepth 100000 in
theorem spec_l15Day.calls (k : Nat) (A0 : Option Addr) (c0 : Nat) (l0 : List (S77)) (A1 : Option Addr) (c1 : Nat) (l1 : List Int) (r1 : Int) (r2 : Bool) (w : World) (hr0 : Kd.C k77 w A0 l0.length l0) (hc0 : l0.length ≤ c0) (hr1 : Kd.C (Kd.int .i64) w A1 l1.length l1) (hc1 : l1.length ≤ c1) (h : spec_l15Day.f k l0 l1 = some (r1, r2)) :
  Calls Try.prog 58 #[.slice A0 l0.length c0, .slice A1 l1.length c1] w fun e w' => e = .returned (.tuple #[.int .i64 r1, .bool r2]) ∧ Below w.heap.size w w' := by
 have HR0 := Aside0.mk hr0
 have HC0 := Aside0.mk hc0
 clear hr0 hc0
 have HR1 := Aside0.mk hr1
 have HC1 := Aside0.mk hc1
 clear hr1 hc1
 have HB := Aside0.mk (Below.refl w.heap.size w)
 have H : ((spec_l15Start.f k l0 l1).bind fun t251 => (spec_l15Day.l0 k l0 l1 t251 0)) = some (r1, r2) := h
 clear h
 replace H := Option.bind_eq_some_iff.mp H
 obtain ⟨t251, A30, H⟩ := H
 replace H : (spec_l15Day.l0 k l0 l1 t251 0) = some (r1, r2) := H
 have A3 := Aside0.mk A30
 clear A30
 have H' := Aside0.mk H
 clear H
 go_enter Try.func58, Try.ntmps58
 go_wp2_with (first | ((with_reducible refine gate_callee (f := 111) rfl ?_); refine goesL_ (some 12) rfl rfl Try.func111 (by kernel_rfl) rfl #[.slice A0 l0.length c0, .slice A1 l1.length c1] rfl mT_ ?_; (with_reducible refine (spec_l15Start.calls k _ _ l0 _ _ l1 t251 _ ?side1 ?side2 ?side3 ?side4 A3.out).mono ?_); (case side1 => exact cA_ HR0.out); (case side2 => exact HC0.out); (case side3 => exact cA_ HR1.out); (case side4 => exact HC1.out); rintro e w' ⟨rfl, ⟨nd, rfl⟩⟩; refine ⟨_, rfl, ?_⟩))
 go_loopg [6, 7] k (fun kq v6 v7 w' => ∃ (x6_1 : Int) (x7_1 : Int), v6 = .int .i64 x6_1 ∧ v7 = .int .i64 x7_1 ∧ Aside0 (spec_l15Day.l0 kq l0 l1 x6_1 x7_1 = some (r1, r2)) ∧ Aside0 (kq ≤ k) ∧ Aside0 (Below w.heap.size w w'))
 case atStart => exact ⟨(t251), (0), rs_, rs_, H', ⟨Nat.le_refl _⟩, ⟨bB_⟩⟩
 case round =>
  clear H'
  try clear c1
  try clear p2
  obtain ⟨x6_1, x7_1, rfl, rfl, HA, HK1, HB⟩ := hrel
  cases gk with
  | zero => exact absurd HA.out (by simp [spec_l15Day.l0])
  | succ k1 =>
   have H := HA.out
   clear HA
   simp only [spec_l15Day.l0] at H
   by_cases c4 : x7_1 < (l1.length : Int)
   ·
    rw [if_pos c4] at H
    have c4b0 : decide (x7_1 < (l1.length : Int)) = true := decide_eq_true c4
    clear c4
    by_cases c5 : 0 ≤ x7_1
    ·
     rw [if_pos c5] at H
     have c5b0 : decide (0 ≤ x7_1) = true := decide_eq_true c5
     clear c5
     replace H := Option.bind_eq_some_iff.mp H
     obtain ⟨⟨t253, t254⟩, A60, H⟩ := H
     replace H : (if t254 = true then (spec_l15Day.l0 k1 l0 l1 (wrap64 (x6_1 + t253)) (wrap64 (x7_1 + 1))) else (some (0, false))) = some (r1, r2) := H
     have A6 := Aside0.mk A60
     clear A60
     by_cases c7 : t254 = true
     ·
      subst c7
      have H1 : (spec_l15Day.l0 k1 l0 l1 (wrap64 (x6_1 + t253)) (wrap64 (x7_1 + 1))) = some (r1, r2) := by rw [if_pos rfl] at H; exact H
      clear H
      have H := H1
      clear H1
      have H' := Aside0.mk H
      clear H
      have p252 : 0 ≤ (x7_1 : Int) := of_decide_eq_true as_
      have q252 : x7_1 < (l1.length : Int) := of_decide_eq_true as_
      obtain ⟨ad252, e252, hx252_0⟩ := Kd.at_int HR1.out x7_1 p252 q252
      cases e252
      replace hx252_0 := cl_ HB hx252_0
      replace p252 := eq_true p252
      replace q252 := eq_true q252
      go_wp2_with (first | ((with_reducible refine gate_callee (f := 112) rfl ?_); refine goesL_ (some 25) rfl rfl Try.func112 (by kernel_rfl) rfl #[.slice A0 l0.length c0, .int .i64 (rd l1 x7_1)] rfl mT_ ?_; (with_reducible refine (spec_l15Hour.calls k1 _ _ l0 (rd l1 x7_1) t253 true _ ?side1 ?side2 A6.out).mono ?_); (case side1 => exact cA_ (Kd.C_below HR0.out HB.out)); (case side2 => exact HC0.out); rintro e w8 ⟨rfl, hb⟩; refine ⟨_, rfl, ?_⟩; have n0_ := Aside0.mk (below_step bB_ hb); clear HB; have HB := n0_; clear n0_; (try clear hb); (try clear hb2); (try clear hk); (try clear hi)))
      go_roundg k1
      case measure => have := HK1.out; omega
      case rel => exact ⟨(wrap64 (x6_1 + t253)), (wrap64 (x7_1 + 1)), rs_, rs_, H', ⟨by have := HK1.out; omega⟩, ⟨bB_⟩⟩
     ·
      replace c7 := Bool.eq_false_iff.mpr c7
      subst c7
      have H1 : (some (0, false)) = some (r1, r2) := by rw [if_neg (show ¬ (false = true) by decide)] at H; exact H
      clear H
      have H := H1
      clear H1
      simp only [Option.some.injEq, Prod.mk.injEq] at H
      obtain ⟨rfl, rfl⟩ := H
      have p252 : 0 ≤ (x7_1 : Int) := of_decide_eq_true as_
      have q252 : x7_1 < (l1.length : Int) := of_decide_eq_true as_
      obtain ⟨ad252, e252, hx252_0⟩ := Kd.at_int HR1.out x7_1 p252 q252
      cases e252
      replace hx252_0 := cl_ HB hx252_0
      replace p252 := eq_true p252
      replace q252 := eq_true q252
      go_wp2_with (first | ((with_reducible refine gate_callee (f := 112) rfl ?_); refine goesL_ (some 25) rfl rfl Try.func112 (by kernel_rfl) rfl #[.slice A0 l0.length c0, .int .i64 (rd l1 x7_1)] rfl mT_ ?_; (with_reducible refine (spec_l15Hour.calls k1 _ _ l0 (rd l1 x7_1) t253 false _ ?side1 ?side2 A6.out).mono ?_); (case side1 => exact cA_ (Kd.C_below HR0.out HB.out)); (case side2 => exact HC0.out); rintro e w9 ⟨rfl, hb⟩; refine ⟨_, rfl, ?_⟩; have n0_ := Aside0.mk (below_step bB_ hb); clear HB; have HB := n0_; clear n0_; (try clear hb); (try clear hb2); (try clear hk); (try clear hi)))
      go_ret2
      exact ⟨er_, bB_⟩
    ·
     rw [if_neg c5] at H
     exact absurd H (by simp)
   ·
    rw [if_neg c4] at H
    have c4b0 : decide (x7_1 < (l1.length : Int)) = false := decide_eq_false c4
    clear c4
    simp only [Option.some.injEq, Prod.mk.injEq] at H
    obtain ⟨rfl, rfl⟩ := H
    go_wp2
    go_ret2
    exact ⟨er_, bB_⟩

/-! ### spec_l15Gap: function 107 -/
def spec_l15Gap.f (a0 : Int) (a1 : Int) : Option (Int) := if a0 = 0 then (some 0) else (some (wrap64 (Int.tdiv (wrap64 ((wrap64 ((wrap64 ((wrap64 (a0 - a1)) * 1000)) + a0)) - 1)) a0)))
set_option maxHeartbeats 8000000 in
set_option maxRecDepth 100000 in
theorem spec_l15Gap.calls (a0 : Int) (a1 : Int) (r : Int) (w : World) (h : spec_l15Gap.f a0 a1 = some r) :
  Calls Try.prog 107 #[.int .i64 a0, .int .i64 a1] w fun e w' => e = .returned (.int .i64 r) ∧ Drawn0 w w' := by
 have H : (if a0 = 0 then (some 0) else (some (wrap64 (Int.tdiv (wrap64 ((wrap64 ((wrap64 ((wrap64 (a0 - a1)) * 1000)) + a0)) - 1)) a0)))) = some r := h
 clear h
 by_cases c3 : a0 = 0
 ·
  rw [if_pos c3] at H
  have c3b0 : (a0 == 0) = true := beq_iff_eq.mpr c3
  have c3b1 : (a0 != 0) = false := bne_eq_false_iff_eq.mpr c3
  clear c3
  obtain rfl := Option.some.inj H
  go_enter Try.func107, Try.ntmps107
  go_wp2
  go_ret
  exact ⟨rs_, dr_⟩
 ·
  rw [if_neg c3] at H
  have c3b0 : (a0 == 0) = false := beq_eq_false_iff_ne.mpr c3
  have c3b1 : (a0 != 0) = true := bne_iff_ne.mpr c3
  obtain rfl := Option.some.inj H
  go_enter Try.func107, Try.ntmps107
  go_wp2
  go_ret
  exact ⟨rs_, dr_⟩

/-! ### spec_IsWithin: function 51 -/
def spec_IsWithin.j0 : Nat → List (S77) → List (List Bool) → List Int → Int → Bool → Option (Bool)
 | 0, _, _, _, _, _ => none
 | k + 1, x0, x1, x2, x3, x22 => if x22 = true then (some false) else ((spec_l13Cost.f k x0 x1 x2).bind fun bt257 => ((spec_l15Day.f k x0 x2).bind fun bt259 => (if bt259.2 = true then ((spec_l15Gap.f bt257.1 bt259.1).bind fun t261 => (some (decide (t261 ≤ x3)))) else (some false))))
def spec_IsWithin.f (k : Nat) (l0 : List (S77)) (l1 : List (List Bool)) (l2 : List Int) (a3 : Int) : Option (Bool) := (spec_l00In.f a3 0 1000).bind fun t255 => (if t255 = true then ((spec_IsPlan.f k l0 l1 l2).bind fun t256 => (spec_IsWithin.j0 k l0 l1 l2 a3 (!t256))) else (spec_IsWithin.j0 k l0 l1 l2 a3 true))
theorem spec_IsWithin.mono_l : ∀ k, (∀ y0 y1 y2 y3 y4, LeO (spec_IsWithin.j0 k y0 y1 y2 y3 y4) (spec_IsWithin.j0 (k + 1) y0 y1 y2 y3 y4))
 | 0 => fun _ _ _ _ _ r h => by simp [spec_IsWithin.j0] at h
 | k + 1 => by
  have ih0 := spec_IsWithin.mono_l k
  ·
   intro y0 y1 y2 y3 y4
   unfold spec_IsWithin.j0
   repeat' first
   | (with_reducible exact ih0 _ _ _ _ _)
   | (with_reducible exact spec_IsPlan.mono _ _ _ _)
   | (with_reducible exact spec_l13Cost.mono _ _ _ _)
   | (with_reducible exact spec_l15Day.mono _ _ _)
   | (with_reducible exact LeO.refl _)
   | (with_reducible exact LeO.none _)
   | (with_reducible refine LeO.ite ?_ ?_)
   | (with_reducible refine LeO.bind ?_ (fun _ => ?_))
   | exact ih0 _ _ _ _ _
   | exact spec_IsPlan.mono _ _ _ _
   | exact spec_l13Cost.mono _ _ _ _
   | exact spec_l15Day.mono _ _ _
   | exact LeO.none _
   | refine LeO.ite ?_ ?_
   | refine LeO.bind ?_ (fun _ => ?_)
theorem spec_IsWithin.mono : ∀ a0 a1 a2 a3 k, LeO (spec_IsWithin.f k a0 a1 a2 a3) (spec_IsWithin.f (k + 1) a0 a1 a2 a3) := by
 intro a0 a1 a2 a3 k
 have ih0 := spec_IsWithin.mono_l k
 unfold spec_IsWithin.f
 repeat' first
   | (with_reducible exact ih0 _ _ _ _ _)
   | (with_reducible exact spec_IsPlan.mono _ _ _ _)
   | (with_reducible exact spec_l13Cost.mono _ _ _ _)
   | (with_reducible exact spec_l15Day.mono _ _ _)
   | (with_reducible exact LeO.refl _)
   | (with_reducible exact LeO.none _)
   | (with_reducible refine LeO.ite ?_ ?_)
   | (with_reducible refine LeO.bind ?_ (fun _ => ?_))
   | exact ih0 _ _ _ _ _
   | exact spec_IsPlan.mono _ _ _ _
   | exact spec_l13Cost.mono _ _ _ _
   | exact spec_l15Day.mono _ _ _
   | exact LeO.none _
   | refine LeO.ite ?_ ?_
   | refine LeO.bind ?_ (fun _ => ?_)
set_option maxHeartbeats 8000000 in
set_option maxRecDepth 100000 in
theorem spec_IsWithin.calls (k : Nat) (A0 : Option Addr) (c0 : Nat) (l0 : List (S77)) (A1 : Option Addr) (c1 : Nat) (l1 : List (List Bool)) (A2 : Option Addr) (c2 : Nat) (l2 : List Int) (a3 : Int) (r : Bool) (w : World) (hr0 : Kd.C k77 w A0 l0.length l0) (hc0 : l0.length ≤ c0) (hr1 : Kd.C (Kd.slice 4 Kd.bool) w A1 l1.length l1) (hc1 : l1.length ≤ c1) (hr2 : Kd.C (Kd.int .i64) w A2 l2.length l2) (hc2 : l2.length ≤ c2) (h : spec_IsWithin.f k l0 l1 l2 a3 = some r) :
  Calls Try.prog 51 #[.slice A0 l0.length c0, .slice A1 l1.length c1, .slice A2 l2.length c2, .int .i64 a3] w fun e w' => e = .returned (.bool r) ∧ Below w.heap.size w w' := by
 have HR0 := Aside0.mk hr0
 have HC0 := Aside0.mk hc0
 clear hr0 hc0
 have HR1 := Aside0.mk hr1
 have HC1 := Aside0.mk hc1
 clear hr1 hc1
 have HR2 := Aside0.mk hr2
 have HC2 := Aside0.mk hc2
 clear hr2 hc2
 have HB := Aside0.mk (Below.refl w.heap.size w)
 have H : ((spec_l00In.f a3 0 1000).bind fun t255 => (if t255 = true then ((spec_IsPlan.f k l0 l1 l2).bind fun t256 => (spec_IsWithin.j0 k l0 l1 l2 a3 (!t256))) else (spec_IsWithin.j0 k l0 l1 l2 a3 true))) = some r := h
 clear h
 have HC5 := Aside0.mk H
 clear H
 go_enter Try.func51, Try.ntmps51
 go_upto_region 1 with (fail)
 go_cut [22] (fun v22 wc => ∃ (kq : Nat) (x22_4 : Bool), v22 = .bool x22_4 ∧ Aside0 (spec_IsWithin.j0 kq l0 l1 l2 a3 x22_4 = some r) ∧ Aside0 (kq ≤ k) ∧ Aside0 (Below w.heap.size w wc))
 case first =>
  have H := HC5.out
  clear HC5
  replace H := Option.bind_eq_some_iff.mp H
  obtain ⟨t255, A60, H⟩ := H
  replace H : (if t255 = true then ((spec_IsPlan.f k l0 l1 l2).bind fun t256 => (spec_IsWithin.j0 k l0 l1 l2 a3 (!t256))) else (spec_IsWithin.j0 k l0 l1 l2 a3 true)) = some r := H
  have A6 := Aside0.mk A60
  clear A60
  by_cases c7 : t255 = true
  ·
   subst c7
   have H1 : ((spec_IsPlan.f k l0 l1 l2).bind fun t256 => (spec_IsWithin.j0 k l0 l1 l2 a3 (!t256))) = some r := by rw [if_pos rfl] at H; exact H
   clear H
   have H := H1
   clear H1
   replace H := Option.bind_eq_some_iff.mp H
   obtain ⟨t256, A80, H⟩ := H
   replace H : (spec_IsWithin.j0 k l0 l1 l2 a3 (!t256)) = some r := H
   have A8 := Aside0.mk A80
   clear A80
   have H' := Aside0.mk H
   clear H
   go_wp2_with (first | ((with_reducible refine gate_callee (f := 102) rfl ?_); refine goesL_ (some 14) rfl rfl Try.func102 (by kernel_rfl) rfl #[.int .i64 a3, .int .i64 0, .int .i64 1000] rfl mT_ ?_; (with_reducible refine (spec_l00In.calls a3 0 1000 true _ A6.out).mono ?_); rintro e w' ⟨rfl, ⟨nd, rfl⟩⟩; refine ⟨_, rfl, ?_⟩) | (go_at_call 36; (with_reducible refine (spec_IsPlan.calls k _ _ l0 _ _ l1 _ _ l2 t256 _ ?side1 ?side2 ?side3 ?side4 ?side5 ?side6 A8.out).mono ?_); (case side1 => exact cA_ (Kd.C_below HR0.out bB_)); (case side2 => exact HC0.out); (case side3 => exact cA_ (Kd.C_below HR1.out bB_)); (case side4 => exact HC1.out); (case side5 => exact cA_ (Kd.C_below HR2.out bB_)); (case side6 => exact HC2.out); rintro e w9 ⟨rfl, hb⟩; have n0_ := Aside0.mk (below_step bB_ hb); clear HB; have HB := n0_; clear n0_; (try clear hb); (try clear hb2); (try clear hk); (try clear hi)))
   go_meet
   case rel => exact ⟨_, (!t256), rs_, H', ⟨by first | omega | exact Nat.le_refl _⟩, ⟨bB_⟩⟩
  ·
   replace c7 := Bool.eq_false_iff.mpr c7
   subst c7
   have H1 : (spec_IsWithin.j0 k l0 l1 l2 a3 true) = some r := by rw [if_neg (show ¬ (false = true) by decide)] at H; exact H
   clear H
   have H := H1
   clear H1
   have H' := Aside0.mk H
   clear H
   go_wp2_with (first | ((with_reducible refine gate_callee (f := 102) rfl ?_); refine goesL_ (some 14) rfl rfl Try.func102 (by kernel_rfl) rfl #[.int .i64 a3, .int .i64 0, .int .i64 1000] rfl mT_ ?_; (with_reducible refine (spec_l00In.calls a3 0 1000 false _ A6.out).mono ?_); rintro e w' ⟨rfl, ⟨nd, rfl⟩⟩; refine ⟨_, rfl, ?_⟩))
   go_meet
   case rel => exact ⟨_, (true), rs_, H', ⟨by first | omega | exact Nat.le_refl _⟩, ⟨bB_⟩⟩
 case rest =>
  clear HC5
  try clear c1
  try clear c2
  try clear p2
  try clear c5
  try clear c7
  obtain ⟨kq, x22_4, rfl, HA, HJ4, HB⟩ := hcut
  cases kq with
  | zero => exact absurd HA.out (by simp [spec_IsWithin.j0])
  | succ kj4 =>
   have H := HA.out
   clear HA
   simp only [spec_IsWithin.j0] at H
   by_cases c10 : x22_4 = true
   ·
    subst c10
    have H1 : (some false) = some r := by rw [if_pos rfl] at H; exact H
    clear H
    have H := H1
    clear H1
    obtain rfl := Option.some.inj H
    go_wp2
    go_ret
    exact ⟨er_, bB_⟩
   ·
    replace c10 := Bool.eq_false_iff.mpr c10
    subst c10
    have H1 : ((spec_l13Cost.f kj4 l0 l1 l2).bind fun bt257 => ((spec_l15Day.f kj4 l0 l2).bind fun bt259 => (if bt259.2 = true then ((spec_l15Gap.f bt257.1 bt259.1).bind fun t261 => (some (decide (t261 ≤ a3)))) else (some false)))) = some r := by rw [if_neg (show ¬ (false = true) by decide)] at H; exact H
    clear H
    have H := H1
    clear H1
    replace H := Option.bind_eq_some_iff.mp H
    obtain ⟨⟨t257, t258⟩, A110, H⟩ := H
    replace H : ((spec_l15Day.f kj4 l0 l2).bind fun bt259 => (if bt259.2 = true then ((spec_l15Gap.f t257 bt259.1).bind fun t261 => (some (decide (t261 ≤ a3)))) else (some false))) = some r := H
    have A11 := Aside0.mk A110
    clear A110
    replace H := Option.bind_eq_some_iff.mp H
    obtain ⟨⟨t259, t260⟩, A120, H⟩ := H
    replace H : (if t260 = true then ((spec_l15Gap.f t257 t259).bind fun t261 => (some (decide (t261 ≤ a3)))) else (some false)) = some r := H
    have A12 := Aside0.mk A120
    clear A120
    by_cases c13 : t260 = true
    ·
     subst c13
     have H1 : ((spec_l15Gap.f t257 t259).bind fun t261 => (some (decide (t261 ≤ a3)))) = some r := by rw [if_pos rfl] at H; exact H
     clear H
     have H := H1
     clear H1
     replace H := Option.bind_eq_some_iff.mp H
     obtain ⟨t261, A140, H⟩ := H
     replace H : (some (decide (t261 ≤ a3))) = some r := H
     have A14 := Aside0.mk A140
     clear A140
     obtain rfl := Option.some.inj H
     go_wp2_with (first | ((with_reducible refine gate_callee (f := 92) rfl ?_); refine goesL_ (some 27) rfl rfl Try.func92 (by kernel_rfl) rfl #[.slice A0 l0.length c0, .slice A1 l1.length c1, .slice A2 l2.length c2] rfl mT_ ?_; (with_reducible refine (spec_l13Cost.calls kj4 _ _ l0 _ _ l1 _ _ l2 t257 t258 _ ?side1 ?side2 ?side3 ?side4 ?side5 ?side6 A11.out).mono ?_); (case side1 => exact cA_ (Kd.C_below HR0.out HB.out)); (case side2 => exact HC0.out); (case side3 => exact cA_ (Kd.C_below HR1.out HB.out)); (case side4 => exact HC1.out); (case side5 => exact cA_ (Kd.C_below HR2.out HB.out)); (case side6 => exact HC2.out); rintro e w15 ⟨rfl, hb⟩; refine ⟨_, rfl, ?_⟩; have n0_ := Aside0.mk (below_step bB_ hb); clear HB; have HB := n0_; clear n0_; (try clear hb); (try clear hb2); (try clear hk); (try clear hi)) | ((with_reducible refine gate_callee (f := 58) rfl ?_); refine goesL_ (some 33) rfl rfl Try.func58 (by kernel_rfl) rfl #[.slice A0 l0.length c0, .slice A2 l2.length c2] rfl mT_ ?_; (with_reducible refine (spec_l15Day.calls kj4 _ _ l0 _ _ l2 t259 true _ ?side1 ?side2 ?side3 ?side4 A12.out).mono ?_); (case side1 => exact cA_ (Kd.C_below HR0.out HB.out)); (case side2 => exact HC0.out); (case side3 => exact cA_ (Kd.C_below HR2.out HB.out)); (case side4 => exact HC2.out); rintro e w16 ⟨rfl, hb⟩; refine ⟨_, rfl, ?_⟩; have n0_ := Aside0.mk (below_step bB_ hb); clear HB; have HB := n0_; clear n0_; (try clear hb); (try clear hb2); (try clear hk); (try clear hi)) | (go_at_call 107; (with_reducible refine (spec_l15Gap.calls t257 t259 t261 _ A14.out).mono ?_); rintro e w' ⟨rfl, ⟨nd, rfl⟩⟩))
     go_ret
     exact ⟨er_, bB_⟩
    ·
     replace c13 := Bool.eq_false_iff.mpr c13
     subst c13
     have H1 : (some false) = some r := by rw [if_neg (show ¬ (false = true) by decide)] at H; exact H
     clear H
     have H := H1
     clear H1
     obtain rfl := Option.some.inj H
     go_wp2_with (first | ((with_reducible refine gate_callee (f := 92) rfl ?_); refine goesL_ (some 27) rfl rfl Try.func92 (by kernel_rfl) rfl #[.slice A0 l0.length c0, .slice A1 l1.length c1, .slice A2 l2.length c2] rfl mT_ ?_; (with_reducible refine (spec_l13Cost.calls kj4 _ _ l0 _ _ l1 _ _ l2 t257 t258 _ ?side1 ?side2 ?side3 ?side4 ?side5 ?side6 A11.out).mono ?_); (case side1 => exact cA_ (Kd.C_below HR0.out HB.out)); (case side2 => exact HC0.out); (case side3 => exact cA_ (Kd.C_below HR1.out HB.out)); (case side4 => exact HC1.out); (case side5 => exact cA_ (Kd.C_below HR2.out HB.out)); (case side6 => exact HC2.out); rintro e w17 ⟨rfl, hb⟩; refine ⟨_, rfl, ?_⟩; have n0_ := Aside0.mk (below_step bB_ hb); clear HB; have HB := n0_; clear n0_; (try clear hb); (try clear hb2); (try clear hk); (try clear hi)) | ((with_reducible refine gate_callee (f := 58) rfl ?_); refine goesL_ (some 33) rfl rfl Try.func58 (by kernel_rfl) rfl #[.slice A0 l0.length c0, .slice A2 l2.length c2] rfl mT_ ?_; (with_reducible refine (spec_l15Day.calls kj4 _ _ l0 _ _ l2 t259 false _ ?side1 ?side2 ?side3 ?side4 A12.out).mono ?_); (case side1 => exact cA_ (Kd.C_below HR0.out HB.out)); (case side2 => exact HC0.out); (case side3 => exact cA_ (Kd.C_below HR2.out HB.out)); (case side4 => exact HC2.out); rintro e w18 ⟨rfl, hb⟩; refine ⟨_, rfl, ?_⟩; have n0_ := Aside0.mk (below_step bB_ hb); clear HB; have HB := n0_; clear n0_; (try clear hb); (try clear hb2); (try clear hk); (try clear hi)))
     go_ret
     exact ⟨er_, bB_⟩

/-! ### impl_within: function 104 -/
def inB (lo hi x : Int) : Bool := decide (lo ≤ x) && decide (x ≤ hi)
theorem within_all (a0 a1 a2 : Int) (w : World) :
  Calls Try.prog 104 #[.int .i64 a0, .int .i64 a1, .int .i64 a2] w fun e w' => e = .returned (.bool (inB a1 a2 a0)) ∧ w = w' := by
 by_cases h : a1 ≤ a0
 ·
  go_enter Try.func104, Try.ntmps104
  go_wp2
  go_ret
  exact ⟨by simp [inB, h], rfl⟩
 ·
  go_enter Try.func104, Try.ntmps104
  go_wp2
  go_ret
  exact ⟨by simp [inB]; omega, rfl⟩

def impl_within.f (a0 : Int) (a1 : Int) (a2 : Int) : Option Bool := some (inB a1 a2 a0)
theorem impl_within.calls (a0 : Int) (a1 : Int) (a2 : Int) (r : Bool) (w : World) (h : impl_within.f a0 a1 a2 = some r) :
  Calls Try.prog 104 #[.int .i64 a0, .int .i64 a1, .int .i64 a2] w fun e w' => e = .returned (.bool r) ∧ Drawn0 w w' := by
 refine (within_all a0 a1 a2 w).mono ?_
 rintro e w' ⟨rfl, rfl⟩
 exact ⟨by rw [Option.some.inj h], Drawn0.refl _⟩

end Go.Proofs.Ytebkgebibammiaa.PFnExactIsWithin
