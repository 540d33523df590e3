-- PRINTED by print.py (a twelfth state) out of the translation. Not trusted: Lean checks it.
import Derived.Test.YtgkmfgkkmahmoaaDoorPFnVersionsx0
import Derived.Test.YtgkmfgkkmahmoaaDoorPFnVersionsx11
namespace Go.Proofs.YtgkmfgkkmahmoaaDoor.PFnVersions
open Go.RowKit Go.Proofs.YtgkmfgkkmahmoaaDoorW.PrintWords Go.Proofs.YtgkmfgkkmahmoaaDoorW.PrintLast Go.Proofs.YtgkmfgkkmahmoaaDoorW.PrintMore
attribute [local go_sem] max2_int min2_int max_two min_two max_three min_three max_four min_four   -- for this text's walks alone
set_option linter.unusedVariables false
set_option linter.unusedSimpArgs false

/-! ### spec_l27Setting: function 150 -/
def spec_l27Setting.f (k : Nat) (l0 : List (S96)) : Option (Bool) := if 0 < (l0.length : Int) then ((spec_l01Name.f k ((rd_T96 l0 0).f0)).bind fun t366 => (if t366 = true then ((spec_l00In.f ((rd_T96 l0 0).f1) 0 1000).bind fun t368 => (some t368)) else (some false))) else (none)
theorem spec_l27Setting.mono : ∀ a0 k, LeO (spec_l27Setting.f k a0) (spec_l27Setting.f (k + 1) a0) := by
 intro a0 k
 unfold spec_l27Setting.f
 repeat' first
   | (with_reducible exact spec_l01Name.mono _ _)
   | (with_reducible exact LeO.refl _)
   | (with_reducible exact LeO.none _)
   | (with_reducible refine LeO.ite ?_ ?_)
   | (with_reducible refine LeO.bind ?_ (fun _ => ?_))
   | exact spec_l01Name.mono _ _
   | exact LeO.none _
   | refine LeO.ite ?_ ?_
   | refine LeO.bind ?_ (fun _ => ?_)
set_option maxHeartbeats 8000000 in
set_option maxRecDepth 100000 in
theorem spec_l27Setting.calls (k : Nat) (A0 : Option Addr) (c0 : Nat) (l0 : List (S96)) (r : Bool) (w : World) (hr0 : Kd.C k96 w A0 l0.length l0) (hc0 : l0.length ≤ c0) (h : spec_l27Setting.f k l0 = some r) :
  Calls Tryd.prog 150 #[.pointer A0] w fun e w' => e = .returned (.bool r) ∧ Drawn0 w w' := by
 have HR0 := Aside0.mk hr0
 have HC0 := Aside0.mk hc0
 clear hr0 hc0
 have H : (if 0 < (l0.length : Int) then ((spec_l01Name.f k ((rd_T96 l0 0).f0)).bind fun t366 => (if t366 = true then ((spec_l00In.f ((rd_T96 l0 0).f1) 0 1000).bind fun t368 => (some t368)) else (some false))) else (none)) = some r := h
 clear h
 by_cases c2 : 0 < (l0.length : Int)
 ·
  rw [if_pos c2] at H
  have c2b0 : decide (0 < (l0.length : Int)) = true := decide_eq_true c2
  have c2b1 : decide (0 < l0.length) = true := decide_eq_true (by omega)
  clear c2
  replace H := Option.bind_eq_some_iff.mp H
  obtain ⟨t366, A30, H⟩ := H
  replace H : (if t366 = true then ((spec_l00In.f ((rd_T96 l0 0).f1) 0 1000).bind fun t368 => (some t368)) else (some false)) = some r := H
  have A3 := Aside0.mk A30
  clear A30
  by_cases c4 : t366 = true
  ·
   subst c4
   have H1 : ((spec_l00In.f ((rd_T96 l0 0).f1) 0 1000).bind fun t368 => (some t368)) = some r := by rw [if_pos rfl] at H; exact H
   clear H
   have H := H1
   clear H1
   replace H := Option.bind_eq_some_iff.mp H
   obtain ⟨t368, A50, H⟩ := H
   replace H : (some t368) = some r := H
   have A5 := Aside0.mk A50
   clear A50
   obtain rfl := Option.some.inj H
   have p365 : 0 ≤ (0 : Int) := (by omega)
   have q365 : 0 < (l0.length : Int) := of_decide_eq_true as_
   obtain ⟨ad365, e365, hx365_0, hx365_1⟩ := at_T96 HR0.out 0 p365 q365
   cases e365
   have qi365 : (0 < l0.length) = True := eq_true (by omega)
   (try rw [show ((0 : Int)).toNat = 0 from rfl] at hx365_0)
   (try rw [show 0 * 2 = 0 from rfl] at hx365_0)
   (try rw [Addr.add_zero'] at hx365_0)
   (try rw [show ((0 : Int)).toNat = 0 from rfl] at hx365_1)
   (try rw [show 0 * 2 = 0 from rfl] at hx365_1)
   (try rw [Addr.add_zero'] at hx365_1)
   replace p365 := eq_true p365
   replace q365 := eq_true q365
   have p367 : 0 ≤ (0 : Int) := (by omega)
   have q367 : 0 < (l0.length : Int) := of_decide_eq_true as_
   obtain ⟨ad367, e367, hx367_0, hx367_1⟩ := at_T96 HR0.out 0 p367 q367
   obtain rfl : ad365 = ad367 := (by injection e367)
   have qi367 : (0 < l0.length) = True := eq_true (by omega)
   (try rw [show ((0 : Int)).toNat = 0 from rfl] at hx367_0)
   (try rw [show 0 * 2 = 0 from rfl] at hx367_0)
   (try rw [Addr.add_zero'] at hx367_0)
   (try rw [show ((0 : Int)).toNat = 0 from rfl] at hx367_1)
   (try rw [show 0 * 2 = 0 from rfl] at hx367_1)
   (try rw [Addr.add_zero'] at hx367_1)
   replace p367 := eq_true p367
   replace q367 := eq_true q367
   go_enter Tryd.func150, Tryd.ntmps150
   go_wp2_with (first | ((with_reducible refine gate_callee (f := 126) rfl ?_); refine goesL_ (some 7) rfl rfl Tryd.func126 (by kernel_rfl) rfl #[.string ((rd_T96 l0 0).f0)] rfl mT_ ?_; (with_reducible refine (spec_l01Name.calls k ((rd_T96 l0 0).f0) true _ A3.out).mono ?_); rintro e w' ⟨rfl, ⟨nd, rfl⟩⟩; refine ⟨_, rfl, ?_⟩) | (go_at_call 122; (with_reducible refine (spec_l00In.calls ((rd_T96 l0 0).f1) 0 1000 t368 _ A5.out).mono ?_); rintro e w' ⟨rfl, ⟨nd, rfl⟩⟩))
   go_ret
   exact ⟨rs_, dr_⟩
  ·
   replace c4 := Bool.eq_false_iff.mpr c4
   subst c4
   have H1 : (some false) = some r := by rw [if_neg (show ¬ (false = true) by decide)] at H; exact H
   clear H
   have H := H1
   clear H1
   obtain rfl := Option.some.inj H
   have p365 : 0 ≤ (0 : Int) := (by omega)
   have q365 : 0 < (l0.length : Int) := of_decide_eq_true as_
   obtain ⟨ad365, e365, hx365_0, hx365_1⟩ := at_T96 HR0.out 0 p365 q365
   cases e365
   have qi365 : (0 < l0.length) = True := eq_true (by omega)
   (try rw [show ((0 : Int)).toNat = 0 from rfl] at hx365_0)
   (try rw [show 0 * 2 = 0 from rfl] at hx365_0)
   (try rw [Addr.add_zero'] at hx365_0)
   (try rw [show ((0 : Int)).toNat = 0 from rfl] at hx365_1)
   (try rw [show 0 * 2 = 0 from rfl] at hx365_1)
   (try rw [Addr.add_zero'] at hx365_1)
   replace p365 := eq_true p365
   replace q365 := eq_true q365
   go_enter Tryd.func150, Tryd.ntmps150
   go_wp2_with (first | ((with_reducible refine gate_callee (f := 126) rfl ?_); refine goesL_ (some 7) rfl rfl Tryd.func126 (by kernel_rfl) rfl #[.string ((rd_T96 l0 0).f0)] rfl mT_ ?_; (with_reducible refine (spec_l01Name.calls k ((rd_T96 l0 0).f0) false _ A3.out).mono ?_); rintro e w' ⟨rfl, ⟨nd, rfl⟩⟩; refine ⟨_, rfl, ?_⟩))
   go_ret
   exact ⟨rs_, dr_⟩
 ·
  rw [if_neg c2] at H
  exact absurd H (by simp)

/-! ### spec_l27State: function 124 -/
def spec_l27State.l0 : Nat → List (S96) → Int → Option (Bool)
 | 0, _, _ => none
 | k + 1, x0, x3 => if x3 < (x0.length : Int) then (if 0 ≤ x3 then ((spec_l27Setting.f k [rd_T96 x0 x3]).bind fun t371 => (if t371 = true then (if x3 > 0 then (if 0 ≤ (wrap64 (x3 - 1)) then (if (wrap64 (x3 - 1)) < (x0.length : Int) then (if ((Op.bytesLess (((rd_T96 x0 (wrap64 (x3 - 1))).f0).toList) (((rd_T96 x0 x3).f0).toList)) = true) then (spec_l27State.l0 k x0 (wrap64 (x3 + 1))) else (some false)) else (none)) else (none)) else (spec_l27State.l0 k x0 (wrap64 (x3 + 1)))) else (some false))) else (none)) else (some (decide ((x0.length : Int) ≤ 24)))
def spec_l27State.f (k : Nat) (l0 : List (S96)) : Option (Bool) := spec_l27State.l0 k l0 0
theorem spec_l27State.mono_l : ∀ k, (∀ y0 y1, LeO (spec_l27State.l0 k y0 y1) (spec_l27State.l0 (k + 1) y0 y1))
 | 0 => fun _ _ r h => by simp [spec_l27State.l0] at h
 | k + 1 => by
  have ih0 := spec_l27State.mono_l k
  ·
   intro y0 y1
   unfold spec_l27State.l0
   repeat' first
   | (with_reducible exact ih0 _ _)
   | (with_reducible exact spec_l27Setting.mono _ _)
   | (with_reducible exact LeO.refl _)
   | (with_reducible exact LeO.none _)
   | (with_reducible refine LeO.ite ?_ ?_)
   | (with_reducible refine LeO.bind ?_ (fun _ => ?_))
   | exact ih0 _ _
   | exact spec_l27Setting.mono _ _
   | exact LeO.none _
   | refine LeO.ite ?_ ?_
   | refine LeO.bind ?_ (fun _ => ?_)
theorem spec_l27State.mono : ∀ a0 k, LeO (spec_l27State.f k a0) (spec_l27State.f (k + 1) a0) := by
 intro a0 k
 have ih0 := spec_l27State.mono_l k
 unfold spec_l27State.f
 repeat' first
   | (with_reducible exact ih0 _ _)
   | (with_reducible exact spec_l27Setting.mono _ _)
   | (with_reducible exact LeO.refl _)
   | (with_reducible exact LeO.none _)
   | (with_reducible refine LeO.ite ?_ ?_)
   | (with_reducible refine LeO.bind ?_ (fun _ => ?_))
   | exact ih0 _ _
   | exact spec_l27Setting.mono _ _
   | exact LeO.none _
   | refine LeO.ite ?_ ?_
   | refine LeO.bind ?_ (fun _ => ?_)
set_option maxHeartbeats 8000000 in
set_option maxRecDepth 100000 in
theorem spec_l27State.calls (k : Nat) (A0 : Option Addr) (c0 : Nat) (l0 : List (S96)) (r : Bool) (w : World) (hr0 : Kd.C k96 w A0 l0.length l0) (hc0 : l0.length ≤ c0) (h : spec_l27State.f k l0 = some r) :
  Calls Tryd.prog 124 #[.slice A0 l0.length c0] w fun e w' => e = .returned (.bool r) ∧ Drawn0 w w' := by
 have HR0 := Aside0.mk hr0
 have HC0 := Aside0.mk hc0
 clear hr0 hc0
 have H : (spec_l27State.l0 k l0 0) = some r := h
 clear h
 have H' := Aside0.mk H
 clear H
 go_enter Tryd.func124, Tryd.ntmps124
 go_wp2
 repeat (go_quiet (fail); try go_wp2)
 go_loopg [3] k (fun kq v3 w' => ∃ (x3_1 : Int), v3 = .int .i64 x3_1 ∧ Aside0 (spec_l27State.l0 kq l0 x3_1 = some r) ∧ Aside0 (kq ≤ k) ∧ Drawn0 w w')
 case atStart => exact ⟨(0), rs_, H', ⟨Nat.le_refl _⟩, dr_⟩
 case round =>
  clear H'
  try clear c1
  obtain ⟨x3_1, rfl, HA, HK1, ⟨m1, rfl⟩⟩ := hrel
  cases gk with
  | zero => exact absurd HA.out (by simp [spec_l27State.l0])
  | succ k1 =>
   have H := HA.out
   clear HA
   simp only [spec_l27State.l0] at H
   by_cases c2 : x3_1 < (l0.length : Int)
   ·
    rw [if_pos c2] at H
    have c2b0 : decide (x3_1 < (l0.length : Int)) = true := decide_eq_true c2
    clear c2
    by_cases c3 : 0 ≤ x3_1
    ·
     rw [if_pos c3] at H
     have c3b0 : decide (0 ≤ x3_1) = true := decide_eq_true c3
     clear c3
     replace H := Option.bind_eq_some_iff.mp H
     obtain ⟨t371, A40, H⟩ := H
     replace H : (if t371 = true then (if x3_1 > 0 then (if 0 ≤ (wrap64 (x3_1 - 1)) then (if (wrap64 (x3_1 - 1)) < (l0.length : Int) then (if ((Op.bytesLess (((rd_T96 l0 (wrap64 (x3_1 - 1))).f0).toList) (((rd_T96 l0 x3_1).f0).toList)) = true) then (spec_l27State.l0 k1 l0 (wrap64 (x3_1 + 1))) else (some false)) else (none)) else (none)) else (spec_l27State.l0 k1 l0 (wrap64 (x3_1 + 1)))) else (some false)) = some r := H
     have A4 := Aside0.mk A40
     clear A40
     by_cases c5 : t371 = true
     ·
      subst c5
      have H1 : (if x3_1 > 0 then (if 0 ≤ (wrap64 (x3_1 - 1)) then (if (wrap64 (x3_1 - 1)) < (l0.length : Int) then (if ((Op.bytesLess (((rd_T96 l0 (wrap64 (x3_1 - 1))).f0).toList) (((rd_T96 l0 x3_1).f0).toList)) = true) then (spec_l27State.l0 k1 l0 (wrap64 (x3_1 + 1))) else (some false)) else (none)) else (none)) else (spec_l27State.l0 k1 l0 (wrap64 (x3_1 + 1)))) = some r := by rw [if_pos rfl] at H; exact H
      clear H
      have H := H1
      clear H1
      by_cases c6 : x3_1 > 0
      ·
       rw [if_pos c6] at H
       have c6b0 : decide (0 < x3_1) = true := decide_eq_true c6
       clear c6
       obtain ⟨ji7, hji7⟩ : ∃ j_ : Int, (wrap64 (x3_1 - 1)) = j_ := ⟨_, rfl⟩
       replace H : (if 0 ≤ (ji7) then (if (ji7) < (l0.length : Int) then (if ((Op.bytesLess (((rd_T96 l0 (ji7)).f0).toList) (((rd_T96 l0 x3_1).f0).toList)) = true) then (spec_l27State.l0 k1 l0 (wrap64 (x3_1 + 1))) else (some false)) else (none)) else (none)) = some r := by first | (rw [hji7] at H; exact H) | (simp only [hji7] at H ⊢; exact H)
       (try rw [hji7] at A4)
       have hji7w : (IntKind.i64.wrap (x3_1 - 1)) = ji7 := (i64_w _).trans hji7
       by_cases c8 : 0 ≤ (ji7)
       ·
        rw [if_pos c8] at H
        have c8b0 : decide (0 ≤ (ji7)) = true := decide_eq_true c8
        clear c8
        by_cases c9 : (ji7) < (l0.length : Int)
        ·
         rw [if_pos c9] at H
         have c9b0 : decide ((ji7) < (l0.length : Int)) = true := decide_eq_true c9
         clear c9
         by_cases c10 : ((Op.bytesLess (((rd_T96 l0 (ji7)).f0).toList) (((rd_T96 l0 x3_1).f0).toList)) = true)
         ·
          rw [if_pos c10] at H
          have c10b0 : (Op.bytesLess (((rd_T96 l0 (ji7)).f0).toList) (((rd_T96 l0 x3_1).f0).toList)) = true := c10
          clear c10
          have H' := Aside0.mk H
          clear H
          have p369 : 0 ≤ (x3_1 : Int) := of_decide_eq_true as_
          have q369 : x3_1 < (l0.length : Int) := of_decide_eq_true as_
          obtain ⟨ad369, e369, hx369_0, hx369_1⟩ := at_T96 HR0.out x3_1 p369 q369
          cases e369
          replace p369 := eq_true p369
          replace q369 := eq_true q369
          have HRe370 := Aside0.mk (show Kd.C k96 w (some (ad369.add ((x3_1).toNat * 2))) 1 [rd_T96 l0 x3_1] from ep_elem HR0.out _ x3_1 (of_decide_eq_true as_) (of_decide_eq_true as_))
          have HCe370 := Aside0.mk (Nat.le_refl 1)
          have p372 : 0 ≤ ((ji7) : Int) := of_decide_eq_true as_
          have q372 : (ji7) < (l0.length : Int) := of_decide_eq_true as_
          obtain ⟨ad372, e372, hx372_0, hx372_1⟩ := at_T96 HR0.out (ji7) p372 q372
          obtain rfl : ad369 = ad372 := (by injection e372)
          replace p372 := eq_true p372
          replace q372 := eq_true q372
          have p373 : 0 ≤ (x3_1 : Int) := of_decide_eq_true as_
          have q373 : x3_1 < (l0.length : Int) := of_decide_eq_true as_
          obtain ⟨ad373, e373, hx373_0, hx373_1⟩ := at_T96 HR0.out x3_1 p373 q373
          obtain rfl : ad369 = ad373 := (by injection e373)
          replace p373 := eq_true p373
          replace q373 := eq_true q373
          go_wp2_with (first | (go_at_call 150; (with_reducible refine (spec_l27Setting.calls k1 _ 1 [rd_T96 l0 x3_1] true _ ?side1 ?side2 A4.out).mono ?_); (case side1 => exact cA_ HRe370.out); (case side2 => first | exact Nat.le_refl _ | exact HCe370.out); rintro e w' ⟨rfl, ⟨nd, rfl⟩⟩; (try first | exact ⟨rfl, _, World.drewN_drewN _ _ _⟩ | exact ⟨rfl, _, Eq.trans (World.drewN_drewN _ _ _) (congrArg (World.drewN _) (Nat.add_assoc _ _ _))⟩)))
          repeat (go_quiet (first | (go_at_call 150; (with_reducible refine (spec_l27Setting.calls k1 _ 1 [rd_T96 l0 x3_1] true _ ?side1 ?side2 A4.out).mono ?_); (case side1 => exact cA_ HRe370.out); (case side2 => first | exact Nat.le_refl _ | exact HCe370.out); rintro e w' ⟨rfl, ⟨nd, rfl⟩⟩; (try first | exact ⟨rfl, _, World.drewN_drewN _ _ _⟩ | exact ⟨rfl, _, Eq.trans (World.drewN_drewN _ _ _) (congrArg (World.drewN _) (Nat.add_assoc _ _ _))⟩))); try go_wp2_with (first | (go_at_call 150; (with_reducible refine (spec_l27Setting.calls k1 _ 1 [rd_T96 l0 x3_1] true _ ?side1 ?side2 A4.out).mono ?_); (case side1 => exact cA_ HRe370.out); (case side2 => first | exact Nat.le_refl _ | exact HCe370.out); rintro e w' ⟨rfl, ⟨nd, rfl⟩⟩; (try first | exact ⟨rfl, _, World.drewN_drewN _ _ _⟩ | exact ⟨rfl, _, Eq.trans (World.drewN_drewN _ _ _) (congrArg (World.drewN _) (Nat.add_assoc _ _ _))⟩))))
          go_roundg k1
          case measure => have := HK1.out; omega
          case rel => exact ⟨(wrap64 (x3_1 + 1)), rs_, H', ⟨by have := HK1.out; omega⟩, dr_⟩
         ·
          rw [if_neg c10] at H
          have c10b0 : (Op.bytesLess (((rd_T96 l0 (ji7)).f0).toList) (((rd_T96 l0 x3_1).f0).toList)) = false := by simpa using c10
          clear c10
          obtain rfl := Option.some.inj H
          have p369 : 0 ≤ (x3_1 : Int) := of_decide_eq_true as_
          have q369 : x3_1 < (l0.length : Int) := of_decide_eq_true as_
          obtain ⟨ad369, e369, hx369_0, hx369_1⟩ := at_T96 HR0.out x3_1 p369 q369
          cases e369
          replace p369 := eq_true p369
          replace q369 := eq_true q369
          have HRe370 := Aside0.mk (show Kd.C k96 w (some (ad369.add ((x3_1).toNat * 2))) 1 [rd_T96 l0 x3_1] from ep_elem HR0.out _ x3_1 (of_decide_eq_true as_) (of_decide_eq_true as_))
          have HCe370 := Aside0.mk (Nat.le_refl 1)
          have p372 : 0 ≤ ((ji7) : Int) := of_decide_eq_true as_
          have q372 : (ji7) < (l0.length : Int) := of_decide_eq_true as_
          obtain ⟨ad372, e372, hx372_0, hx372_1⟩ := at_T96 HR0.out (ji7) p372 q372
          obtain rfl : ad369 = ad372 := (by injection e372)
          replace p372 := eq_true p372
          replace q372 := eq_true q372
          have p373 : 0 ≤ (x3_1 : Int) := of_decide_eq_true as_
          have q373 : x3_1 < (l0.length : Int) := of_decide_eq_true as_
          obtain ⟨ad373, e373, hx373_0, hx373_1⟩ := at_T96 HR0.out x3_1 p373 q373
          obtain rfl : ad369 = ad373 := (by injection e373)
          replace p373 := eq_true p373
          replace q373 := eq_true q373
          go_wp2_with (first | (go_at_call 150; (with_reducible refine (spec_l27Setting.calls k1 _ 1 [rd_T96 l0 x3_1] true _ ?side1 ?side2 A4.out).mono ?_); (case side1 => exact cA_ HRe370.out); (case side2 => first | exact Nat.le_refl _ | exact HCe370.out); rintro e w' ⟨rfl, ⟨nd, rfl⟩⟩; (try first | exact ⟨rfl, _, World.drewN_drewN _ _ _⟩ | exact ⟨rfl, _, Eq.trans (World.drewN_drewN _ _ _) (congrArg (World.drewN _) (Nat.add_assoc _ _ _))⟩)))
          repeat (go_quiet (first | (go_at_call 150; (with_reducible refine (spec_l27Setting.calls k1 _ 1 [rd_T96 l0 x3_1] true _ ?side1 ?side2 A4.out).mono ?_); (case side1 => exact cA_ HRe370.out); (case side2 => first | exact Nat.le_refl _ | exact HCe370.out); rintro e w' ⟨rfl, ⟨nd, rfl⟩⟩; (try first | exact ⟨rfl, _, World.drewN_drewN _ _ _⟩ | exact ⟨rfl, _, Eq.trans (World.drewN_drewN _ _ _) (congrArg (World.drewN _) (Nat.add_assoc _ _ _))⟩))); try go_wp2_with (first | (go_at_call 150; (with_reducible refine (spec_l27Setting.calls k1 _ 1 [rd_T96 l0 x3_1] true _ ?side1 ?side2 A4.out).mono ?_); (case side1 => exact cA_ HRe370.out); (case side2 => first | exact Nat.le_refl _ | exact HCe370.out); rintro e w' ⟨rfl, ⟨nd, rfl⟩⟩; (try first | exact ⟨rfl, _, World.drewN_drewN _ _ _⟩ | exact ⟨rfl, _, Eq.trans (World.drewN_drewN _ _ _) (congrArg (World.drewN _) (Nat.add_assoc _ _ _))⟩))))
          go_ret
          exact ⟨by first | rfl | (simp; done) | (simp only [← hji7] <;> (first | rfl | simp)) | (simp [*]; done), dr_⟩
        ·
         rw [if_neg c9] at H
         exact absurd H (by simp)
       ·
        rw [if_neg c8] at H
        exact absurd H (by simp)
      ·
       rw [if_neg c6] at H
       have c6b0 : decide (0 < x3_1) = false := decide_eq_false c6
       clear c6
       have H' := Aside0.mk H
       clear H
       have p369 : 0 ≤ (x3_1 : Int) := of_decide_eq_true as_
       have q369 : x3_1 < (l0.length : Int) := of_decide_eq_true as_
       obtain ⟨ad369, e369, hx369_0, hx369_1⟩ := at_T96 HR0.out x3_1 p369 q369
       cases e369
       replace p369 := eq_true p369
       replace q369 := eq_true q369
       have HRe370 := Aside0.mk (show Kd.C k96 w (some (ad369.add ((x3_1).toNat * 2))) 1 [rd_T96 l0 x3_1] from ep_elem HR0.out _ x3_1 (of_decide_eq_true as_) (of_decide_eq_true as_))
       have HCe370 := Aside0.mk (Nat.le_refl 1)
       go_wp2_with (first | (go_at_call 150; (with_reducible refine (spec_l27Setting.calls k1 _ 1 [rd_T96 l0 x3_1] true _ ?side1 ?side2 A4.out).mono ?_); (case side1 => exact cA_ HRe370.out); (case side2 => first | exact Nat.le_refl _ | exact HCe370.out); rintro e w' ⟨rfl, ⟨nd, rfl⟩⟩; (try first | exact ⟨rfl, _, World.drewN_drewN _ _ _⟩ | exact ⟨rfl, _, Eq.trans (World.drewN_drewN _ _ _) (congrArg (World.drewN _) (Nat.add_assoc _ _ _))⟩)))
       repeat (go_quiet (first | (go_at_call 150; (with_reducible refine (spec_l27Setting.calls k1 _ 1 [rd_T96 l0 x3_1] true _ ?side1 ?side2 A4.out).mono ?_); (case side1 => exact cA_ HRe370.out); (case side2 => first | exact Nat.le_refl _ | exact HCe370.out); rintro e w' ⟨rfl, ⟨nd, rfl⟩⟩; (try first | exact ⟨rfl, _, World.drewN_drewN _ _ _⟩ | exact ⟨rfl, _, Eq.trans (World.drewN_drewN _ _ _) (congrArg (World.drewN _) (Nat.add_assoc _ _ _))⟩))); try go_wp2_with (first | (go_at_call 150; (with_reducible refine (spec_l27Setting.calls k1 _ 1 [rd_T96 l0 x3_1] true _ ?side1 ?side2 A4.out).mono ?_); (case side1 => exact cA_ HRe370.out); (case side2 => first | exact Nat.le_refl _ | exact HCe370.out); rintro e w' ⟨rfl, ⟨nd, rfl⟩⟩; (try first | exact ⟨rfl, _, World.drewN_drewN _ _ _⟩ | exact ⟨rfl, _, Eq.trans (World.drewN_drewN _ _ _) (congrArg (World.drewN _) (Nat.add_assoc _ _ _))⟩))))
       go_roundg k1
       case measure => have := HK1.out; omega
       case rel => exact ⟨(wrap64 (x3_1 + 1)), rs_, H', ⟨by have := HK1.out; omega⟩, dr_⟩
     ·
      replace c5 := Bool.eq_false_iff.mpr c5
      subst c5
      have H1 : (some false) = some r := by rw [if_neg (show ¬ (false = true) by decide)] at H; exact H
      clear H
      have H := H1
      clear H1
      obtain rfl := Option.some.inj H
      have p369 : 0 ≤ (x3_1 : Int) := of_decide_eq_true as_
      have q369 : x3_1 < (l0.length : Int) := of_decide_eq_true as_
      obtain ⟨ad369, e369, hx369_0, hx369_1⟩ := at_T96 HR0.out x3_1 p369 q369
      cases e369
      replace p369 := eq_true p369
      replace q369 := eq_true q369
      have HRe370 := Aside0.mk (show Kd.C k96 w (some (ad369.add ((x3_1).toNat * 2))) 1 [rd_T96 l0 x3_1] from ep_elem HR0.out _ x3_1 (of_decide_eq_true as_) (of_decide_eq_true as_))
      have HCe370 := Aside0.mk (Nat.le_refl 1)
      go_wp2_with (first | (go_at_call 150; (with_reducible refine (spec_l27Setting.calls k1 _ 1 [rd_T96 l0 x3_1] false _ ?side1 ?side2 A4.out).mono ?_); (case side1 => exact cA_ HRe370.out); (case side2 => first | exact Nat.le_refl _ | exact HCe370.out); rintro e w' ⟨rfl, ⟨nd, rfl⟩⟩; (try first | exact ⟨rfl, _, World.drewN_drewN _ _ _⟩ | exact ⟨rfl, _, Eq.trans (World.drewN_drewN _ _ _) (congrArg (World.drewN _) (Nat.add_assoc _ _ _))⟩)))
      repeat (go_quiet (first | (go_at_call 150; (with_reducible refine (spec_l27Setting.calls k1 _ 1 [rd_T96 l0 x3_1] false _ ?side1 ?side2 A4.out).mono ?_); (case side1 => exact cA_ HRe370.out); (case side2 => first | exact Nat.le_refl _ | exact HCe370.out); rintro e w' ⟨rfl, ⟨nd, rfl⟩⟩; (try first | exact ⟨rfl, _, World.drewN_drewN _ _ _⟩ | exact ⟨rfl, _, Eq.trans (World.drewN_drewN _ _ _) (congrArg (World.drewN _) (Nat.add_assoc _ _ _))⟩))); try go_wp2_with (first | (go_at_call 150; (with_reducible refine (spec_l27Setting.calls k1 _ 1 [rd_T96 l0 x3_1] false _ ?side1 ?side2 A4.out).mono ?_); (case side1 => exact cA_ HRe370.out); (case side2 => first | exact Nat.le_refl _ | exact HCe370.out); rintro e w' ⟨rfl, ⟨nd, rfl⟩⟩; (try first | exact ⟨rfl, _, World.drewN_drewN _ _ _⟩ | exact ⟨rfl, _, Eq.trans (World.drewN_drewN _ _ _) (congrArg (World.drewN _) (Nat.add_assoc _ _ _))⟩))))
      go_ret
      exact ⟨rs_, dr_⟩
    ·
     rw [if_neg c3] at H
     exact absurd H (by simp)
   ·
    rw [if_neg c2] at H
    have c2b0 : decide (x3_1 < (l0.length : Int)) = false := decide_eq_false c2
    clear c2
    obtain rfl := Option.some.inj H
    go_wp2
    repeat (go_quiet (fail); try go_wp2)
    go_ret
    exact ⟨rs_, dr_⟩

/-! ### spec_l27Ok: function 72 -/
def spec_l27Ok.l0 : Nat → List (S48) → Int → Option (Bool)
 | 0, _, _ => none
 | k + 1, x0, x3 => if x3 < (x0.length : Int) then (if 0 ≤ x3 then (if ((rd_T48 x0 x3).f0) = (wrap64 (x3 + 1)) then ((spec_l00In.f ((rd_T48 x0 x3).f1) 0 x3).bind fun t376 => (if t376 = true then ((spec_l27Memo.f k ((rd_T48 x0 x3).f2)).bind fun t377 => (if t377 = true then ((spec_l27State.f k ((rd_T48 x0 x3).f3)).bind fun t378 => (if t378 = true then (spec_l27Ok.l0 k x0 (wrap64 (x3 + 1))) else (some false))) else (some false))) else (some false))) else (some false)) else (none)) else (some (decide ((x0.length : Int) ≤ 32)))
def spec_l27Ok.f (k : Nat) (l0 : List (S48)) : Option (Bool) := spec_l27Ok.l0 k l0 0
theorem spec_l27Ok.mono_l : ∀ k, (∀ y0 y1, LeO (spec_l27Ok.l0 k y0 y1) (spec_l27Ok.l0 (k + 1) y0 y1))
 | 0 => fun _ _ r h => by simp [spec_l27Ok.l0] at h
 | k + 1 => by
  have ih0 := spec_l27Ok.mono_l k
  ·
   intro y0 y1
   unfold spec_l27Ok.l0
   repeat' first
   | (with_reducible exact ih0 _ _)
   | (with_reducible exact spec_l27Memo.mono _ _)
   | (with_reducible exact spec_l27State.mono _ _)
   | (with_reducible exact LeO.refl _)
   | (with_reducible exact LeO.none _)
   | (with_reducible refine LeO.ite ?_ ?_)
   | (with_reducible refine LeO.bind ?_ (fun _ => ?_))
   | exact ih0 _ _
   | exact spec_l27Memo.mono _ _
   | exact spec_l27State.mono _ _
   | exact LeO.none _
   | refine LeO.ite ?_ ?_
   | refine LeO.bind ?_ (fun _ => ?_)
theorem spec_l27Ok.mono : ∀ a0 k, LeO (spec_l27Ok.f k a0) (spec_l27Ok.f (k + 1) a0) := by
 intro a0 k
 have ih0 := spec_l27Ok.mono_l k
 unfold spec_l27Ok.f
 repeat' first
   | (with_reducible exact ih0 _ _)
   | (with_reducible exact spec_l27Memo.mono _ _)
   | (with_reducible exact spec_l27State.mono _ _)
   | (with_reducible exact LeO.refl _)
   | (with_reducible exact LeO.none _)
   | (with_reducible refine LeO.ite ?_ ?_)
   | (with_reducible refine LeO.bind ?_ (fun _ => ?_))
   | exact ih0 _ _
   | exact spec_l27Memo.mono _ _
   | exact spec_l27State.mono _ _
   | exact LeO.none _
   | refine LeO.ite ?_ ?_
   | refine LeO.bind ?_ (fun _ => ?_)
set_option maxHeartbeats 8000000 in
set_option maxRecDepth 100000 in
theorem spec_l27Ok.calls (k : Nat) (A0 : Option Addr) (c0 : Nat) (l0 : List (S48)) (r : Bool) (w : World) (hr0 : Kd.C k48 w A0 l0.length l0) (hc0 : l0.length ≤ c0) (h : spec_l27Ok.f k l0 = some r) :
  Calls Tryd.prog 72 #[.slice A0 l0.length c0] w fun e w' => e = .returned (.bool r) ∧ Below w.heap.size w w' := by
 have hu48 := Tryd.underlying48
 have HR0 := Aside0.mk hr0
 have HC0 := Aside0.mk hc0
 clear hr0 hc0
 have HB := Aside0.mk (Below.refl w.heap.size w)
 have H : (spec_l27Ok.l0 k l0 0) = some r := h
 clear h
 have H' := Aside0.mk H
 clear H
 go_enter Tryd.func72, Tryd.ntmps72
 go_wp2
 go_loopg [3] k (fun kq v3 w' => ∃ (x3_1 : Int), v3 = .int .i64 x3_1 ∧ Aside0 (spec_l27Ok.l0 kq l0 x3_1 = some r) ∧ Aside0 (kq ≤ k) ∧ Aside0 (Below w.heap.size w w'))
 case atStart => exact ⟨(0), rs_, H', ⟨Nat.le_refl _⟩, ⟨bB_⟩⟩
 case round =>
  clear H'
  obtain ⟨x3_1, rfl, HA, HK1, HB⟩ := hrel
  cases gk with
  | zero => exact absurd HA.out (by simp [spec_l27Ok.l0])
  | succ k1 =>
   have H := HA.out
   clear HA
   simp only [spec_l27Ok.l0] at H
   by_cases c2 : x3_1 < (l0.length : Int)
   ·
    rw [if_pos c2] at H
    have c2b0 : decide (x3_1 < (l0.length : Int)) = true := decide_eq_true c2
    clear c2
    by_cases c3 : 0 ≤ x3_1
    ·
     rw [if_pos c3] at H
     have c3b0 : decide (0 ≤ x3_1) = true := decide_eq_true c3
     clear c3
     by_cases c4 : ((rd_T48 l0 x3_1).f0) = (wrap64 (x3_1 + 1))
     ·
      rw [if_pos c4] at H
      have c4b0 : (((rd_T48 l0 x3_1).f0) == (wrap64 (x3_1 + 1))) = true := beq_iff_eq.mpr c4
      have c4b1 : (((rd_T48 l0 x3_1).f0) != (wrap64 (x3_1 + 1))) = false := bne_eq_false_iff_eq.mpr c4
      clear c4
      replace H := Option.bind_eq_some_iff.mp H
      obtain ⟨t376, A50, H⟩ := H
      replace H : (if t376 = true then ((spec_l27Memo.f k1 ((rd_T48 l0 x3_1).f2)).bind fun t377 => (if t377 = true then ((spec_l27State.f k1 ((rd_T48 l0 x3_1).f3)).bind fun t378 => (if t378 = true then (spec_l27Ok.l0 k1 l0 (wrap64 (x3_1 + 1))) else (some false))) else (some false))) else (some false)) = some r := H
      have A5 := Aside0.mk A50
      clear A50
      by_cases c6 : t376 = true
      ·
       subst c6
       have H1 : ((spec_l27Memo.f k1 ((rd_T48 l0 x3_1).f2)).bind fun t377 => (if t377 = true then ((spec_l27State.f k1 ((rd_T48 l0 x3_1).f3)).bind fun t378 => (if t378 = true then (spec_l27Ok.l0 k1 l0 (wrap64 (x3_1 + 1))) else (some false))) else (some false))) = some r := by rw [if_pos rfl] at H; exact H
       clear H
       have H := H1
       clear H1
       replace H := Option.bind_eq_some_iff.mp H
       obtain ⟨t377, A70, H⟩ := H
       replace H : (if t377 = true then ((spec_l27State.f k1 ((rd_T48 l0 x3_1).f3)).bind fun t378 => (if t378 = true then (spec_l27Ok.l0 k1 l0 (wrap64 (x3_1 + 1))) else (some false))) else (some false)) = some r := H
       have A7 := Aside0.mk A70
       clear A70
       by_cases c8 : t377 = true
       ·
        subst c8
        have H1 : ((spec_l27State.f k1 ((rd_T48 l0 x3_1).f3)).bind fun t378 => (if t378 = true then (spec_l27Ok.l0 k1 l0 (wrap64 (x3_1 + 1))) else (some false))) = some r := by rw [if_pos rfl] at H; exact H
        clear H
        have H := H1
        clear H1
        replace H := Option.bind_eq_some_iff.mp H
        obtain ⟨t378, A90, H⟩ := H
        replace H : (if t378 = true then (spec_l27Ok.l0 k1 l0 (wrap64 (x3_1 + 1))) else (some false)) = some r := H
        have A9 := Aside0.mk A90
        clear A90
        by_cases c10 : t378 = true
        ·
         subst c10
         have H1 : (spec_l27Ok.l0 k1 l0 (wrap64 (x3_1 + 1))) = some r := by rw [if_pos rfl] at H; exact H
         clear H
         have H := H1
         clear H1
         have H' := Aside0.mk H
         clear H
         have p374 : 0 ≤ (x3_1 : Int) := of_decide_eq_true as_
         have q374 : x3_1 < (l0.length : Int) := of_decide_eq_true as_
         obtain ⟨ad374, A374_3, c374_3, e374, hx374_0, hx374_1, hx374_2, hx374_3, hl374_3, hi374_3⟩ := at_T48 HR0.out x3_1 p374 q374
         cases e374
         replace hx374_0 := cl_ HB hx374_0
         replace hx374_1 := cl_ HB hx374_1
         replace hx374_2 := cl_ HB hx374_2
         replace hx374_3 := cl_ HB hx374_3
         have HR374_3 := Aside0.mk hi374_3
         have HC374_3 := Aside0.mk hl374_3
         clear hi374_3 hl374_3
         replace p374 := eq_true p374
         replace q374 := eq_true q374
         go_wp2_with (first | ((with_reducible refine gate_dst (N := 4) rfl ?_); refine box_event ?hg (N := 4) ?hd (cs := #[.int .i64 0, .int .i64 0, .string (⟨#[]⟩ : ByteArray), .slice none 0 0]) (t := 48) ?hr ?_; (case hd => rfl); (case hg => rfl); (case hr => first | (go_simp; done) | (go_simp; rfl)); intro gb375 hg w11 hbox hb; have n0_ := Aside0.mk (below_step bB_ hb); have n1_ := Aside0.mk (hbox); have n2_ := Aside0.mk ((by rw [hg]; exact (below_size bB_) : w.heap.size ≤ gb375)); have n3_ := Aside0.mk ((by rw [hg]; exact (below_size bB_) : w.heap.size ≤ gb375)); clear HB; have HB := n0_; have BK375 := n1_; have GW375 := n2_; have GE375 := n3_; clear n0_ n1_ n2_ n3_; clear hb hbox hg; have hcz12_0 : w11.cell? ⟨gb375, 0, none⟩ = some (.int .i64 0) := (blk_cell BK375.out 0).trans rfl; have hcz12_1 : w11.cell? ⟨gb375, 1, none⟩ = some (.int .i64 0) := (blk_cell BK375.out 1).trans rfl; have hcz12_2 : w11.cell? ⟨gb375, 2, none⟩ = some (.string (⟨#[]⟩ : ByteArray)) := (blk_cell BK375.out 2).trans rfl; have hcz12_3 : w11.cell? ⟨gb375, 3, none⟩ = some (.slice none 0 0) := (blk_cell BK375.out 3).trans rfl; have hfz12_0 := blk_frozen BK375.out 0; have hfz12_1 := blk_frozen BK375.out 1; have hfz12_2 := blk_frozen BK375.out 2; have hfz12_3 := blk_frozen BK375.out 3) | (go_at_call 122; (with_reducible refine (spec_l00In.calls ((rd_T48 l0 x3_1).f1) 0 x3_1 true _ A5.out).mono ?_); rintro e w' ⟨rfl, ⟨nd, rfl⟩⟩) | (go_at_call 123; (with_reducible refine (spec_l27Memo.calls k1 ((rd_T48 l0 x3_1).f2) true _ A7.out).mono ?_); rintro e w' ⟨rfl, ⟨nd, rfl⟩⟩) | (go_at_call 124; (with_reducible refine (spec_l27State.calls k1 _ _ ((rd_T48 l0 x3_1).f3) true _ ?side1 ?side2 A9.out).mono ?_); (case side1 => exact Kd.C_below HR374_3.out (bC_ GE375.out)); (case side2 => exact HC374_3.out); rintro e w' ⟨rfl, ⟨nd, rfl⟩⟩))
         go_roundg k1
         case measure => have := HK1.out; omega
         case rel => exact ⟨(wrap64 (x3_1 + 1)), rs_, H', ⟨by have := HK1.out; omega⟩, ⟨bC_ GE375.out⟩⟩
        ·
         replace c10 := Bool.eq_false_iff.mpr c10
         subst c10
         have H1 : (some false) = some r := by rw [if_neg (show ¬ (false = true) by decide)] at H; exact H
         clear H
         have H := H1
         clear H1
         obtain rfl := Option.some.inj H
         have p374 : 0 ≤ (x3_1 : Int) := of_decide_eq_true as_
         have q374 : x3_1 < (l0.length : Int) := of_decide_eq_true as_
         obtain ⟨ad374, A374_3, c374_3, e374, hx374_0, hx374_1, hx374_2, hx374_3, hl374_3, hi374_3⟩ := at_T48 HR0.out x3_1 p374 q374
         cases e374
         replace hx374_0 := cl_ HB hx374_0
         replace hx374_1 := cl_ HB hx374_1
         replace hx374_2 := cl_ HB hx374_2
         replace hx374_3 := cl_ HB hx374_3
         have HR374_3 := Aside0.mk hi374_3
         have HC374_3 := Aside0.mk hl374_3
         clear hi374_3 hl374_3
         replace p374 := eq_true p374
         replace q374 := eq_true q374
         go_wp2_with (first | ((with_reducible refine gate_dst (N := 4) rfl ?_); refine box_event ?hg (N := 4) ?hd (cs := #[.int .i64 0, .int .i64 0, .string (⟨#[]⟩ : ByteArray), .slice none 0 0]) (t := 48) ?hr ?_; (case hd => rfl); (case hg => rfl); (case hr => first | (go_simp; done) | (go_simp; rfl)); intro gb375 hg w13 hbox hb; have n0_ := Aside0.mk (below_step bB_ hb); have n1_ := Aside0.mk (hbox); have n2_ := Aside0.mk ((by rw [hg]; exact (below_size bB_) : w.heap.size ≤ gb375)); have n3_ := Aside0.mk ((by rw [hg]; exact (below_size bB_) : w.heap.size ≤ gb375)); clear HB; have HB := n0_; have BK375 := n1_; have GW375 := n2_; have GE375 := n3_; clear n0_ n1_ n2_ n3_; clear hb hbox hg; have hcz14_0 : w13.cell? ⟨gb375, 0, none⟩ = some (.int .i64 0) := (blk_cell BK375.out 0).trans rfl; have hcz14_1 : w13.cell? ⟨gb375, 1, none⟩ = some (.int .i64 0) := (blk_cell BK375.out 1).trans rfl; have hcz14_2 : w13.cell? ⟨gb375, 2, none⟩ = some (.string (⟨#[]⟩ : ByteArray)) := (blk_cell BK375.out 2).trans rfl; have hcz14_3 : w13.cell? ⟨gb375, 3, none⟩ = some (.slice none 0 0) := (blk_cell BK375.out 3).trans rfl; have hfz14_0 := blk_frozen BK375.out 0; have hfz14_1 := blk_frozen BK375.out 1; have hfz14_2 := blk_frozen BK375.out 2; have hfz14_3 := blk_frozen BK375.out 3) | (go_at_call 122; (with_reducible refine (spec_l00In.calls ((rd_T48 l0 x3_1).f1) 0 x3_1 true _ A5.out).mono ?_); rintro e w' ⟨rfl, ⟨nd, rfl⟩⟩) | (go_at_call 123; (with_reducible refine (spec_l27Memo.calls k1 ((rd_T48 l0 x3_1).f2) true _ A7.out).mono ?_); rintro e w' ⟨rfl, ⟨nd, rfl⟩⟩) | (go_at_call 124; (with_reducible refine (spec_l27State.calls k1 _ _ ((rd_T48 l0 x3_1).f3) false _ ?side1 ?side2 A9.out).mono ?_); (case side1 => exact Kd.C_below HR374_3.out (bC_ GE375.out)); (case side2 => exact HC374_3.out); rintro e w' ⟨rfl, ⟨nd, rfl⟩⟩))
         go_ret
         exact ⟨er_, bC_ GE375.out⟩
       ·
        replace c8 := Bool.eq_false_iff.mpr c8
        subst c8
        have H1 : (some false) = some r := by rw [if_neg (show ¬ (false = true) by decide)] at H; exact H
        clear H
        have H := H1
        clear H1
        obtain rfl := Option.some.inj H
        have p374 : 0 ≤ (x3_1 : Int) := of_decide_eq_true as_
        have q374 : x3_1 < (l0.length : Int) := of_decide_eq_true as_
        obtain ⟨ad374, A374_3, c374_3, e374, hx374_0, hx374_1, hx374_2, hx374_3, hl374_3, hi374_3⟩ := at_T48 HR0.out x3_1 p374 q374
        cases e374
        replace hx374_0 := cl_ HB hx374_0
        replace hx374_1 := cl_ HB hx374_1
        replace hx374_2 := cl_ HB hx374_2
        replace hx374_3 := cl_ HB hx374_3
        have HR374_3 := Aside0.mk hi374_3
        have HC374_3 := Aside0.mk hl374_3
        clear hi374_3 hl374_3
        replace p374 := eq_true p374
        replace q374 := eq_true q374
        go_wp2_with (first | ((with_reducible refine gate_dst (N := 4) rfl ?_); refine box_event ?hg (N := 4) ?hd (cs := #[.int .i64 0, .int .i64 0, .string (⟨#[]⟩ : ByteArray), .slice none 0 0]) (t := 48) ?hr ?_; (case hd => rfl); (case hg => rfl); (case hr => first | (go_simp; done) | (go_simp; rfl)); intro gb375 hg w15 hbox hb; have n0_ := Aside0.mk (below_step bB_ hb); have n1_ := Aside0.mk (hbox); have n2_ := Aside0.mk ((by rw [hg]; exact (below_size bB_) : w.heap.size ≤ gb375)); have n3_ := Aside0.mk ((by rw [hg]; exact (below_size bB_) : w.heap.size ≤ gb375)); clear HB; have HB := n0_; have BK375 := n1_; have GW375 := n2_; have GE375 := n3_; clear n0_ n1_ n2_ n3_; clear hb hbox hg; have hcz16_0 : w15.cell? ⟨gb375, 0, none⟩ = some (.int .i64 0) := (blk_cell BK375.out 0).trans rfl; have hcz16_1 : w15.cell? ⟨gb375, 1, none⟩ = some (.int .i64 0) := (blk_cell BK375.out 1).trans rfl; have hcz16_2 : w15.cell? ⟨gb375, 2, none⟩ = some (.string (⟨#[]⟩ : ByteArray)) := (blk_cell BK375.out 2).trans rfl; have hcz16_3 : w15.cell? ⟨gb375, 3, none⟩ = some (.slice none 0 0) := (blk_cell BK375.out 3).trans rfl; have hfz16_0 := blk_frozen BK375.out 0; have hfz16_1 := blk_frozen BK375.out 1; have hfz16_2 := blk_frozen BK375.out 2; have hfz16_3 := blk_frozen BK375.out 3) | (go_at_call 122; (with_reducible refine (spec_l00In.calls ((rd_T48 l0 x3_1).f1) 0 x3_1 true _ A5.out).mono ?_); rintro e w' ⟨rfl, ⟨nd, rfl⟩⟩) | (go_at_call 123; (with_reducible refine (spec_l27Memo.calls k1 ((rd_T48 l0 x3_1).f2) false _ A7.out).mono ?_); rintro e w' ⟨rfl, ⟨nd, rfl⟩⟩))
        go_ret
        exact ⟨er_, bC_ GE375.out⟩
      ·
       replace c6 := Bool.eq_false_iff.mpr c6
       subst c6
       have H1 : (some false) = some r := by rw [if_neg (show ¬ (false = true) by decide)] at H; exact H
       clear H
       have H := H1
       clear H1
       obtain rfl := Option.some.inj H
       have p374 : 0 ≤ (x3_1 : Int) := of_decide_eq_true as_
       have q374 : x3_1 < (l0.length : Int) := of_decide_eq_true as_
       obtain ⟨ad374, A374_3, c374_3, e374, hx374_0, hx374_1, hx374_2, hx374_3, hl374_3, hi374_3⟩ := at_T48 HR0.out x3_1 p374 q374
       cases e374
       replace hx374_0 := cl_ HB hx374_0
       replace hx374_1 := cl_ HB hx374_1
       replace hx374_2 := cl_ HB hx374_2
       replace hx374_3 := cl_ HB hx374_3
       have HR374_3 := Aside0.mk hi374_3
       have HC374_3 := Aside0.mk hl374_3
       clear hi374_3 hl374_3
       replace p374 := eq_true p374
       replace q374 := eq_true q374
       go_wp2_with (first | ((with_reducible refine gate_dst (N := 4) rfl ?_); refine box_event ?hg (N := 4) ?hd (cs := #[.int .i64 0, .int .i64 0, .string (⟨#[]⟩ : ByteArray), .slice none 0 0]) (t := 48) ?hr ?_; (case hd => rfl); (case hg => rfl); (case hr => first | (go_simp; done) | (go_simp; rfl)); intro gb375 hg w17 hbox hb; have n0_ := Aside0.mk (below_step bB_ hb); have n1_ := Aside0.mk (hbox); have n2_ := Aside0.mk ((by rw [hg]; exact (below_size bB_) : w.heap.size ≤ gb375)); have n3_ := Aside0.mk ((by rw [hg]; exact (below_size bB_) : w.heap.size ≤ gb375)); clear HB; have HB := n0_; have BK375 := n1_; have GW375 := n2_; have GE375 := n3_; clear n0_ n1_ n2_ n3_; clear hb hbox hg; have hcz18_0 : w17.cell? ⟨gb375, 0, none⟩ = some (.int .i64 0) := (blk_cell BK375.out 0).trans rfl; have hcz18_1 : w17.cell? ⟨gb375, 1, none⟩ = some (.int .i64 0) := (blk_cell BK375.out 1).trans rfl; have hcz18_2 : w17.cell? ⟨gb375, 2, none⟩ = some (.string (⟨#[]⟩ : ByteArray)) := (blk_cell BK375.out 2).trans rfl; have hcz18_3 : w17.cell? ⟨gb375, 3, none⟩ = some (.slice none 0 0) := (blk_cell BK375.out 3).trans rfl; have hfz18_0 := blk_frozen BK375.out 0; have hfz18_1 := blk_frozen BK375.out 1; have hfz18_2 := blk_frozen BK375.out 2; have hfz18_3 := blk_frozen BK375.out 3) | (go_at_call 122; (with_reducible refine (spec_l00In.calls ((rd_T48 l0 x3_1).f1) 0 x3_1 false _ A5.out).mono ?_); rintro e w' ⟨rfl, ⟨nd, rfl⟩⟩))
       go_ret
       exact ⟨er_, bC_ GE375.out⟩
     ·
      rw [if_neg c4] at H
      have c4b0 : (((rd_T48 l0 x3_1).f0) == (wrap64 (x3_1 + 1))) = false := beq_eq_false_iff_ne.mpr c4
      have c4b1 : (((rd_T48 l0 x3_1).f0) != (wrap64 (x3_1 + 1))) = true := bne_iff_ne.mpr c4
      obtain rfl := Option.some.inj H
      have p374 : 0 ≤ (x3_1 : Int) := of_decide_eq_true as_
      have q374 : x3_1 < (l0.length : Int) := of_decide_eq_true as_
      obtain ⟨ad374, A374_3, c374_3, e374, hx374_0, hx374_1, hx374_2, hx374_3, hl374_3, hi374_3⟩ := at_T48 HR0.out x3_1 p374 q374
      cases e374
      replace hx374_0 := cl_ HB hx374_0
      replace hx374_1 := cl_ HB hx374_1
      replace hx374_2 := cl_ HB hx374_2
      replace hx374_3 := cl_ HB hx374_3
      have HR374_3 := Aside0.mk hi374_3
      have HC374_3 := Aside0.mk hl374_3
      clear hi374_3 hl374_3
      replace p374 := eq_true p374
      replace q374 := eq_true q374
      go_wp2_with (first | ((with_reducible refine gate_dst (N := 4) rfl ?_); refine box_event ?hg (N := 4) ?hd (cs := #[.int .i64 0, .int .i64 0, .string (⟨#[]⟩ : ByteArray), .slice none 0 0]) (t := 48) ?hr ?_; (case hd => rfl); (case hg => rfl); (case hr => first | (go_simp; done) | (go_simp; rfl)); intro gb375 hg w19 hbox hb; have n0_ := Aside0.mk (below_step bB_ hb); have n1_ := Aside0.mk (hbox); have n2_ := Aside0.mk ((by rw [hg]; exact (below_size bB_) : w.heap.size ≤ gb375)); have n3_ := Aside0.mk ((by rw [hg]; exact (below_size bB_) : w.heap.size ≤ gb375)); clear HB; have HB := n0_; have BK375 := n1_; have GW375 := n2_; have GE375 := n3_; clear n0_ n1_ n2_ n3_; clear hb hbox hg; have hcz20_0 : w19.cell? ⟨gb375, 0, none⟩ = some (.int .i64 0) := (blk_cell BK375.out 0).trans rfl; have hcz20_1 : w19.cell? ⟨gb375, 1, none⟩ = some (.int .i64 0) := (blk_cell BK375.out 1).trans rfl; have hcz20_2 : w19.cell? ⟨gb375, 2, none⟩ = some (.string (⟨#[]⟩ : ByteArray)) := (blk_cell BK375.out 2).trans rfl; have hcz20_3 : w19.cell? ⟨gb375, 3, none⟩ = some (.slice none 0 0) := (blk_cell BK375.out 3).trans rfl; have hfz20_0 := blk_frozen BK375.out 0; have hfz20_1 := blk_frozen BK375.out 1; have hfz20_2 := blk_frozen BK375.out 2; have hfz20_3 := blk_frozen BK375.out 3))
      go_ret
      exact ⟨er_, bC_ GE375.out⟩
    ·
     rw [if_neg c3] at H
     exact absurd H (by simp)
   ·
    rw [if_neg c2] at H
    have c2b0 : decide (x3_1 < (l0.length : Int)) = false := decide_eq_false c2
    clear c2
    obtain rfl := Option.some.inj H
    go_wp2
    go_ret
    exact ⟨er_, bB_⟩

/-! ### spec_ValidHistory: function 21 -/
def spec_ValidHistory.f (k : Nat) (l0 : List (S48)) : Option (Bool) := (spec_l27Ok.f k l0).bind fun t379 => (some t379)
theorem spec_ValidHistory.mono : ∀ a0 k, LeO (spec_ValidHistory.f k a0) (spec_ValidHistory.f (k + 1) a0) := by
 intro a0 k
 unfold spec_ValidHistory.f
 repeat' first
   | (with_reducible exact spec_l27Ok.mono _ _)
   | (with_reducible exact LeO.refl _)
   | (with_reducible exact LeO.none _)
   | (with_reducible refine LeO.ite ?_ ?_)
   | (with_reducible refine LeO.bind ?_ (fun _ => ?_))
   | exact spec_l27Ok.mono _ _
   | exact LeO.none _
   | refine LeO.ite ?_ ?_
   | refine LeO.bind ?_ (fun _ => ?_)
set_option maxHeartbeats 8000000 in
set_option maxRecDepth 100000 in
theorem spec_ValidHistory.calls (k : Nat) (A0 : Option Addr) (c0 : Nat) (l0 : List (S48)) (r : Bool) (w : World) (hr0 : Kd.C k48 w A0 l0.length l0) (hc0 : l0.length ≤ c0) (h : spec_ValidHistory.f k l0 = some r) :
  Calls Tryd.prog 21 #[.slice A0 l0.length c0] w fun e w' => e = .returned (.bool r) ∧ Below w.heap.size w w' := by
 have HR0 := Aside0.mk hr0
 have HC0 := Aside0.mk hc0
 clear hr0 hc0
 have HB := Aside0.mk (Below.refl w.heap.size w)
 have H : ((spec_l27Ok.f k l0).bind fun t379 => (some t379)) = some r := h
 clear h
 replace H := Option.bind_eq_some_iff.mp H
 obtain ⟨t379, A20, H⟩ := H
 replace H : (some t379) = some r := H
 have A2 := Aside0.mk A20
 clear A20
 obtain rfl := Option.some.inj H
 go_enter Tryd.func21, Tryd.ntmps21
 go_wp2_with (first | ((with_reducible refine gate_callee (f := 72) rfl ?_); refine goesL_ (some 4) rfl rfl Tryd.func72 (by kernel_rfl) rfl #[.slice A0 l0.length c0] rfl mT_ ?_; (with_reducible refine (spec_l27Ok.calls k _ _ l0 t379 _ ?side1 ?side2 A2.out).mono ?_); (case side1 => exact cA_ HR0.out); (case side2 => exact HC0.out); rintro e w3 ⟨rfl, hb⟩; refine ⟨_, rfl, ?_⟩; have n0_ := Aside0.mk (below_step bB_ hb); clear HB; have HB := n0_; clear n0_; (try clear hb); (try clear hb2); (try clear hk); (try clear hi)))
 go_ret
 exact ⟨er_, bB_⟩

end Go.Proofs.YtgkmfgkkmahmoaaDoor.PFnVersions
