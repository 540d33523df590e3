-- PRINTED by print.py (a twelfth state) out of the translation. Not trusted: Lean checks it.
import Derived.Test.YtdbocilpcknlhaaDoorPFnExactBuildingTextx0
import Derived.Test.YtdbocilpcknlhaaDoorPFnExactBuildingTextx1
namespace Go.Proofs.YtdbocilpcknlhaaDoor.PFnExactBuildingText
open Go.RowKit Go.Proofs.YtdbocilpcknlhaaDoorW.PrintWords Go.Proofs.YtdbocilpcknlhaaDoorW.PrintLast Go.Proofs.YtdbocilpcknlhaaDoorW.PrintMore
attribute [local go_sem] max2_int min2_int max_two min_two max_three min_three max_four min_four   -- for this text's walks alone
set_option linter.unusedVariables false
set_option linter.unusedSimpArgs false

/-! ### spec_l05One: function 63 -/
mutual
def spec_l05One.j0 : Nat → List (S33) → Bool → Option (Bool)
 | 0, _, _ => none
 | k + 1, x0, x49 => if x49 = true then (some false) else (spec_l05One.l0 k x0 0)
def spec_l05One.l0 : Nat → List (S33) → Int → Option (Bool)
 | 0, _, _ => none
 | k + 1, x0, x3 => if 0 < (x0.length : Int) then (if x3 < (((rd_T33 x0 0).f5).length : Int) then (if 0 ≤ x3 then ((spec_l00In.f (rd ((rd_T33 x0 0).f5) x3) 0 3000).bind fun t121 => (if t121 = true then (spec_l05One.l0 k x0 (wrap64 (x3 + 1))) else (some false))) else (none)) else (some true)) else (none)
end
def spec_l05One.f (k : Nat) (l0 : List (S33)) : Option (Bool) := if 0 < (l0.length : Int) then ((spec_l01Name.f k ((rd_T33 l0 0).f0)).bind fun t108 => (if t108 = true then ((spec_l00In.f ((rd_T33 l0 0).f1) 0 15).bind fun t110 => (if t110 = true then ((spec_l00In.f ((rd_T33 l0 0).f2) 0 1000000).bind fun t112 => (if t112 = true then ((spec_l00In.f ((rd_T33 l0 0).f3) 0 100000).bind fun t114 => (if t114 = true then ((spec_l05Outdoor.f ((rd_T33 l0 0).f4)).bind fun t116 => (if t116 = true then (spec_l05One.j0 k l0 ((((rd_T33 l0 0).f5).length : Int) != 24)) else (spec_l05One.j0 k l0 true))) else (spec_l05One.j0 k l0 true))) else (spec_l05One.j0 k l0 true))) else (spec_l05One.j0 k l0 true))) else (spec_l05One.j0 k l0 true))) else (none)
theorem spec_l05One.mono_l : ∀ k, (∀ y0 y1, LeO (spec_l05One.j0 k y0 y1) (spec_l05One.j0 (k + 1) y0 y1)) ∧ (∀ y0 y1, LeO (spec_l05One.l0 k y0 y1) (spec_l05One.l0 (k + 1) y0 y1))
 | 0 => ⟨fun _ _ r h => by simp [spec_l05One.j0] at h, fun _ _ r h => by simp [spec_l05One.l0] at h⟩
 | k + 1 => by
  obtain ⟨ih0, ih1⟩ := spec_l05One.mono_l k
  refine ⟨?_, ?_⟩
  ·
   intro y0 y1
   unfold spec_l05One.j0
   repeat' first
   | (with_reducible exact ih0 _ _)
   | (with_reducible exact ih1 _ _)
   | (with_reducible exact spec_l01Name.mono _ _)
   | (with_reducible exact LeO.refl _)
   | (with_reducible exact LeO.none _)
   | (with_reducible refine LeO.ite ?_ ?_)
   | (with_reducible refine LeO.bind ?_ (fun _ => ?_))
   | exact ih0 _ _
   | exact ih1 _ _
   | exact spec_l01Name.mono _ _
   | exact LeO.none _
   | refine LeO.ite ?_ ?_
   | refine LeO.bind ?_ (fun _ => ?_)
  ·
   intro y0 y1
   unfold spec_l05One.l0
   repeat' first
   | (with_reducible exact ih0 _ _)
   | (with_reducible exact ih1 _ _)
   | (with_reducible exact spec_l01Name.mono _ _)
   | (with_reducible exact LeO.refl _)
   | (with_reducible exact LeO.none _)
   | (with_reducible refine LeO.ite ?_ ?_)
   | (with_reducible refine LeO.bind ?_ (fun _ => ?_))
   | exact ih0 _ _
   | exact ih1 _ _
   | exact spec_l01Name.mono _ _
   | exact LeO.none _
   | refine LeO.ite ?_ ?_
   | refine LeO.bind ?_ (fun _ => ?_)
theorem spec_l05One.mono : ∀ a0 k, LeO (spec_l05One.f k a0) (spec_l05One.f (k + 1) a0) := by
 intro a0 k
 obtain ⟨ih0, ih1⟩ := spec_l05One.mono_l k
 unfold spec_l05One.f
 repeat' first
   | (with_reducible exact ih0 _ _)
   | (with_reducible exact ih1 _ _)
   | (with_reducible exact spec_l01Name.mono _ _)
   | (with_reducible exact LeO.refl _)
   | (with_reducible exact LeO.none _)
   | (with_reducible refine LeO.ite ?_ ?_)
   | (with_reducible refine LeO.bind ?_ (fun _ => ?_))
   | exact ih0 _ _
   | exact ih1 _ _
   | exact spec_l01Name.mono _ _
   | exact LeO.none _
   | refine LeO.ite ?_ ?_
   | refine LeO.bind ?_ (fun _ => ?_)
set_option maxHeartbeats 8000000 in
set_option maxRecDepth 100000 in
theorem spec_l05One.calls (k : Nat) (A0 : Option Addr) (c0 : Nat) (l0 : List (S33)) (r : Bool) (w : World) (hr0 : Kd.C k33 w A0 l0.length l0) (hc0 : l0.length ≤ c0) (h : spec_l05One.f k l0 = some r) :
  Calls Tryd.prog 63 #[.pointer A0] w fun e w' => e = .returned (.bool r) ∧ Drawn0 w w' := by
 have HR0 := Aside0.mk hr0
 have HC0 := Aside0.mk hc0
 clear hr0 hc0
 have H : (if 0 < (l0.length : Int) then ((spec_l01Name.f k ((rd_T33 l0 0).f0)).bind fun t108 => (if t108 = true then ((spec_l00In.f ((rd_T33 l0 0).f1) 0 15).bind fun t110 => (if t110 = true then ((spec_l00In.f ((rd_T33 l0 0).f2) 0 1000000).bind fun t112 => (if t112 = true then ((spec_l00In.f ((rd_T33 l0 0).f3) 0 100000).bind fun t114 => (if t114 = true then ((spec_l05Outdoor.f ((rd_T33 l0 0).f4)).bind fun t116 => (if t116 = true then (spec_l05One.j0 k l0 ((((rd_T33 l0 0).f5).length : Int) != 24)) else (spec_l05One.j0 k l0 true))) else (spec_l05One.j0 k l0 true))) else (spec_l05One.j0 k l0 true))) else (spec_l05One.j0 k l0 true))) else (spec_l05One.j0 k l0 true))) else (none)) = some r := h
 clear h
 have HC2 := Aside0.mk H
 clear H
 go_enter Tryd.func63, Tryd.ntmps63
 go_upto_region 1 with (fail)
 go_cut [49] (fun v49 wc => ∃ (kq : Nat) (x49_1 : Bool), v49 = .bool x49_1 ∧ Aside0 (spec_l05One.j0 kq l0 x49_1 = some r) ∧ Aside0 (kq ≤ k) ∧ Drawn0 w wc)
 case first =>
  have H := HC2.out
  clear HC2
  by_cases c3 : 0 < (l0.length : Int)
  ·
   rw [if_pos c3] at H
   have c3b0 : decide (0 < (l0.length : Int)) = true := decide_eq_true c3
   have c3b1 : decide (0 < l0.length) = true := decide_eq_true (by omega)
   clear c3
   (first | rw [c3b0] | (simp only [i64_w, i32_w]; rw [c3b0]) | skip)
   replace H := Option.bind_eq_some_iff.mp H
   obtain ⟨t108, A40, H⟩ := H
   replace H : (if t108 = true then ((spec_l00In.f ((rd_T33 l0 0).f1) 0 15).bind fun t110 => (if t110 = true then ((spec_l00In.f ((rd_T33 l0 0).f2) 0 1000000).bind fun t112 => (if t112 = true then ((spec_l00In.f ((rd_T33 l0 0).f3) 0 100000).bind fun t114 => (if t114 = true then ((spec_l05Outdoor.f ((rd_T33 l0 0).f4)).bind fun t116 => (if t116 = true then (spec_l05One.j0 k l0 ((((rd_T33 l0 0).f5).length : Int) != 24)) else (spec_l05One.j0 k l0 true))) else (spec_l05One.j0 k l0 true))) else (spec_l05One.j0 k l0 true))) else (spec_l05One.j0 k l0 true))) else (spec_l05One.j0 k l0 true)) = some r := H
   have A4 := Aside0.mk A40
   clear A40
   by_cases c5 : t108 = true
   ·
    subst c5
    have H1 : ((spec_l00In.f ((rd_T33 l0 0).f1) 0 15).bind fun t110 => (if t110 = true then ((spec_l00In.f ((rd_T33 l0 0).f2) 0 1000000).bind fun t112 => (if t112 = true then ((spec_l00In.f ((rd_T33 l0 0).f3) 0 100000).bind fun t114 => (if t114 = true then ((spec_l05Outdoor.f ((rd_T33 l0 0).f4)).bind fun t116 => (if t116 = true then (spec_l05One.j0 k l0 ((((rd_T33 l0 0).f5).length : Int) != 24)) else (spec_l05One.j0 k l0 true))) else (spec_l05One.j0 k l0 true))) else (spec_l05One.j0 k l0 true))) else (spec_l05One.j0 k l0 true))) = some r := by rw [if_pos rfl] at H; exact H
    clear H
    have H := H1
    clear H1
    replace H := Option.bind_eq_some_iff.mp H
    obtain ⟨t110, A60, H⟩ := H
    replace H : (if t110 = true then ((spec_l00In.f ((rd_T33 l0 0).f2) 0 1000000).bind fun t112 => (if t112 = true then ((spec_l00In.f ((rd_T33 l0 0).f3) 0 100000).bind fun t114 => (if t114 = true then ((spec_l05Outdoor.f ((rd_T33 l0 0).f4)).bind fun t116 => (if t116 = true then (spec_l05One.j0 k l0 ((((rd_T33 l0 0).f5).length : Int) != 24)) else (spec_l05One.j0 k l0 true))) else (spec_l05One.j0 k l0 true))) else (spec_l05One.j0 k l0 true))) else (spec_l05One.j0 k l0 true)) = some r := H
    have A6 := Aside0.mk A60
    clear A60
    by_cases c7 : t110 = true
    ·
     subst c7
     have H1 : ((spec_l00In.f ((rd_T33 l0 0).f2) 0 1000000).bind fun t112 => (if t112 = true then ((spec_l00In.f ((rd_T33 l0 0).f3) 0 100000).bind fun t114 => (if t114 = true then ((spec_l05Outdoor.f ((rd_T33 l0 0).f4)).bind fun t116 => (if t116 = true then (spec_l05One.j0 k l0 ((((rd_T33 l0 0).f5).length : Int) != 24)) else (spec_l05One.j0 k l0 true))) else (spec_l05One.j0 k l0 true))) else (spec_l05One.j0 k l0 true))) = some r := by rw [if_pos rfl] at H; exact H
     clear H
     have H := H1
     clear H1
     replace H := Option.bind_eq_some_iff.mp H
     obtain ⟨t112, A80, H⟩ := H
     replace H : (if t112 = true then ((spec_l00In.f ((rd_T33 l0 0).f3) 0 100000).bind fun t114 => (if t114 = true then ((spec_l05Outdoor.f ((rd_T33 l0 0).f4)).bind fun t116 => (if t116 = true then (spec_l05One.j0 k l0 ((((rd_T33 l0 0).f5).length : Int) != 24)) else (spec_l05One.j0 k l0 true))) else (spec_l05One.j0 k l0 true))) else (spec_l05One.j0 k l0 true)) = some r := H
     have A8 := Aside0.mk A80
     clear A80
     by_cases c9 : t112 = true
     ·
      subst c9
      have H1 : ((spec_l00In.f ((rd_T33 l0 0).f3) 0 100000).bind fun t114 => (if t114 = true then ((spec_l05Outdoor.f ((rd_T33 l0 0).f4)).bind fun t116 => (if t116 = true then (spec_l05One.j0 k l0 ((((rd_T33 l0 0).f5).length : Int) != 24)) else (spec_l05One.j0 k l0 true))) else (spec_l05One.j0 k l0 true))) = some r := by rw [if_pos rfl] at H; exact H
      clear H
      have H := H1
      clear H1
      replace H := Option.bind_eq_some_iff.mp H
      obtain ⟨t114, A100, H⟩ := H
      replace H : (if t114 = true then ((spec_l05Outdoor.f ((rd_T33 l0 0).f4)).bind fun t116 => (if t116 = true then (spec_l05One.j0 k l0 ((((rd_T33 l0 0).f5).length : Int) != 24)) else (spec_l05One.j0 k l0 true))) else (spec_l05One.j0 k l0 true)) = some r := H
      have A10 := Aside0.mk A100
      clear A100
      by_cases c11 : t114 = true
      ·
       subst c11
       have H1 : ((spec_l05Outdoor.f ((rd_T33 l0 0).f4)).bind fun t116 => (if t116 = true then (spec_l05One.j0 k l0 ((((rd_T33 l0 0).f5).length : Int) != 24)) else (spec_l05One.j0 k l0 true))) = some r := by rw [if_pos rfl] at H; exact H
       clear H
       have H := H1
       clear H1
       replace H := Option.bind_eq_some_iff.mp H
       obtain ⟨t116, A120, H⟩ := H
       replace H : (if t116 = true then (spec_l05One.j0 k l0 ((((rd_T33 l0 0).f5).length : Int) != 24)) else (spec_l05One.j0 k l0 true)) = some r := H
       have A12 := Aside0.mk A120
       clear A120
       by_cases c13 : t116 = true
       ·
        subst c13
        have H1 : (spec_l05One.j0 k l0 ((((rd_T33 l0 0).f5).length : Int) != 24)) = some r := by rw [if_pos rfl] at H; exact H
        clear H
        have H := H1
        clear H1
        have H' := Aside0.mk H
        clear H
        have p107 : 0 ≤ (0 : Int) := (by omega)
        have q107 : 0 < (l0.length : Int) := of_decide_eq_true (by first | (with_reducible assumption) | assumption)
        obtain ⟨ad107, A107_5, c107_5, e107, hx107_0, hx107_1, hx107_2, hx107_3, hx107_4, hx107_5, hl107_5, hi107_5⟩ := at_T33 HR0.out 0 p107 q107
        cases e107
        have qi107 : (0 < l0.length) = True := eq_true (by omega)
        (try rw [show ((0 : Int)).toNat = 0 from rfl] at hx107_0)
        (try rw [show 0 * 6 = 0 from rfl] at hx107_0)
        (try rw [Addr.add_zero'] at hx107_0)
        (try rw [show ((0 : Int)).toNat = 0 from rfl] at hx107_1)
        (try rw [show 0 * 6 = 0 from rfl] at hx107_1)
        (try rw [Addr.add_zero'] at hx107_1)
        (try rw [show ((0 : Int)).toNat = 0 from rfl] at hx107_2)
        (try rw [show 0 * 6 = 0 from rfl] at hx107_2)
        (try rw [Addr.add_zero'] at hx107_2)
        (try rw [show ((0 : Int)).toNat = 0 from rfl] at hx107_3)
        (try rw [show 0 * 6 = 0 from rfl] at hx107_3)
        (try rw [Addr.add_zero'] at hx107_3)
        (try rw [show ((0 : Int)).toNat = 0 from rfl] at hx107_4)
        (try rw [show 0 * 6 = 0 from rfl] at hx107_4)
        (try rw [Addr.add_zero'] at hx107_4)
        (try rw [show ((0 : Int)).toNat = 0 from rfl] at hx107_5)
        (try rw [show 0 * 6 = 0 from rfl] at hx107_5)
        (try rw [Addr.add_zero'] at hx107_5)
        have HR107_5 := Aside0.mk hi107_5
        have HC107_5 := Aside0.mk hl107_5
        clear hi107_5 hl107_5
        replace p107 := eq_true p107
        replace q107 := eq_true q107
        have p109 : 0 ≤ (0 : Int) := (by omega)
        have q109 : 0 < (l0.length : Int) := of_decide_eq_true (by first | (with_reducible assumption) | assumption)
        obtain ⟨ad109, A109_5, c109_5, e109, hx109_0, hx109_1, hx109_2, hx109_3, hx109_4, hx109_5, hl109_5, hi109_5⟩ := at_T33 HR0.out 0 p109 q109
        obtain rfl : ad107 = ad109 := (by injection e109)
        have qi109 : (0 < l0.length) = True := eq_true (by omega)
        (try rw [show ((0 : Int)).toNat = 0 from rfl] at hx109_0)
        (try rw [show 0 * 6 = 0 from rfl] at hx109_0)
        (try rw [Addr.add_zero'] at hx109_0)
        (try rw [show ((0 : Int)).toNat = 0 from rfl] at hx109_1)
        (try rw [show 0 * 6 = 0 from rfl] at hx109_1)
        (try rw [Addr.add_zero'] at hx109_1)
        (try rw [show ((0 : Int)).toNat = 0 from rfl] at hx109_2)
        (try rw [show 0 * 6 = 0 from rfl] at hx109_2)
        (try rw [Addr.add_zero'] at hx109_2)
        (try rw [show ((0 : Int)).toNat = 0 from rfl] at hx109_3)
        (try rw [show 0 * 6 = 0 from rfl] at hx109_3)
        (try rw [Addr.add_zero'] at hx109_3)
        (try rw [show ((0 : Int)).toNat = 0 from rfl] at hx109_4)
        (try rw [show 0 * 6 = 0 from rfl] at hx109_4)
        (try rw [Addr.add_zero'] at hx109_4)
        (try rw [show ((0 : Int)).toNat = 0 from rfl] at hx109_5)
        (try rw [show 0 * 6 = 0 from rfl] at hx109_5)
        (try rw [Addr.add_zero'] at hx109_5)
        have HR109_5 := Aside0.mk hi109_5
        have HC109_5 := Aside0.mk hl109_5
        clear hi109_5 hl109_5
        replace p109 := eq_true p109
        replace q109 := eq_true q109
        have ea_ := Option.some.inj (hx107_5.symm.trans hx109_5)
        injection ea_ with ea_ en_ ec_
        (try subst ea_)
        (try subst ec_)
        clear en_
        have p111 : 0 ≤ (0 : Int) := (by omega)
        have q111 : 0 < (l0.length : Int) := of_decide_eq_true (by first | (with_reducible assumption) | assumption)
        obtain ⟨ad111, A111_5, c111_5, e111, hx111_0, hx111_1, hx111_2, hx111_3, hx111_4, hx111_5, hl111_5, hi111_5⟩ := at_T33 HR0.out 0 p111 q111
        obtain rfl : ad107 = ad111 := (by injection e111)
        have qi111 : (0 < l0.length) = True := eq_true (by omega)
        (try rw [show ((0 : Int)).toNat = 0 from rfl] at hx111_0)
        (try rw [show 0 * 6 = 0 from rfl] at hx111_0)
        (try rw [Addr.add_zero'] at hx111_0)
        (try rw [show ((0 : Int)).toNat = 0 from rfl] at hx111_1)
        (try rw [show 0 * 6 = 0 from rfl] at hx111_1)
        (try rw [Addr.add_zero'] at hx111_1)
        (try rw [show ((0 : Int)).toNat = 0 from rfl] at hx111_2)
        (try rw [show 0 * 6 = 0 from rfl] at hx111_2)
        (try rw [Addr.add_zero'] at hx111_2)
        (try rw [show ((0 : Int)).toNat = 0 from rfl] at hx111_3)
        (try rw [show 0 * 6 = 0 from rfl] at hx111_3)
        (try rw [Addr.add_zero'] at hx111_3)
        (try rw [show ((0 : Int)).toNat = 0 from rfl] at hx111_4)
        (try rw [show 0 * 6 = 0 from rfl] at hx111_4)
        (try rw [Addr.add_zero'] at hx111_4)
        (try rw [show ((0 : Int)).toNat = 0 from rfl] at hx111_5)
        (try rw [show 0 * 6 = 0 from rfl] at hx111_5)
        (try rw [Addr.add_zero'] at hx111_5)
        have HR111_5 := Aside0.mk hi111_5
        have HC111_5 := Aside0.mk hl111_5
        clear hi111_5 hl111_5
        replace p111 := eq_true p111
        replace q111 := eq_true q111
        have ea_ := Option.some.inj (hx107_5.symm.trans hx111_5)
        injection ea_ with ea_ en_ ec_
        (try subst ea_)
        (try subst ec_)
        clear en_
        have p113 : 0 ≤ (0 : Int) := (by omega)
        have q113 : 0 < (l0.length : Int) := of_decide_eq_true (by first | (with_reducible assumption) | assumption)
        obtain ⟨ad113, A113_5, c113_5, e113, hx113_0, hx113_1, hx113_2, hx113_3, hx113_4, hx113_5, hl113_5, hi113_5⟩ := at_T33 HR0.out 0 p113 q113
        obtain rfl : ad107 = ad113 := (by injection e113)
        have qi113 : (0 < l0.length) = True := eq_true (by omega)
        (try rw [show ((0 : Int)).toNat = 0 from rfl] at hx113_0)
        (try rw [show 0 * 6 = 0 from rfl] at hx113_0)
        (try rw [Addr.add_zero'] at hx113_0)
        (try rw [show ((0 : Int)).toNat = 0 from rfl] at hx113_1)
        (try rw [show 0 * 6 = 0 from rfl] at hx113_1)
        (try rw [Addr.add_zero'] at hx113_1)
        (try rw [show ((0 : Int)).toNat = 0 from rfl] at hx113_2)
        (try rw [show 0 * 6 = 0 from rfl] at hx113_2)
        (try rw [Addr.add_zero'] at hx113_2)
        (try rw [show ((0 : Int)).toNat = 0 from rfl] at hx113_3)
        (try rw [show 0 * 6 = 0 from rfl] at hx113_3)
        (try rw [Addr.add_zero'] at hx113_3)
        (try rw [show ((0 : Int)).toNat = 0 from rfl] at hx113_4)
        (try rw [show 0 * 6 = 0 from rfl] at hx113_4)
        (try rw [Addr.add_zero'] at hx113_4)
        (try rw [show ((0 : Int)).toNat = 0 from rfl] at hx113_5)
        (try rw [show 0 * 6 = 0 from rfl] at hx113_5)
        (try rw [Addr.add_zero'] at hx113_5)
        have HR113_5 := Aside0.mk hi113_5
        have HC113_5 := Aside0.mk hl113_5
        clear hi113_5 hl113_5
        replace p113 := eq_true p113
        replace q113 := eq_true q113
        have ea_ := Option.some.inj (hx107_5.symm.trans hx113_5)
        injection ea_ with ea_ en_ ec_
        (try subst ea_)
        (try subst ec_)
        clear en_
        have p115 : 0 ≤ (0 : Int) := (by omega)
        have q115 : 0 < (l0.length : Int) := of_decide_eq_true (by first | (with_reducible assumption) | assumption)
        obtain ⟨ad115, A115_5, c115_5, e115, hx115_0, hx115_1, hx115_2, hx115_3, hx115_4, hx115_5, hl115_5, hi115_5⟩ := at_T33 HR0.out 0 p115 q115
        obtain rfl : ad107 = ad115 := (by injection e115)
        have qi115 : (0 < l0.length) = True := eq_true (by omega)
        (try rw [show ((0 : Int)).toNat = 0 from rfl] at hx115_0)
        (try rw [show 0 * 6 = 0 from rfl] at hx115_0)
        (try rw [Addr.add_zero'] at hx115_0)
        (try rw [show ((0 : Int)).toNat = 0 from rfl] at hx115_1)
        (try rw [show 0 * 6 = 0 from rfl] at hx115_1)
        (try rw [Addr.add_zero'] at hx115_1)
        (try rw [show ((0 : Int)).toNat = 0 from rfl] at hx115_2)
        (try rw [show 0 * 6 = 0 from rfl] at hx115_2)
        (try rw [Addr.add_zero'] at hx115_2)
        (try rw [show ((0 : Int)).toNat = 0 from rfl] at hx115_3)
        (try rw [show 0 * 6 = 0 from rfl] at hx115_3)
        (try rw [Addr.add_zero'] at hx115_3)
        (try rw [show ((0 : Int)).toNat = 0 from rfl] at hx115_4)
        (try rw [show 0 * 6 = 0 from rfl] at hx115_4)
        (try rw [Addr.add_zero'] at hx115_4)
        (try rw [show ((0 : Int)).toNat = 0 from rfl] at hx115_5)
        (try rw [show 0 * 6 = 0 from rfl] at hx115_5)
        (try rw [Addr.add_zero'] at hx115_5)
        have HR115_5 := Aside0.mk hi115_5
        have HC115_5 := Aside0.mk hl115_5
        clear hi115_5 hl115_5
        replace p115 := eq_true p115
        replace q115 := eq_true q115
        have ea_ := Option.some.inj (hx107_5.symm.trans hx115_5)
        injection ea_ with ea_ en_ ec_
        (try subst ea_)
        (try subst ec_)
        clear en_
        have p117 : 0 ≤ (0 : Int) := (by omega)
        have q117 : 0 < (l0.length : Int) := of_decide_eq_true (by first | (with_reducible assumption) | assumption)
        obtain ⟨ad117, A117_5, c117_5, e117, hx117_0, hx117_1, hx117_2, hx117_3, hx117_4, hx117_5, hl117_5, hi117_5⟩ := at_T33 HR0.out 0 p117 q117
        obtain rfl : ad107 = ad117 := (by injection e117)
        have qi117 : (0 < l0.length) = True := eq_true (by omega)
        (try rw [show ((0 : Int)).toNat = 0 from rfl] at hx117_0)
        (try rw [show 0 * 6 = 0 from rfl] at hx117_0)
        (try rw [Addr.add_zero'] at hx117_0)
        (try rw [show ((0 : Int)).toNat = 0 from rfl] at hx117_1)
        (try rw [show 0 * 6 = 0 from rfl] at hx117_1)
        (try rw [Addr.add_zero'] at hx117_1)
        (try rw [show ((0 : Int)).toNat = 0 from rfl] at hx117_2)
        (try rw [show 0 * 6 = 0 from rfl] at hx117_2)
        (try rw [Addr.add_zero'] at hx117_2)
        (try rw [show ((0 : Int)).toNat = 0 from rfl] at hx117_3)
        (try rw [show 0 * 6 = 0 from rfl] at hx117_3)
        (try rw [Addr.add_zero'] at hx117_3)
        (try rw [show ((0 : Int)).toNat = 0 from rfl] at hx117_4)
        (try rw [show 0 * 6 = 0 from rfl] at hx117_4)
        (try rw [Addr.add_zero'] at hx117_4)
        (try rw [show ((0 : Int)).toNat = 0 from rfl] at hx117_5)
        (try rw [show 0 * 6 = 0 from rfl] at hx117_5)
        (try rw [Addr.add_zero'] at hx117_5)
        have HR117_5 := Aside0.mk hi117_5
        have HC117_5 := Aside0.mk hl117_5
        clear hi117_5 hl117_5
        replace p117 := eq_true p117
        replace q117 := eq_true q117
        have ea_ := Option.some.inj (hx107_5.symm.trans hx117_5)
        injection ea_ with ea_ en_ ec_
        (try subst ea_)
        (try subst ec_)
        clear en_
        go_wp2_with (first | ((with_reducible refine gate_callee (f := 103) rfl ?_); refine goesL_ (some 8) rfl rfl Tryd.func103 (by kernel_rfl) rfl #[.string ((rd_T33 l0 0).f0)] rfl (by (try simp only [List.map_toArray, List.map_cons, List.map_nil]); first | done | rfl | (simp only [List.length_drop, List.length_take]; rfl)) ?_; (with_reducible refine (spec_l01Name.calls k ((rd_T33 l0 0).f0) true _ A4.out).mono ?_); rintro e w' ⟨rfl, ⟨nd, rfl⟩⟩; refine ⟨_, rfl, ?_⟩) | (go_at_call 104; (with_reducible refine (spec_l00In.calls ((rd_T33 l0 0).f1) 0 15 true _ A6.out).mono ?_); rintro e w' ⟨rfl, ⟨nd, rfl⟩⟩) | (go_at_call 104; (with_reducible refine (spec_l00In.calls ((rd_T33 l0 0).f2) 0 1000000 true _ A8.out).mono ?_); rintro e w' ⟨rfl, ⟨nd, rfl⟩⟩) | (go_at_call 104; (with_reducible refine (spec_l00In.calls ((rd_T33 l0 0).f3) 0 100000 true _ A10.out).mono ?_); rintro e w' ⟨rfl, ⟨nd, rfl⟩⟩) | (go_at_call 105; (with_reducible refine (spec_l05Outdoor.calls ((rd_T33 l0 0).f4) true _ A12.out).mono ?_); rintro e w' ⟨rfl, ⟨nd, rfl⟩⟩))
        go_meet
        case rel => exact ⟨_, (((((rd_T33 l0 0).f5).length : Int) != 24)), (by first | rfl | (simp; done) | (simp [*]; done)), H', ⟨by first | omega | exact Nat.le_refl _⟩, by repeat (first | exact Drawn0.refl _ | apply Drawn0.step)⟩
       ·
        replace c13 := Bool.eq_false_iff.mpr c13
        subst c13
        have H1 : (spec_l05One.j0 k l0 true) = some r := by rw [if_neg (show ¬ (false = true) by decide)] at H; exact H
        clear H
        have H := H1
        clear H1
        have H' := Aside0.mk H
        clear H
        have p107 : 0 ≤ (0 : Int) := (by omega)
        have q107 : 0 < (l0.length : Int) := of_decide_eq_true (by first | (with_reducible assumption) | assumption)
        obtain ⟨ad107, A107_5, c107_5, e107, hx107_0, hx107_1, hx107_2, hx107_3, hx107_4, hx107_5, hl107_5, hi107_5⟩ := at_T33 HR0.out 0 p107 q107
        cases e107
        have qi107 : (0 < l0.length) = True := eq_true (by omega)
        (try rw [show ((0 : Int)).toNat = 0 from rfl] at hx107_0)
        (try rw [show 0 * 6 = 0 from rfl] at hx107_0)
        (try rw [Addr.add_zero'] at hx107_0)
        (try rw [show ((0 : Int)).toNat = 0 from rfl] at hx107_1)
        (try rw [show 0 * 6 = 0 from rfl] at hx107_1)
        (try rw [Addr.add_zero'] at hx107_1)
        (try rw [show ((0 : Int)).toNat = 0 from rfl] at hx107_2)
        (try rw [show 0 * 6 = 0 from rfl] at hx107_2)
        (try rw [Addr.add_zero'] at hx107_2)
        (try rw [show ((0 : Int)).toNat = 0 from rfl] at hx107_3)
        (try rw [show 0 * 6 = 0 from rfl] at hx107_3)
        (try rw [Addr.add_zero'] at hx107_3)
        (try rw [show ((0 : Int)).toNat = 0 from rfl] at hx107_4)
        (try rw [show 0 * 6 = 0 from rfl] at hx107_4)
        (try rw [Addr.add_zero'] at hx107_4)
        (try rw [show ((0 : Int)).toNat = 0 from rfl] at hx107_5)
        (try rw [show 0 * 6 = 0 from rfl] at hx107_5)
        (try rw [Addr.add_zero'] at hx107_5)
        have HR107_5 := Aside0.mk hi107_5
        have HC107_5 := Aside0.mk hl107_5
        clear hi107_5 hl107_5
        replace p107 := eq_true p107
        replace q107 := eq_true q107
        have p109 : 0 ≤ (0 : Int) := (by omega)
        have q109 : 0 < (l0.length : Int) := of_decide_eq_true (by first | (with_reducible assumption) | assumption)
        obtain ⟨ad109, A109_5, c109_5, e109, hx109_0, hx109_1, hx109_2, hx109_3, hx109_4, hx109_5, hl109_5, hi109_5⟩ := at_T33 HR0.out 0 p109 q109
        obtain rfl : ad107 = ad109 := (by injection e109)
        have qi109 : (0 < l0.length) = True := eq_true (by omega)
        (try rw [show ((0 : Int)).toNat = 0 from rfl] at hx109_0)
        (try rw [show 0 * 6 = 0 from rfl] at hx109_0)
        (try rw [Addr.add_zero'] at hx109_0)
        (try rw [show ((0 : Int)).toNat = 0 from rfl] at hx109_1)
        (try rw [show 0 * 6 = 0 from rfl] at hx109_1)
        (try rw [Addr.add_zero'] at hx109_1)
        (try rw [show ((0 : Int)).toNat = 0 from rfl] at hx109_2)
        (try rw [show 0 * 6 = 0 from rfl] at hx109_2)
        (try rw [Addr.add_zero'] at hx109_2)
        (try rw [show ((0 : Int)).toNat = 0 from rfl] at hx109_3)
        (try rw [show 0 * 6 = 0 from rfl] at hx109_3)
        (try rw [Addr.add_zero'] at hx109_3)
        (try rw [show ((0 : Int)).toNat = 0 from rfl] at hx109_4)
        (try rw [show 0 * 6 = 0 from rfl] at hx109_4)
        (try rw [Addr.add_zero'] at hx109_4)
        (try rw [show ((0 : Int)).toNat = 0 from rfl] at hx109_5)
        (try rw [show 0 * 6 = 0 from rfl] at hx109_5)
        (try rw [Addr.add_zero'] at hx109_5)
        have HR109_5 := Aside0.mk hi109_5
        have HC109_5 := Aside0.mk hl109_5
        clear hi109_5 hl109_5
        replace p109 := eq_true p109
        replace q109 := eq_true q109
        have ea_ := Option.some.inj (hx107_5.symm.trans hx109_5)
        injection ea_ with ea_ en_ ec_
        (try subst ea_)
        (try subst ec_)
        clear en_
        have p111 : 0 ≤ (0 : Int) := (by omega)
        have q111 : 0 < (l0.length : Int) := of_decide_eq_true (by first | (with_reducible assumption) | assumption)
        obtain ⟨ad111, A111_5, c111_5, e111, hx111_0, hx111_1, hx111_2, hx111_3, hx111_4, hx111_5, hl111_5, hi111_5⟩ := at_T33 HR0.out 0 p111 q111
        obtain rfl : ad107 = ad111 := (by injection e111)
        have qi111 : (0 < l0.length) = True := eq_true (by omega)
        (try rw [show ((0 : Int)).toNat = 0 from rfl] at hx111_0)
        (try rw [show 0 * 6 = 0 from rfl] at hx111_0)
        (try rw [Addr.add_zero'] at hx111_0)
        (try rw [show ((0 : Int)).toNat = 0 from rfl] at hx111_1)
        (try rw [show 0 * 6 = 0 from rfl] at hx111_1)
        (try rw [Addr.add_zero'] at hx111_1)
        (try rw [show ((0 : Int)).toNat = 0 from rfl] at hx111_2)
        (try rw [show 0 * 6 = 0 from rfl] at hx111_2)
        (try rw [Addr.add_zero'] at hx111_2)
        (try rw [show ((0 : Int)).toNat = 0 from rfl] at hx111_3)
        (try rw [show 0 * 6 = 0 from rfl] at hx111_3)
        (try rw [Addr.add_zero'] at hx111_3)
        (try rw [show ((0 : Int)).toNat = 0 from rfl] at hx111_4)
        (try rw [show 0 * 6 = 0 from rfl] at hx111_4)
        (try rw [Addr.add_zero'] at hx111_4)
        (try rw [show ((0 : Int)).toNat = 0 from rfl] at hx111_5)
        (try rw [show 0 * 6 = 0 from rfl] at hx111_5)
        (try rw [Addr.add_zero'] at hx111_5)
        have HR111_5 := Aside0.mk hi111_5
        have HC111_5 := Aside0.mk hl111_5
        clear hi111_5 hl111_5
        replace p111 := eq_true p111
        replace q111 := eq_true q111
        have ea_ := Option.some.inj (hx107_5.symm.trans hx111_5)
        injection ea_ with ea_ en_ ec_
        (try subst ea_)
        (try subst ec_)
        clear en_
        have p113 : 0 ≤ (0 : Int) := (by omega)
        have q113 : 0 < (l0.length : Int) := of_decide_eq_true (by first | (with_reducible assumption) | assumption)
        obtain ⟨ad113, A113_5, c113_5, e113, hx113_0, hx113_1, hx113_2, hx113_3, hx113_4, hx113_5, hl113_5, hi113_5⟩ := at_T33 HR0.out 0 p113 q113
        obtain rfl : ad107 = ad113 := (by injection e113)
        have qi113 : (0 < l0.length) = True := eq_true (by omega)
        (try rw [show ((0 : Int)).toNat = 0 from rfl] at hx113_0)
        (try rw [show 0 * 6 = 0 from rfl] at hx113_0)
        (try rw [Addr.add_zero'] at hx113_0)
        (try rw [show ((0 : Int)).toNat = 0 from rfl] at hx113_1)
        (try rw [show 0 * 6 = 0 from rfl] at hx113_1)
        (try rw [Addr.add_zero'] at hx113_1)
        (try rw [show ((0 : Int)).toNat = 0 from rfl] at hx113_2)
        (try rw [show 0 * 6 = 0 from rfl] at hx113_2)
        (try rw [Addr.add_zero'] at hx113_2)
        (try rw [show ((0 : Int)).toNat = 0 from rfl] at hx113_3)
        (try rw [show 0 * 6 = 0 from rfl] at hx113_3)
        (try rw [Addr.add_zero'] at hx113_3)
        (try rw [show ((0 : Int)).toNat = 0 from rfl] at hx113_4)
        (try rw [show 0 * 6 = 0 from rfl] at hx113_4)
        (try rw [Addr.add_zero'] at hx113_4)
        (try rw [show ((0 : Int)).toNat = 0 from rfl] at hx113_5)
        (try rw [show 0 * 6 = 0 from rfl] at hx113_5)
        (try rw [Addr.add_zero'] at hx113_5)
        have HR113_5 := Aside0.mk hi113_5
        have HC113_5 := Aside0.mk hl113_5
        clear hi113_5 hl113_5
        replace p113 := eq_true p113
        replace q113 := eq_true q113
        have ea_ := Option.some.inj (hx107_5.symm.trans hx113_5)
        injection ea_ with ea_ en_ ec_
        (try subst ea_)
        (try subst ec_)
        clear en_
        have p115 : 0 ≤ (0 : Int) := (by omega)
        have q115 : 0 < (l0.length : Int) := of_decide_eq_true (by first | (with_reducible assumption) | assumption)
        obtain ⟨ad115, A115_5, c115_5, e115, hx115_0, hx115_1, hx115_2, hx115_3, hx115_4, hx115_5, hl115_5, hi115_5⟩ := at_T33 HR0.out 0 p115 q115
        obtain rfl : ad107 = ad115 := (by injection e115)
        have qi115 : (0 < l0.length) = True := eq_true (by omega)
        (try rw [show ((0 : Int)).toNat = 0 from rfl] at hx115_0)
        (try rw [show 0 * 6 = 0 from rfl] at hx115_0)
        (try rw [Addr.add_zero'] at hx115_0)
        (try rw [show ((0 : Int)).toNat = 0 from rfl] at hx115_1)
        (try rw [show 0 * 6 = 0 from rfl] at hx115_1)
        (try rw [Addr.add_zero'] at hx115_1)
        (try rw [show ((0 : Int)).toNat = 0 from rfl] at hx115_2)
        (try rw [show 0 * 6 = 0 from rfl] at hx115_2)
        (try rw [Addr.add_zero'] at hx115_2)
        (try rw [show ((0 : Int)).toNat = 0 from rfl] at hx115_3)
        (try rw [show 0 * 6 = 0 from rfl] at hx115_3)
        (try rw [Addr.add_zero'] at hx115_3)
        (try rw [show ((0 : Int)).toNat = 0 from rfl] at hx115_4)
        (try rw [show 0 * 6 = 0 from rfl] at hx115_4)
        (try rw [Addr.add_zero'] at hx115_4)
        (try rw [show ((0 : Int)).toNat = 0 from rfl] at hx115_5)
        (try rw [show 0 * 6 = 0 from rfl] at hx115_5)
        (try rw [Addr.add_zero'] at hx115_5)
        have HR115_5 := Aside0.mk hi115_5
        have HC115_5 := Aside0.mk hl115_5
        clear hi115_5 hl115_5
        replace p115 := eq_true p115
        replace q115 := eq_true q115
        have ea_ := Option.some.inj (hx107_5.symm.trans hx115_5)
        injection ea_ with ea_ en_ ec_
        (try subst ea_)
        (try subst ec_)
        clear en_
        go_wp2_with (first | ((with_reducible refine gate_callee (f := 103) rfl ?_); refine goesL_ (some 8) rfl rfl Tryd.func103 (by kernel_rfl) rfl #[.string ((rd_T33 l0 0).f0)] rfl (by (try simp only [List.map_toArray, List.map_cons, List.map_nil]); first | done | rfl | (simp only [List.length_drop, List.length_take]; rfl)) ?_; (with_reducible refine (spec_l01Name.calls k ((rd_T33 l0 0).f0) true _ A4.out).mono ?_); rintro e w' ⟨rfl, ⟨nd, rfl⟩⟩; refine ⟨_, rfl, ?_⟩) | (go_at_call 104; (with_reducible refine (spec_l00In.calls ((rd_T33 l0 0).f1) 0 15 true _ A6.out).mono ?_); rintro e w' ⟨rfl, ⟨nd, rfl⟩⟩) | (go_at_call 104; (with_reducible refine (spec_l00In.calls ((rd_T33 l0 0).f2) 0 1000000 true _ A8.out).mono ?_); rintro e w' ⟨rfl, ⟨nd, rfl⟩⟩) | (go_at_call 104; (with_reducible refine (spec_l00In.calls ((rd_T33 l0 0).f3) 0 100000 true _ A10.out).mono ?_); rintro e w' ⟨rfl, ⟨nd, rfl⟩⟩) | (go_at_call 105; (with_reducible refine (spec_l05Outdoor.calls ((rd_T33 l0 0).f4) false _ A12.out).mono ?_); rintro e w' ⟨rfl, ⟨nd, rfl⟩⟩))
        go_meet
        case rel => exact ⟨_, (true), (by first | rfl | (simp; done) | (simp [*]; done)), H', ⟨by first | omega | exact Nat.le_refl _⟩, by repeat (first | exact Drawn0.refl _ | apply Drawn0.step)⟩
      ·
       replace c11 := Bool.eq_false_iff.mpr c11
       subst c11
       have H1 : (spec_l05One.j0 k l0 true) = some r := by rw [if_neg (show ¬ (false = true) by decide)] at H; exact H
       clear H
       have H := H1
       clear H1
       have H' := Aside0.mk H
       clear H
       have p107 : 0 ≤ (0 : Int) := (by omega)
       have q107 : 0 < (l0.length : Int) := of_decide_eq_true (by first | (with_reducible assumption) | assumption)
       obtain ⟨ad107, A107_5, c107_5, e107, hx107_0, hx107_1, hx107_2, hx107_3, hx107_4, hx107_5, hl107_5, hi107_5⟩ := at_T33 HR0.out 0 p107 q107
       cases e107
       have qi107 : (0 < l0.length) = True := eq_true (by omega)
       (try rw [show ((0 : Int)).toNat = 0 from rfl] at hx107_0)
       (try rw [show 0 * 6 = 0 from rfl] at hx107_0)
       (try rw [Addr.add_zero'] at hx107_0)
       (try rw [show ((0 : Int)).toNat = 0 from rfl] at hx107_1)
       (try rw [show 0 * 6 = 0 from rfl] at hx107_1)
       (try rw [Addr.add_zero'] at hx107_1)
       (try rw [show ((0 : Int)).toNat = 0 from rfl] at hx107_2)
       (try rw [show 0 * 6 = 0 from rfl] at hx107_2)
       (try rw [Addr.add_zero'] at hx107_2)
       (try rw [show ((0 : Int)).toNat = 0 from rfl] at hx107_3)
       (try rw [show 0 * 6 = 0 from rfl] at hx107_3)
       (try rw [Addr.add_zero'] at hx107_3)
       (try rw [show ((0 : Int)).toNat = 0 from rfl] at hx107_4)
       (try rw [show 0 * 6 = 0 from rfl] at hx107_4)
       (try rw [Addr.add_zero'] at hx107_4)
       (try rw [show ((0 : Int)).toNat = 0 from rfl] at hx107_5)
       (try rw [show 0 * 6 = 0 from rfl] at hx107_5)
       (try rw [Addr.add_zero'] at hx107_5)
       have HR107_5 := Aside0.mk hi107_5
       have HC107_5 := Aside0.mk hl107_5
       clear hi107_5 hl107_5
       replace p107 := eq_true p107
       replace q107 := eq_true q107
       have p109 : 0 ≤ (0 : Int) := (by omega)
       have q109 : 0 < (l0.length : Int) := of_decide_eq_true (by first | (with_reducible assumption) | assumption)
       obtain ⟨ad109, A109_5, c109_5, e109, hx109_0, hx109_1, hx109_2, hx109_3, hx109_4, hx109_5, hl109_5, hi109_5⟩ := at_T33 HR0.out 0 p109 q109
       obtain rfl : ad107 = ad109 := (by injection e109)
       have qi109 : (0 < l0.length) = True := eq_true (by omega)
       (try rw [show ((0 : Int)).toNat = 0 from rfl] at hx109_0)
       (try rw [show 0 * 6 = 0 from rfl] at hx109_0)
       (try rw [Addr.add_zero'] at hx109_0)
       (try rw [show ((0 : Int)).toNat = 0 from rfl] at hx109_1)
       (try rw [show 0 * 6 = 0 from rfl] at hx109_1)
       (try rw [Addr.add_zero'] at hx109_1)
       (try rw [show ((0 : Int)).toNat = 0 from rfl] at hx109_2)
       (try rw [show 0 * 6 = 0 from rfl] at hx109_2)
       (try rw [Addr.add_zero'] at hx109_2)
       (try rw [show ((0 : Int)).toNat = 0 from rfl] at hx109_3)
       (try rw [show 0 * 6 = 0 from rfl] at hx109_3)
       (try rw [Addr.add_zero'] at hx109_3)
       (try rw [show ((0 : Int)).toNat = 0 from rfl] at hx109_4)
       (try rw [show 0 * 6 = 0 from rfl] at hx109_4)
       (try rw [Addr.add_zero'] at hx109_4)
       (try rw [show ((0 : Int)).toNat = 0 from rfl] at hx109_5)
       (try rw [show 0 * 6 = 0 from rfl] at hx109_5)
       (try rw [Addr.add_zero'] at hx109_5)
       have HR109_5 := Aside0.mk hi109_5
       have HC109_5 := Aside0.mk hl109_5
       clear hi109_5 hl109_5
       replace p109 := eq_true p109
       replace q109 := eq_true q109
       have ea_ := Option.some.inj (hx107_5.symm.trans hx109_5)
       injection ea_ with ea_ en_ ec_
       (try subst ea_)
       (try subst ec_)
       clear en_
       have p111 : 0 ≤ (0 : Int) := (by omega)
       have q111 : 0 < (l0.length : Int) := of_decide_eq_true (by first | (with_reducible assumption) | assumption)
       obtain ⟨ad111, A111_5, c111_5, e111, hx111_0, hx111_1, hx111_2, hx111_3, hx111_4, hx111_5, hl111_5, hi111_5⟩ := at_T33 HR0.out 0 p111 q111
       obtain rfl : ad107 = ad111 := (by injection e111)
       have qi111 : (0 < l0.length) = True := eq_true (by omega)
       (try rw [show ((0 : Int)).toNat = 0 from rfl] at hx111_0)
       (try rw [show 0 * 6 = 0 from rfl] at hx111_0)
       (try rw [Addr.add_zero'] at hx111_0)
       (try rw [show ((0 : Int)).toNat = 0 from rfl] at hx111_1)
       (try rw [show 0 * 6 = 0 from rfl] at hx111_1)
       (try rw [Addr.add_zero'] at hx111_1)
       (try rw [show ((0 : Int)).toNat = 0 from rfl] at hx111_2)
       (try rw [show 0 * 6 = 0 from rfl] at hx111_2)
       (try rw [Addr.add_zero'] at hx111_2)
       (try rw [show ((0 : Int)).toNat = 0 from rfl] at hx111_3)
       (try rw [show 0 * 6 = 0 from rfl] at hx111_3)
       (try rw [Addr.add_zero'] at hx111_3)
       (try rw [show ((0 : Int)).toNat = 0 from rfl] at hx111_4)
       (try rw [show 0 * 6 = 0 from rfl] at hx111_4)
       (try rw [Addr.add_zero'] at hx111_4)
       (try rw [show ((0 : Int)).toNat = 0 from rfl] at hx111_5)
       (try rw [show 0 * 6 = 0 from rfl] at hx111_5)
       (try rw [Addr.add_zero'] at hx111_5)
       have HR111_5 := Aside0.mk hi111_5
       have HC111_5 := Aside0.mk hl111_5
       clear hi111_5 hl111_5
       replace p111 := eq_true p111
       replace q111 := eq_true q111
       have ea_ := Option.some.inj (hx107_5.symm.trans hx111_5)
       injection ea_ with ea_ en_ ec_
       (try subst ea_)
       (try subst ec_)
       clear en_
       have p113 : 0 ≤ (0 : Int) := (by omega)
       have q113 : 0 < (l0.length : Int) := of_decide_eq_true (by first | (with_reducible assumption) | assumption)
       obtain ⟨ad113, A113_5, c113_5, e113, hx113_0, hx113_1, hx113_2, hx113_3, hx113_4, hx113_5, hl113_5, hi113_5⟩ := at_T33 HR0.out 0 p113 q113
       obtain rfl : ad107 = ad113 := (by injection e113)
       have qi113 : (0 < l0.length) = True := eq_true (by omega)
       (try rw [show ((0 : Int)).toNat = 0 from rfl] at hx113_0)
       (try rw [show 0 * 6 = 0 from rfl] at hx113_0)
       (try rw [Addr.add_zero'] at hx113_0)
       (try rw [show ((0 : Int)).toNat = 0 from rfl] at hx113_1)
       (try rw [show 0 * 6 = 0 from rfl] at hx113_1)
       (try rw [Addr.add_zero'] at hx113_1)
       (try rw [show ((0 : Int)).toNat = 0 from rfl] at hx113_2)
       (try rw [show 0 * 6 = 0 from rfl] at hx113_2)
       (try rw [Addr.add_zero'] at hx113_2)
       (try rw [show ((0 : Int)).toNat = 0 from rfl] at hx113_3)
       (try rw [show 0 * 6 = 0 from rfl] at hx113_3)
       (try rw [Addr.add_zero'] at hx113_3)
       (try rw [show ((0 : Int)).toNat = 0 from rfl] at hx113_4)
       (try rw [show 0 * 6 = 0 from rfl] at hx113_4)
       (try rw [Addr.add_zero'] at hx113_4)
       (try rw [show ((0 : Int)).toNat = 0 from rfl] at hx113_5)
       (try rw [show 0 * 6 = 0 from rfl] at hx113_5)
       (try rw [Addr.add_zero'] at hx113_5)
       have HR113_5 := Aside0.mk hi113_5
       have HC113_5 := Aside0.mk hl113_5
       clear hi113_5 hl113_5
       replace p113 := eq_true p113
       replace q113 := eq_true q113
       have ea_ := Option.some.inj (hx107_5.symm.trans hx113_5)
       injection ea_ with ea_ en_ ec_
       (try subst ea_)
       (try subst ec_)
       clear en_
       go_wp2_with (first | ((with_reducible refine gate_callee (f := 103) rfl ?_); refine goesL_ (some 8) rfl rfl Tryd.func103 (by kernel_rfl) rfl #[.string ((rd_T33 l0 0).f0)] rfl (by (try simp only [List.map_toArray, List.map_cons, List.map_nil]); first | done | rfl | (simp only [List.length_drop, List.length_take]; rfl)) ?_; (with_reducible refine (spec_l01Name.calls k ((rd_T33 l0 0).f0) true _ A4.out).mono ?_); rintro e w' ⟨rfl, ⟨nd, rfl⟩⟩; refine ⟨_, rfl, ?_⟩) | (go_at_call 104; (with_reducible refine (spec_l00In.calls ((rd_T33 l0 0).f1) 0 15 true _ A6.out).mono ?_); rintro e w' ⟨rfl, ⟨nd, rfl⟩⟩) | (go_at_call 104; (with_reducible refine (spec_l00In.calls ((rd_T33 l0 0).f2) 0 1000000 true _ A8.out).mono ?_); rintro e w' ⟨rfl, ⟨nd, rfl⟩⟩) | (go_at_call 104; (with_reducible refine (spec_l00In.calls ((rd_T33 l0 0).f3) 0 100000 false _ A10.out).mono ?_); rintro e w' ⟨rfl, ⟨nd, rfl⟩⟩))
       go_meet
       case rel => exact ⟨_, (true), (by first | rfl | (simp; done) | (simp [*]; done)), H', ⟨by first | omega | exact Nat.le_refl _⟩, by repeat (first | exact Drawn0.refl _ | apply Drawn0.step)⟩
     ·
      replace c9 := Bool.eq_false_iff.mpr c9
      subst c9
      have H1 : (spec_l05One.j0 k l0 true) = some r := by rw [if_neg (show ¬ (false = true) by decide)] at H; exact H
      clear H
      have H := H1
      clear H1
      have H' := Aside0.mk H
      clear H
      have p107 : 0 ≤ (0 : Int) := (by omega)
      have q107 : 0 < (l0.length : Int) := of_decide_eq_true (by first | (with_reducible assumption) | assumption)
      obtain ⟨ad107, A107_5, c107_5, e107, hx107_0, hx107_1, hx107_2, hx107_3, hx107_4, hx107_5, hl107_5, hi107_5⟩ := at_T33 HR0.out 0 p107 q107
      cases e107
      have qi107 : (0 < l0.length) = True := eq_true (by omega)
      (try rw [show ((0 : Int)).toNat = 0 from rfl] at hx107_0)
      (try rw [show 0 * 6 = 0 from rfl] at hx107_0)
      (try rw [Addr.add_zero'] at hx107_0)
      (try rw [show ((0 : Int)).toNat = 0 from rfl] at hx107_1)
      (try rw [show 0 * 6 = 0 from rfl] at hx107_1)
      (try rw [Addr.add_zero'] at hx107_1)
      (try rw [show ((0 : Int)).toNat = 0 from rfl] at hx107_2)
      (try rw [show 0 * 6 = 0 from rfl] at hx107_2)
      (try rw [Addr.add_zero'] at hx107_2)
      (try rw [show ((0 : Int)).toNat = 0 from rfl] at hx107_3)
      (try rw [show 0 * 6 = 0 from rfl] at hx107_3)
      (try rw [Addr.add_zero'] at hx107_3)
      (try rw [show ((0 : Int)).toNat = 0 from rfl] at hx107_4)
      (try rw [show 0 * 6 = 0 from rfl] at hx107_4)
      (try rw [Addr.add_zero'] at hx107_4)
      (try rw [show ((0 : Int)).toNat = 0 from rfl] at hx107_5)
      (try rw [show 0 * 6 = 0 from rfl] at hx107_5)
      (try rw [Addr.add_zero'] at hx107_5)
      have HR107_5 := Aside0.mk hi107_5
      have HC107_5 := Aside0.mk hl107_5
      clear hi107_5 hl107_5
      replace p107 := eq_true p107
      replace q107 := eq_true q107
      have p109 : 0 ≤ (0 : Int) := (by omega)
      have q109 : 0 < (l0.length : Int) := of_decide_eq_true (by first | (with_reducible assumption) | assumption)
      obtain ⟨ad109, A109_5, c109_5, e109, hx109_0, hx109_1, hx109_2, hx109_3, hx109_4, hx109_5, hl109_5, hi109_5⟩ := at_T33 HR0.out 0 p109 q109
      obtain rfl : ad107 = ad109 := (by injection e109)
      have qi109 : (0 < l0.length) = True := eq_true (by omega)
      (try rw [show ((0 : Int)).toNat = 0 from rfl] at hx109_0)
      (try rw [show 0 * 6 = 0 from rfl] at hx109_0)
      (try rw [Addr.add_zero'] at hx109_0)
      (try rw [show ((0 : Int)).toNat = 0 from rfl] at hx109_1)
      (try rw [show 0 * 6 = 0 from rfl] at hx109_1)
      (try rw [Addr.add_zero'] at hx109_1)
      (try rw [show ((0 : Int)).toNat = 0 from rfl] at hx109_2)
      (try rw [show 0 * 6 = 0 from rfl] at hx109_2)
      (try rw [Addr.add_zero'] at hx109_2)
      (try rw [show ((0 : Int)).toNat = 0 from rfl] at hx109_3)
      (try rw [show 0 * 6 = 0 from rfl] at hx109_3)
      (try rw [Addr.add_zero'] at hx109_3)
      (try rw [show ((0 : Int)).toNat = 0 from rfl] at hx109_4)
      (try rw [show 0 * 6 = 0 from rfl] at hx109_4)
      (try rw [Addr.add_zero'] at hx109_4)
      (try rw [show ((0 : Int)).toNat = 0 from rfl] at hx109_5)
      (try rw [show 0 * 6 = 0 from rfl] at hx109_5)
      (try rw [Addr.add_zero'] at hx109_5)
      have HR109_5 := Aside0.mk hi109_5
      have HC109_5 := Aside0.mk hl109_5
      clear hi109_5 hl109_5
      replace p109 := eq_true p109
      replace q109 := eq_true q109
      have ea_ := Option.some.inj (hx107_5.symm.trans hx109_5)
      injection ea_ with ea_ en_ ec_
      (try subst ea_)
      (try subst ec_)
      clear en_
      have p111 : 0 ≤ (0 : Int) := (by omega)
      have q111 : 0 < (l0.length : Int) := of_decide_eq_true (by first | (with_reducible assumption) | assumption)
      obtain ⟨ad111, A111_5, c111_5, e111, hx111_0, hx111_1, hx111_2, hx111_3, hx111_4, hx111_5, hl111_5, hi111_5⟩ := at_T33 HR0.out 0 p111 q111
      obtain rfl : ad107 = ad111 := (by injection e111)
      have qi111 : (0 < l0.length) = True := eq_true (by omega)
      (try rw [show ((0 : Int)).toNat = 0 from rfl] at hx111_0)
      (try rw [show 0 * 6 = 0 from rfl] at hx111_0)
      (try rw [Addr.add_zero'] at hx111_0)
      (try rw [show ((0 : Int)).toNat = 0 from rfl] at hx111_1)
      (try rw [show 0 * 6 = 0 from rfl] at hx111_1)
      (try rw [Addr.add_zero'] at hx111_1)
      (try rw [show ((0 : Int)).toNat = 0 from rfl] at hx111_2)
      (try rw [show 0 * 6 = 0 from rfl] at hx111_2)
      (try rw [Addr.add_zero'] at hx111_2)
      (try rw [show ((0 : Int)).toNat = 0 from rfl] at hx111_3)
      (try rw [show 0 * 6 = 0 from rfl] at hx111_3)
      (try rw [Addr.add_zero'] at hx111_3)
      (try rw [show ((0 : Int)).toNat = 0 from rfl] at hx111_4)
      (try rw [show 0 * 6 = 0 from rfl] at hx111_4)
      (try rw [Addr.add_zero'] at hx111_4)
      (try rw [show ((0 : Int)).toNat = 0 from rfl] at hx111_5)
      (try rw [show 0 * 6 = 0 from rfl] at hx111_5)
      (try rw [Addr.add_zero'] at hx111_5)
      have HR111_5 := Aside0.mk hi111_5
      have HC111_5 := Aside0.mk hl111_5
      clear hi111_5 hl111_5
      replace p111 := eq_true p111
      replace q111 := eq_true q111
      have ea_ := Option.some.inj (hx107_5.symm.trans hx111_5)
      injection ea_ with ea_ en_ ec_
      (try subst ea_)
      (try subst ec_)
      clear en_
      go_wp2_with (first | ((with_reducible refine gate_callee (f := 103) rfl ?_); refine goesL_ (some 8) rfl rfl Tryd.func103 (by kernel_rfl) rfl #[.string ((rd_T33 l0 0).f0)] rfl (by (try simp only [List.map_toArray, List.map_cons, List.map_nil]); first | done | rfl | (simp only [List.length_drop, List.length_take]; rfl)) ?_; (with_reducible refine (spec_l01Name.calls k ((rd_T33 l0 0).f0) true _ A4.out).mono ?_); rintro e w' ⟨rfl, ⟨nd, rfl⟩⟩; refine ⟨_, rfl, ?_⟩) | (go_at_call 104; (with_reducible refine (spec_l00In.calls ((rd_T33 l0 0).f1) 0 15 true _ A6.out).mono ?_); rintro e w' ⟨rfl, ⟨nd, rfl⟩⟩) | (go_at_call 104; (with_reducible refine (spec_l00In.calls ((rd_T33 l0 0).f2) 0 1000000 false _ A8.out).mono ?_); rintro e w' ⟨rfl, ⟨nd, rfl⟩⟩))
      go_meet
      case rel => exact ⟨_, (true), (by first | rfl | (simp; done) | (simp [*]; done)), H', ⟨by first | omega | exact Nat.le_refl _⟩, by repeat (first | exact Drawn0.refl _ | apply Drawn0.step)⟩
    ·
     replace c7 := Bool.eq_false_iff.mpr c7
     subst c7
     have H1 : (spec_l05One.j0 k l0 true) = some r := by rw [if_neg (show ¬ (false = true) by decide)] at H; exact H
     clear H
     have H := H1
     clear H1
     have H' := Aside0.mk H
     clear H
     have p107 : 0 ≤ (0 : Int) := (by omega)
     have q107 : 0 < (l0.length : Int) := of_decide_eq_true (by first | (with_reducible assumption) | assumption)
     obtain ⟨ad107, A107_5, c107_5, e107, hx107_0, hx107_1, hx107_2, hx107_3, hx107_4, hx107_5, hl107_5, hi107_5⟩ := at_T33 HR0.out 0 p107 q107
     cases e107
     have qi107 : (0 < l0.length) = True := eq_true (by omega)
     (try rw [show ((0 : Int)).toNat = 0 from rfl] at hx107_0)
     (try rw [show 0 * 6 = 0 from rfl] at hx107_0)
     (try rw [Addr.add_zero'] at hx107_0)
     (try rw [show ((0 : Int)).toNat = 0 from rfl] at hx107_1)
     (try rw [show 0 * 6 = 0 from rfl] at hx107_1)
     (try rw [Addr.add_zero'] at hx107_1)
     (try rw [show ((0 : Int)).toNat = 0 from rfl] at hx107_2)
     (try rw [show 0 * 6 = 0 from rfl] at hx107_2)
     (try rw [Addr.add_zero'] at hx107_2)
     (try rw [show ((0 : Int)).toNat = 0 from rfl] at hx107_3)
     (try rw [show 0 * 6 = 0 from rfl] at hx107_3)
     (try rw [Addr.add_zero'] at hx107_3)
     (try rw [show ((0 : Int)).toNat = 0 from rfl] at hx107_4)
     (try rw [show 0 * 6 = 0 from rfl] at hx107_4)
     (try rw [Addr.add_zero'] at hx107_4)
     (try rw [show ((0 : Int)).toNat = 0 from rfl] at hx107_5)
     (try rw [show 0 * 6 = 0 from rfl] at hx107_5)
     (try rw [Addr.add_zero'] at hx107_5)
     have HR107_5 := Aside0.mk hi107_5
     have HC107_5 := Aside0.mk hl107_5
     clear hi107_5 hl107_5
     replace p107 := eq_true p107
     replace q107 := eq_true q107
     have p109 : 0 ≤ (0 : Int) := (by omega)
     have q109 : 0 < (l0.length : Int) := of_decide_eq_true (by first | (with_reducible assumption) | assumption)
     obtain ⟨ad109, A109_5, c109_5, e109, hx109_0, hx109_1, hx109_2, hx109_3, hx109_4, hx109_5, hl109_5, hi109_5⟩ := at_T33 HR0.out 0 p109 q109
     obtain rfl : ad107 = ad109 := (by injection e109)
     have qi109 : (0 < l0.length) = True := eq_true (by omega)
     (try rw [show ((0 : Int)).toNat = 0 from rfl] at hx109_0)
     (try rw [show 0 * 6 = 0 from rfl] at hx109_0)
     (try rw [Addr.add_zero'] at hx109_0)
     (try rw [show ((0 : Int)).toNat = 0 from rfl] at hx109_1)
     (try rw [show 0 * 6 = 0 from rfl] at hx109_1)
     (try rw [Addr.add_zero'] at hx109_1)
     (try rw [show ((0 : Int)).toNat = 0 from rfl] at hx109_2)
     (try rw [show 0 * 6 = 0 from rfl] at hx109_2)
     (try rw [Addr.add_zero'] at hx109_2)
     (try rw [show ((0 : Int)).toNat = 0 from rfl] at hx109_3)
     (try rw [show 0 * 6 = 0 from rfl] at hx109_3)
     (try rw [Addr.add_zero'] at hx109_3)
     (try rw [show ((0 : Int)).toNat = 0 from rfl] at hx109_4)
     (try rw [show 0 * 6 = 0 from rfl] at hx109_4)
     (try rw [Addr.add_zero'] at hx109_4)
     (try rw [show ((0 : Int)).toNat = 0 from rfl] at hx109_5)
     (try rw [show 0 * 6 = 0 from rfl] at hx109_5)
     (try rw [Addr.add_zero'] at hx109_5)
     have HR109_5 := Aside0.mk hi109_5
     have HC109_5 := Aside0.mk hl109_5
     clear hi109_5 hl109_5
     replace p109 := eq_true p109
     replace q109 := eq_true q109
     have ea_ := Option.some.inj (hx107_5.symm.trans hx109_5)
     injection ea_ with ea_ en_ ec_
     (try subst ea_)
     (try subst ec_)
     clear en_
     go_wp2_with (first | ((with_reducible refine gate_callee (f := 103) rfl ?_); refine goesL_ (some 8) rfl rfl Tryd.func103 (by kernel_rfl) rfl #[.string ((rd_T33 l0 0).f0)] rfl (by (try simp only [List.map_toArray, List.map_cons, List.map_nil]); first | done | rfl | (simp only [List.length_drop, List.length_take]; rfl)) ?_; (with_reducible refine (spec_l01Name.calls k ((rd_T33 l0 0).f0) true _ A4.out).mono ?_); rintro e w' ⟨rfl, ⟨nd, rfl⟩⟩; refine ⟨_, rfl, ?_⟩) | (go_at_call 104; (with_reducible refine (spec_l00In.calls ((rd_T33 l0 0).f1) 0 15 false _ A6.out).mono ?_); rintro e w' ⟨rfl, ⟨nd, rfl⟩⟩))
     go_meet
     case rel => exact ⟨_, (true), (by first | rfl | (simp; done) | (simp [*]; done)), H', ⟨by first | omega | exact Nat.le_refl _⟩, by repeat (first | exact Drawn0.refl _ | apply Drawn0.step)⟩
   ·
    replace c5 := Bool.eq_false_iff.mpr c5
    subst c5
    have H1 : (spec_l05One.j0 k l0 true) = some r := by rw [if_neg (show ¬ (false = true) by decide)] at H; exact H
    clear H
    have H := H1
    clear H1
    have H' := Aside0.mk H
    clear H
    have p107 : 0 ≤ (0 : Int) := (by omega)
    have q107 : 0 < (l0.length : Int) := of_decide_eq_true (by first | (with_reducible assumption) | assumption)
    obtain ⟨ad107, A107_5, c107_5, e107, hx107_0, hx107_1, hx107_2, hx107_3, hx107_4, hx107_5, hl107_5, hi107_5⟩ := at_T33 HR0.out 0 p107 q107
    cases e107
    have qi107 : (0 < l0.length) = True := eq_true (by omega)
    (try rw [show ((0 : Int)).toNat = 0 from rfl] at hx107_0)
    (try rw [show 0 * 6 = 0 from rfl] at hx107_0)
    (try rw [Addr.add_zero'] at hx107_0)
    (try rw [show ((0 : Int)).toNat = 0 from rfl] at hx107_1)
    (try rw [show 0 * 6 = 0 from rfl] at hx107_1)
    (try rw [Addr.add_zero'] at hx107_1)
    (try rw [show ((0 : Int)).toNat = 0 from rfl] at hx107_2)
    (try rw [show 0 * 6 = 0 from rfl] at hx107_2)
    (try rw [Addr.add_zero'] at hx107_2)
    (try rw [show ((0 : Int)).toNat = 0 from rfl] at hx107_3)
    (try rw [show 0 * 6 = 0 from rfl] at hx107_3)
    (try rw [Addr.add_zero'] at hx107_3)
    (try rw [show ((0 : Int)).toNat = 0 from rfl] at hx107_4)
    (try rw [show 0 * 6 = 0 from rfl] at hx107_4)
    (try rw [Addr.add_zero'] at hx107_4)
    (try rw [show ((0 : Int)).toNat = 0 from rfl] at hx107_5)
    (try rw [show 0 * 6 = 0 from rfl] at hx107_5)
    (try rw [Addr.add_zero'] at hx107_5)
    have HR107_5 := Aside0.mk hi107_5
    have HC107_5 := Aside0.mk hl107_5
    clear hi107_5 hl107_5
    replace p107 := eq_true p107
    replace q107 := eq_true q107
    go_wp2_with (first | ((with_reducible refine gate_callee (f := 103) rfl ?_); refine goesL_ (some 8) rfl rfl Tryd.func103 (by kernel_rfl) rfl #[.string ((rd_T33 l0 0).f0)] rfl (by (try simp only [List.map_toArray, List.map_cons, List.map_nil]); first | done | rfl | (simp only [List.length_drop, List.length_take]; rfl)) ?_; (with_reducible refine (spec_l01Name.calls k ((rd_T33 l0 0).f0) false _ A4.out).mono ?_); rintro e w' ⟨rfl, ⟨nd, rfl⟩⟩; refine ⟨_, rfl, ?_⟩))
    go_meet
    case rel => exact ⟨_, (true), (by first | rfl | (simp; done) | (simp [*]; done)), H', ⟨by first | omega | exact Nat.le_refl _⟩, by repeat (first | exact Drawn0.refl _ | apply Drawn0.step)⟩
  ·
   rw [if_neg c3] at H
   exact absurd H (by simp)
 case rest =>
  clear HC2
  try clear c1
  try clear p1
  try clear q1
  try clear hx1
  try clear qi1
  try clear p2
  try clear c3
  try clear c5
  try clear c7
  try clear c9
  try clear c10
  try clear p10
  try clear q10
  try clear hx10
  try clear qi10
  try clear c11
  try clear p11
  try clear q11
  try clear hx11
  try clear qi11
  try clear c13
  try clear hx107_0
  try clear hx107_1
  try clear hx107_2
  try clear hx107_3
  try clear hx107_4
  try clear hx107_5
  try clear hx109_0
  try clear hx109_1
  try clear hx109_2
  try clear hx109_3
  try clear hx109_4
  try clear hx109_5
  try clear hx111_0
  try clear hx111_1
  try clear hx111_2
  try clear hx111_3
  try clear hx111_4
  try clear hx111_5
  try clear hx113_0
  try clear hx113_1
  try clear hx113_2
  try clear hx113_3
  try clear hx113_4
  try clear hx113_5
  try clear hx115_0
  try clear hx115_1
  try clear hx115_2
  try clear hx115_3
  try clear hx115_4
  try clear hx115_5
  try clear hx117_0
  try clear hx117_1
  try clear hx117_2
  try clear hx117_3
  try clear hx117_4
  try clear hx117_5
  try clear p107
  try clear p109
  try clear p111
  try clear p113
  try clear p115
  try clear p117
  try clear q107
  try clear q109
  try clear q111
  try clear q113
  try clear q115
  try clear q117
  obtain ⟨kq, x49_1, rfl, HA, HJ1, ⟨mc1, rfl⟩⟩ := hcut
  cases kq with
  | zero => exact absurd HA.out (by simp [spec_l05One.j0])
  | succ kj1 =>
   have H := HA.out
   clear HA
   simp only [spec_l05One.j0] at H
   by_cases c14 : x49_1 = true
   ·
    subst c14
    have H1 : (some false) = some r := by rw [if_pos rfl] at H; exact H
    clear H
    have H := H1
    clear H1
    obtain rfl := Option.some.inj H
    go_wp2
    go_ret
    exact ⟨by first | rfl | (simp; done) | (simp [*]; done), by repeat (first | exact Drawn0.refl _ | apply Drawn0.step)⟩
   ·
    replace c14 := Bool.eq_false_iff.mpr c14
    subst c14
    have H1 : (spec_l05One.l0 kj1 l0 0) = some r := by rw [if_neg (show ¬ (false = true) by decide)] at H; exact H
    clear H
    have H := H1
    clear H1
    have H' := Aside0.mk H
    clear H
    go_wp2
    go_loopg [3] kj1 (fun kq v3 w' => ∃ (x3_2 : Int), v3 = .int .i64 x3_2 ∧ Aside0 (spec_l05One.l0 kq l0 x3_2 = some r) ∧ Aside0 (kq ≤ kj1) ∧ Drawn0 w w')
    case atStart => exact ⟨(0), (by first | rfl | (simp; done) | (simp [*]; done)), H', ⟨Nat.le_refl _⟩, by repeat (first | exact Drawn0.refl _ | apply Drawn0.step)⟩
    case round =>
     clear H'
     try clear c1
     try clear p1
     try clear q1
     try clear hx1
     try clear qi1
     try clear p2
     try clear c3
     try clear c5
     try clear c7
     try clear c9
     try clear c10
     try clear p10
     try clear q10
     try clear hx10
     try clear qi10
     try clear c11
     try clear p11
     try clear q11
     try clear hx11
     try clear qi11
     try clear c13
     try clear c14
     try clear hx107_0
     try clear hx107_1
     try clear hx107_2
     try clear hx107_3
     try clear hx107_4
     try clear hx107_5
     try clear hx109_0
     try clear hx109_1
     try clear hx109_2
     try clear hx109_3
     try clear hx109_4
     try clear hx109_5
     try clear hx111_0
     try clear hx111_1
     try clear hx111_2
     try clear hx111_3
     try clear hx111_4
     try clear hx111_5
     try clear hx113_0
     try clear hx113_1
     try clear hx113_2
     try clear hx113_3
     try clear hx113_4
     try clear hx113_5
     try clear hx115_0
     try clear hx115_1
     try clear hx115_2
     try clear hx115_3
     try clear hx115_4
     try clear hx115_5
     try clear hx117_0
     try clear hx117_1
     try clear hx117_2
     try clear hx117_3
     try clear hx117_4
     try clear hx117_5
     try clear p1
     try clear p10
     try clear p107
     try clear p109
     try clear p11
     try clear p111
     try clear p113
     try clear p115
     try clear p117
     try clear p2
     try clear q1
     try clear q10
     try clear q107
     try clear q109
     try clear q11
     try clear q111
     try clear q113
     try clear q115
     try clear q117
     obtain ⟨x3_2, rfl, HA, HK2, ⟨m2, rfl⟩⟩ := hrel
     cases gk with
     | zero => exact absurd HA.out (by simp [spec_l05One.l0])
     | succ k2 =>
      have H := HA.out
      clear HA
      simp only [spec_l05One.l0] at H
      by_cases c15 : 0 < (l0.length : Int)
      ·
       rw [if_pos c15] at H
       have c15b0 : decide (0 < (l0.length : Int)) = true := decide_eq_true c15
       have c15b1 : decide (0 < l0.length) = true := decide_eq_true (by omega)
       clear c15
       by_cases c16 : x3_2 < (((rd_T33 l0 0).f5).length : Int)
       ·
        rw [if_pos c16] at H
        have c16b0 : decide (x3_2 < (((rd_T33 l0 0).f5).length : Int)) = true := decide_eq_true c16
        clear c16
        by_cases c17 : 0 ≤ x3_2
        ·
         rw [if_pos c17] at H
         have c17b0 : decide (0 ≤ x3_2) = true := decide_eq_true c17
         clear c17
         replace H := Option.bind_eq_some_iff.mp H
         obtain ⟨t121, A180, H⟩ := H
         replace H : (if t121 = true then (spec_l05One.l0 k2 l0 (wrap64 (x3_2 + 1))) else (some false)) = some r := H
         have A18 := Aside0.mk A180
         clear A180
         by_cases c19 : t121 = true
         ·
          subst c19
          have H1 : (spec_l05One.l0 k2 l0 (wrap64 (x3_2 + 1))) = some r := by rw [if_pos rfl] at H; exact H
          clear H
          have H := H1
          clear H1
          have H' := Aside0.mk H
          clear H
          have p118 : 0 ≤ (0 : Int) := (by omega)
          have q118 : 0 < (l0.length : Int) := of_decide_eq_true (by first | (with_reducible assumption) | assumption)
          obtain ⟨ad118, A118_5, c118_5, e118, hx118_0, hx118_1, hx118_2, hx118_3, hx118_4, hx118_5, hl118_5, hi118_5⟩ := at_T33 HR0.out 0 p118 q118
          cases e118
          have qi118 : (0 < l0.length) = True := eq_true (by omega)
          (try rw [show ((0 : Int)).toNat = 0 from rfl] at hx118_0)
          (try rw [show 0 * 6 = 0 from rfl] at hx118_0)
          (try rw [Addr.add_zero'] at hx118_0)
          (try rw [show ((0 : Int)).toNat = 0 from rfl] at hx118_1)
          (try rw [show 0 * 6 = 0 from rfl] at hx118_1)
          (try rw [Addr.add_zero'] at hx118_1)
          (try rw [show ((0 : Int)).toNat = 0 from rfl] at hx118_2)
          (try rw [show 0 * 6 = 0 from rfl] at hx118_2)
          (try rw [Addr.add_zero'] at hx118_2)
          (try rw [show ((0 : Int)).toNat = 0 from rfl] at hx118_3)
          (try rw [show 0 * 6 = 0 from rfl] at hx118_3)
          (try rw [Addr.add_zero'] at hx118_3)
          (try rw [show ((0 : Int)).toNat = 0 from rfl] at hx118_4)
          (try rw [show 0 * 6 = 0 from rfl] at hx118_4)
          (try rw [Addr.add_zero'] at hx118_4)
          (try rw [show ((0 : Int)).toNat = 0 from rfl] at hx118_5)
          (try rw [show 0 * 6 = 0 from rfl] at hx118_5)
          (try rw [Addr.add_zero'] at hx118_5)
          have HR118_5 := Aside0.mk hi118_5
          have HC118_5 := Aside0.mk hl118_5
          clear hi118_5 hl118_5
          replace p118 := eq_true p118
          replace q118 := eq_true q118
          have p119 : 0 ≤ (0 : Int) := (by omega)
          have q119 : 0 < (l0.length : Int) := of_decide_eq_true (by first | (with_reducible assumption) | assumption)
          obtain ⟨ad119, A119_5, c119_5, e119, hx119_0, hx119_1, hx119_2, hx119_3, hx119_4, hx119_5, hl119_5, hi119_5⟩ := at_T33 HR0.out 0 p119 q119
          obtain rfl : ad118 = ad119 := (by injection e119)
          have qi119 : (0 < l0.length) = True := eq_true (by omega)
          (try rw [show ((0 : Int)).toNat = 0 from rfl] at hx119_0)
          (try rw [show 0 * 6 = 0 from rfl] at hx119_0)
          (try rw [Addr.add_zero'] at hx119_0)
          (try rw [show ((0 : Int)).toNat = 0 from rfl] at hx119_1)
          (try rw [show 0 * 6 = 0 from rfl] at hx119_1)
          (try rw [Addr.add_zero'] at hx119_1)
          (try rw [show ((0 : Int)).toNat = 0 from rfl] at hx119_2)
          (try rw [show 0 * 6 = 0 from rfl] at hx119_2)
          (try rw [Addr.add_zero'] at hx119_2)
          (try rw [show ((0 : Int)).toNat = 0 from rfl] at hx119_3)
          (try rw [show 0 * 6 = 0 from rfl] at hx119_3)
          (try rw [Addr.add_zero'] at hx119_3)
          (try rw [show ((0 : Int)).toNat = 0 from rfl] at hx119_4)
          (try rw [show 0 * 6 = 0 from rfl] at hx119_4)
          (try rw [Addr.add_zero'] at hx119_4)
          (try rw [show ((0 : Int)).toNat = 0 from rfl] at hx119_5)
          (try rw [show 0 * 6 = 0 from rfl] at hx119_5)
          (try rw [Addr.add_zero'] at hx119_5)
          have HR119_5 := Aside0.mk hi119_5
          have HC119_5 := Aside0.mk hl119_5
          clear hi119_5 hl119_5
          replace p119 := eq_true p119
          replace q119 := eq_true q119
          have ea_ := Option.some.inj (hx118_5.symm.trans hx119_5)
          injection ea_ with ea_ en_ ec_
          (try subst ea_)
          (try subst ec_)
          clear en_
          have p120 : 0 ≤ (x3_2 : Int) := of_decide_eq_true (by first | (with_reducible assumption) | assumption)
          have q120 : x3_2 < (((rd_T33 l0 0).f5).length : Int) := of_decide_eq_true (by first | (with_reducible assumption) | assumption)
          obtain ⟨ad120, e120, hx120_0⟩ := Kd.at_int HR119_5.out x3_2 p120 q120
          cases e120
          replace p120 := eq_true p120
          replace q120 := eq_true q120
          go_wp2_with (first | ((with_reducible refine gate_callee (f := 104) rfl ?_); refine goesL_ (some 66) rfl rfl Tryd.func104 (by kernel_rfl) rfl #[.int .i64 (rd ((rd_T33 l0 0).f5) x3_2), .int .i64 0, .int .i64 3000] rfl (by (try simp only [List.map_toArray, List.map_cons, List.map_nil]); first | done | rfl | (simp only [List.length_drop, List.length_take]; rfl)) ?_; (with_reducible refine (spec_l00In.calls (rd ((rd_T33 l0 0).f5) x3_2) 0 3000 true _ A18.out).mono ?_); rintro e w' ⟨rfl, ⟨nd, rfl⟩⟩; refine ⟨_, rfl, ?_⟩))
          go_roundg k2
          case measure => have := HJ1.out; have := HK2.out; omega
          case rel => exact ⟨(wrap64 (x3_2 + 1)), (by first | rfl | (simp; done) | (simp [*]; done)), H', ⟨by have := HJ1.out; have := HK2.out; omega⟩, by repeat (first | exact Drawn0.refl _ | apply Drawn0.step)⟩
         ·
          replace c19 := Bool.eq_false_iff.mpr c19
          subst c19
          have H1 : (some false) = some r := by rw [if_neg (show ¬ (false = true) by decide)] at H; exact H
          clear H
          have H := H1
          clear H1
          obtain rfl := Option.some.inj H
          have p118 : 0 ≤ (0 : Int) := (by omega)
          have q118 : 0 < (l0.length : Int) := of_decide_eq_true (by first | (with_reducible assumption) | assumption)
          obtain ⟨ad118, A118_5, c118_5, e118, hx118_0, hx118_1, hx118_2, hx118_3, hx118_4, hx118_5, hl118_5, hi118_5⟩ := at_T33 HR0.out 0 p118 q118
          cases e118
          have qi118 : (0 < l0.length) = True := eq_true (by omega)
          (try rw [show ((0 : Int)).toNat = 0 from rfl] at hx118_0)
          (try rw [show 0 * 6 = 0 from rfl] at hx118_0)
          (try rw [Addr.add_zero'] at hx118_0)
          (try rw [show ((0 : Int)).toNat = 0 from rfl] at hx118_1)
          (try rw [show 0 * 6 = 0 from rfl] at hx118_1)
          (try rw [Addr.add_zero'] at hx118_1)
          (try rw [show ((0 : Int)).toNat = 0 from rfl] at hx118_2)
          (try rw [show 0 * 6 = 0 from rfl] at hx118_2)
          (try rw [Addr.add_zero'] at hx118_2)
          (try rw [show ((0 : Int)).toNat = 0 from rfl] at hx118_3)
          (try rw [show 0 * 6 = 0 from rfl] at hx118_3)
          (try rw [Addr.add_zero'] at hx118_3)
          (try rw [show ((0 : Int)).toNat = 0 from rfl] at hx118_4)
          (try rw [show 0 * 6 = 0 from rfl] at hx118_4)
          (try rw [Addr.add_zero'] at hx118_4)
          (try rw [show ((0 : Int)).toNat = 0 from rfl] at hx118_5)
          (try rw [show 0 * 6 = 0 from rfl] at hx118_5)
          (try rw [Addr.add_zero'] at hx118_5)
          have HR118_5 := Aside0.mk hi118_5
          have HC118_5 := Aside0.mk hl118_5
          clear hi118_5 hl118_5
          replace p118 := eq_true p118
          replace q118 := eq_true q118
          have p119 : 0 ≤ (0 : Int) := (by omega)
          have q119 : 0 < (l0.length : Int) := of_decide_eq_true (by first | (with_reducible assumption) | assumption)
          obtain ⟨ad119, A119_5, c119_5, e119, hx119_0, hx119_1, hx119_2, hx119_3, hx119_4, hx119_5, hl119_5, hi119_5⟩ := at_T33 HR0.out 0 p119 q119
          obtain rfl : ad118 = ad119 := (by injection e119)
          have qi119 : (0 < l0.length) = True := eq_true (by omega)
          (try rw [show ((0 : Int)).toNat = 0 from rfl] at hx119_0)
          (try rw [show 0 * 6 = 0 from rfl] at hx119_0)
          (try rw [Addr.add_zero'] at hx119_0)
          (try rw [show ((0 : Int)).toNat = 0 from rfl] at hx119_1)
          (try rw [show 0 * 6 = 0 from rfl] at hx119_1)
          (try rw [Addr.add_zero'] at hx119_1)
          (try rw [show ((0 : Int)).toNat = 0 from rfl] at hx119_2)
          (try rw [show 0 * 6 = 0 from rfl] at hx119_2)
          (try rw [Addr.add_zero'] at hx119_2)
          (try rw [show ((0 : Int)).toNat = 0 from rfl] at hx119_3)
          (try rw [show 0 * 6 = 0 from rfl] at hx119_3)
          (try rw [Addr.add_zero'] at hx119_3)
          (try rw [show ((0 : Int)).toNat = 0 from rfl] at hx119_4)
          (try rw [show 0 * 6 = 0 from rfl] at hx119_4)
          (try rw [Addr.add_zero'] at hx119_4)
          (try rw [show ((0 : Int)).toNat = 0 from rfl] at hx119_5)
          (try rw [show 0 * 6 = 0 from rfl] at hx119_5)
          (try rw [Addr.add_zero'] at hx119_5)
          have HR119_5 := Aside0.mk hi119_5
          have HC119_5 := Aside0.mk hl119_5
          clear hi119_5 hl119_5
          replace p119 := eq_true p119
          replace q119 := eq_true q119
          have ea_ := Option.some.inj (hx118_5.symm.trans hx119_5)
          injection ea_ with ea_ en_ ec_
          (try subst ea_)
          (try subst ec_)
          clear en_
          have p120 : 0 ≤ (x3_2 : Int) := of_decide_eq_true (by first | (with_reducible assumption) | assumption)
          have q120 : x3_2 < (((rd_T33 l0 0).f5).length : Int) := of_decide_eq_true (by first | (with_reducible assumption) | assumption)
          obtain ⟨ad120, e120, hx120_0⟩ := Kd.at_int HR119_5.out x3_2 p120 q120
          cases e120
          replace p120 := eq_true p120
          replace q120 := eq_true q120
          go_wp2_with (first | ((with_reducible refine gate_callee (f := 104) rfl ?_); refine goesL_ (some 66) rfl rfl Tryd.func104 (by kernel_rfl) rfl #[.int .i64 (rd ((rd_T33 l0 0).f5) x3_2), .int .i64 0, .int .i64 3000] rfl (by (try simp only [List.map_toArray, List.map_cons, List.map_nil]); first | done | rfl | (simp only [List.length_drop, List.length_take]; rfl)) ?_; (with_reducible refine (spec_l00In.calls (rd ((rd_T33 l0 0).f5) x3_2) 0 3000 false _ A18.out).mono ?_); rintro e w' ⟨rfl, ⟨nd, rfl⟩⟩; refine ⟨_, rfl, ?_⟩))
          go_ret
          exact ⟨by first | rfl | (simp; done) | (simp [*]; done), by repeat (first | exact Drawn0.refl _ | apply Drawn0.step)⟩
        ·
         rw [if_neg c17] at H
         exact absurd H (by simp)
       ·
        rw [if_neg c16] at H
        have c16b0 : decide (x3_2 < (((rd_T33 l0 0).f5).length : Int)) = false := decide_eq_false c16
        clear c16
        obtain rfl := Option.some.inj H
        have p118 : 0 ≤ (0 : Int) := (by omega)
        have q118 : 0 < (l0.length : Int) := of_decide_eq_true (by first | (with_reducible assumption) | assumption)
        obtain ⟨ad118, A118_5, c118_5, e118, hx118_0, hx118_1, hx118_2, hx118_3, hx118_4, hx118_5, hl118_5, hi118_5⟩ := at_T33 HR0.out 0 p118 q118
        cases e118
        have qi118 : (0 < l0.length) = True := eq_true (by omega)
        (try rw [show ((0 : Int)).toNat = 0 from rfl] at hx118_0)
        (try rw [show 0 * 6 = 0 from rfl] at hx118_0)
        (try rw [Addr.add_zero'] at hx118_0)
        (try rw [show ((0 : Int)).toNat = 0 from rfl] at hx118_1)
        (try rw [show 0 * 6 = 0 from rfl] at hx118_1)
        (try rw [Addr.add_zero'] at hx118_1)
        (try rw [show ((0 : Int)).toNat = 0 from rfl] at hx118_2)
        (try rw [show 0 * 6 = 0 from rfl] at hx118_2)
        (try rw [Addr.add_zero'] at hx118_2)
        (try rw [show ((0 : Int)).toNat = 0 from rfl] at hx118_3)
        (try rw [show 0 * 6 = 0 from rfl] at hx118_3)
        (try rw [Addr.add_zero'] at hx118_3)
        (try rw [show ((0 : Int)).toNat = 0 from rfl] at hx118_4)
        (try rw [show 0 * 6 = 0 from rfl] at hx118_4)
        (try rw [Addr.add_zero'] at hx118_4)
        (try rw [show ((0 : Int)).toNat = 0 from rfl] at hx118_5)
        (try rw [show 0 * 6 = 0 from rfl] at hx118_5)
        (try rw [Addr.add_zero'] at hx118_5)
        have HR118_5 := Aside0.mk hi118_5
        have HC118_5 := Aside0.mk hl118_5
        clear hi118_5 hl118_5
        replace p118 := eq_true p118
        replace q118 := eq_true q118
        go_wp2
        go_ret
        exact ⟨by first | rfl | (simp; done) | (simp [*]; done), by repeat (first | exact Drawn0.refl _ | apply Drawn0.step)⟩
      ·
       rw [if_neg c15] at H
       exact absurd H (by simp)

end Go.Proofs.YtdbocilpcknlhaaDoor.PFnExactBuildingText
