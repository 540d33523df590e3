-- PRINTED by print.py (a twelfth state) out of the translation. Not trusted: Lean checks it.
import Derived.Test.YtgkmfgkkmahmoaaDoorPFnExactReadBuildingx0
import Derived.Test.YtgkmfgkkmahmoaaDoorPFnExactReadBuildingx1
import Derived.Test.YtgkmfgkkmahmoaaDoorPFnExactReadBuildingx2
namespace Go.Proofs.YtgkmfgkkmahmoaaDoor.PFnExactReadBuilding
open Go.RowKit Go.Proofs.YtgkmfgkkmahmoaaDoorW.PrintWords Go.Proofs.YtgkmfgkkmahmoaaDoorW.PrintLast Go.Proofs.YtgkmfgkkmahmoaaDoorW.PrintMore
attribute [local go_sem] max2_int min2_int max_two min_two max_three min_three max_four min_four   -- for this text's walks alone
set_option linter.unusedVariables false
set_option linter.unusedSimpArgs false

/-! ### spec_l05One: function 75 -/
mutual
def spec_l05One.j0 : Nat → List (S51) → Bool → Option (Bool)
 | 0, _, _ => none
 | k + 1, x0, x49 => if x49 = true then (some false) else (spec_l05One.l0 k x0 0)
def spec_l05One.l0 : Nat → List (S51) → Int → Option (Bool)
 | 0, _, _ => none
 | k + 1, x0, x3 => if 0 < (x0.length : Int) then (if x3 < (((rd_T51 x0 0).f5).length : Int) then (if 0 ≤ x3 then ((spec_l00In.f (rd ((rd_T51 x0 0).f5) x3) 0 3000).bind fun t145 => (if t145 = true then (spec_l05One.l0 k x0 (wrap64 (x3 + 1))) else (some false))) else (none)) else (some true)) else (none)
end
def spec_l05One.f (k : Nat) (l0 : List (S51)) : Option (Bool) := if 0 < (l0.length : Int) then ((spec_l01Name.f k ((rd_T51 l0 0).f0)).bind fun t132 => (if t132 = true then ((spec_l00In.f ((rd_T51 l0 0).f1) 0 15).bind fun t134 => (if t134 = true then ((spec_l00In.f ((rd_T51 l0 0).f2) 0 1000000).bind fun t136 => (if t136 = true then ((spec_l00In.f ((rd_T51 l0 0).f3) 0 100000).bind fun t138 => (if t138 = true then ((spec_l05Outdoor.f ((rd_T51 l0 0).f4)).bind fun t140 => (if t140 = true then (spec_l05One.j0 k l0 ((((rd_T51 l0 0).f5).length : Int) != 24)) else (spec_l05One.j0 k l0 true))) else (spec_l05One.j0 k l0 true))) else (spec_l05One.j0 k l0 true))) else (spec_l05One.j0 k l0 true))) else (spec_l05One.j0 k l0 true))) else (none)
theorem spec_l05One.mono_l : ∀ k, (∀ y0 y1, LeO (spec_l05One.j0 k y0 y1) (spec_l05One.j0 (k + 1) y0 y1)) ∧ (∀ y0 y1, LeO (spec_l05One.l0 k y0 y1) (spec_l05One.l0 (k + 1) y0 y1))
 | 0 => ⟨fun _ _ r h => by simp [spec_l05One.j0] at h, fun _ _ r h => by simp [spec_l05One.l0] at h⟩
 | k + 1 => by
  obtain ⟨ih0, ih1⟩ := spec_l05One.mono_l k
  refine ⟨?_, ?_⟩
  ·
   intro y0 y1
   unfold spec_l05One.j0
   repeat' first
   | (with_reducible exact ih0 _ _)
   | (with_reducible exact ih1 _ _)
   | (with_reducible exact spec_l01Name.mono _ _)
   | (with_reducible exact LeO.refl _)
   | (with_reducible exact LeO.none _)
   | (with_reducible refine LeO.ite ?_ ?_)
   | (with_reducible refine LeO.bind ?_ (fun _ => ?_))
   | exact ih0 _ _
   | exact ih1 _ _
   | exact spec_l01Name.mono _ _
   | exact LeO.none _
   | refine LeO.ite ?_ ?_
   | refine LeO.bind ?_ (fun _ => ?_)
  ·
   intro y0 y1
   unfold spec_l05One.l0
   repeat' first
   | (with_reducible exact ih0 _ _)
   | (with_reducible exact ih1 _ _)
   | (with_reducible exact spec_l01Name.mono _ _)
   | (with_reducible exact LeO.refl _)
   | (with_reducible exact LeO.none _)
   | (with_reducible refine LeO.ite ?_ ?_)
   | (with_reducible refine LeO.bind ?_ (fun _ => ?_))
   | exact ih0 _ _
   | exact ih1 _ _
   | exact spec_l01Name.mono _ _
   | exact LeO.none _
   | refine LeO.ite ?_ ?_
   | refine LeO.bind ?_ (fun _ => ?_)
theorem spec_l05One.mono : ∀ a0 k, LeO (spec_l05One.f k a0) (spec_l05One.f (k + 1) a0) := by
 intro a0 k
 obtain ⟨ih0, ih1⟩ := spec_l05One.mono_l k
 unfold spec_l05One.f
 repeat' first
   | (with_reducible exact ih0 _ _)
   | (with_reducible exact ih1 _ _)
   | (with_reducible exact spec_l01Name.mono _ _)
   | (with_reducible exact LeO.refl _)
   | (with_reducible exact LeO.none _)
   | (with_reducible refine LeO.ite ?_ ?_)
   | (with_reducible refine LeO.bind ?_ (fun _ => ?_))
   | exact ih0 _ _
   | exact ih1 _ _
   | exact spec_l01Name.mono _ _
   | exact LeO.none _
   | refine LeO.ite ?_ ?_
   | refine LeO.bind ?_ (fun _ => ?_)
set_option maxHeartbeats 8000000 in
set_option maxRecDepth 100000 in
theorem spec_l05One.calls (k : Nat) (A0 : Option Addr) (c0 : Nat) (l0 : List (S51)) (r : Bool) (w : World) (hr0 : Kd.C k51 w A0 l0.length l0) (hc0 : l0.length ≤ c0) (h : spec_l05One.f k l0 = some r) :
  Calls Tryd.prog 75 #[.pointer A0] w fun e w' => e = .returned (.bool r) ∧ Drawn0 w w' := by
 have HR0 := Aside0.mk hr0
 have HC0 := Aside0.mk hc0
 clear hr0 hc0
 have H : (if 0 < (l0.length : Int) then ((spec_l01Name.f k ((rd_T51 l0 0).f0)).bind fun t132 => (if t132 = true then ((spec_l00In.f ((rd_T51 l0 0).f1) 0 15).bind fun t134 => (if t134 = true then ((spec_l00In.f ((rd_T51 l0 0).f2) 0 1000000).bind fun t136 => (if t136 = true then ((spec_l00In.f ((rd_T51 l0 0).f3) 0 100000).bind fun t138 => (if t138 = true then ((spec_l05Outdoor.f ((rd_T51 l0 0).f4)).bind fun t140 => (if t140 = true then (spec_l05One.j0 k l0 ((((rd_T51 l0 0).f5).length : Int) != 24)) else (spec_l05One.j0 k l0 true))) else (spec_l05One.j0 k l0 true))) else (spec_l05One.j0 k l0 true))) else (spec_l05One.j0 k l0 true))) else (spec_l05One.j0 k l0 true))) else (none)) = some r := h
 clear h
 have HC2 := Aside0.mk H
 clear H
 go_enter Tryd.func75, Tryd.ntmps75
 go_upto_region 1 with (fail)
 go_cut [49] (fun v49 wc => ∃ (kq : Nat) (x49_1 : Bool), v49 = .bool x49_1 ∧ Aside0 (spec_l05One.j0 kq l0 x49_1 = some r) ∧ Aside0 (kq ≤ k) ∧ Drawn0 w wc)
 case first =>
  have H := HC2.out
  clear HC2
  by_cases c3 : 0 < (l0.length : Int)
  ·
   rw [if_pos c3] at H
   have c3b0 : decide (0 < (l0.length : Int)) = true := decide_eq_true c3
   have c3b1 : decide (0 < l0.length) = true := decide_eq_true (by omega)
   clear c3
   (first | rw [c3b0] | (simp only [i64_w, i32_w]; rw [c3b0]) | skip)
   replace H := Option.bind_eq_some_iff.mp H
   obtain ⟨t132, A40, H⟩ := H
   replace H : (if t132 = true then ((spec_l00In.f ((rd_T51 l0 0).f1) 0 15).bind fun t134 => (if t134 = true then ((spec_l00In.f ((rd_T51 l0 0).f2) 0 1000000).bind fun t136 => (if t136 = true then ((spec_l00In.f ((rd_T51 l0 0).f3) 0 100000).bind fun t138 => (if t138 = true then ((spec_l05Outdoor.f ((rd_T51 l0 0).f4)).bind fun t140 => (if t140 = true then (spec_l05One.j0 k l0 ((((rd_T51 l0 0).f5).length : Int) != 24)) else (spec_l05One.j0 k l0 true))) else (spec_l05One.j0 k l0 true))) else (spec_l05One.j0 k l0 true))) else (spec_l05One.j0 k l0 true))) else (spec_l05One.j0 k l0 true)) = some r := H
   have A4 := Aside0.mk A40
   clear A40
   by_cases c5 : t132 = true
   ·
    subst c5
    have H1 : ((spec_l00In.f ((rd_T51 l0 0).f1) 0 15).bind fun t134 => (if t134 = true then ((spec_l00In.f ((rd_T51 l0 0).f2) 0 1000000).bind fun t136 => (if t136 = true then ((spec_l00In.f ((rd_T51 l0 0).f3) 0 100000).bind fun t138 => (if t138 = true then ((spec_l05Outdoor.f ((rd_T51 l0 0).f4)).bind fun t140 => (if t140 = true then (spec_l05One.j0 k l0 ((((rd_T51 l0 0).f5).length : Int) != 24)) else (spec_l05One.j0 k l0 true))) else (spec_l05One.j0 k l0 true))) else (spec_l05One.j0 k l0 true))) else (spec_l05One.j0 k l0 true))) = some r := by rw [if_pos rfl] at H; exact H
    clear H
    have H := H1
    clear H1
    replace H := Option.bind_eq_some_iff.mp H
    obtain ⟨t134, A60, H⟩ := H
    replace H : (if t134 = true then ((spec_l00In.f ((rd_T51 l0 0).f2) 0 1000000).bind fun t136 => (if t136 = true then ((spec_l00In.f ((rd_T51 l0 0).f3) 0 100000).bind fun t138 => (if t138 = true then ((spec_l05Outdoor.f ((rd_T51 l0 0).f4)).bind fun t140 => (if t140 = true then (spec_l05One.j0 k l0 ((((rd_T51 l0 0).f5).length : Int) != 24)) else (spec_l05One.j0 k l0 true))) else (spec_l05One.j0 k l0 true))) else (spec_l05One.j0 k l0 true))) else (spec_l05One.j0 k l0 true)) = some r := H
    have A6 := Aside0.mk A60
    clear A60
    by_cases c7 : t134 = true
    ·
     subst c7
     have H1 : ((spec_l00In.f ((rd_T51 l0 0).f2) 0 1000000).bind fun t136 => (if t136 = true then ((spec_l00In.f ((rd_T51 l0 0).f3) 0 100000).bind fun t138 => (if t138 = true then ((spec_l05Outdoor.f ((rd_T51 l0 0).f4)).bind fun t140 => (if t140 = true then (spec_l05One.j0 k l0 ((((rd_T51 l0 0).f5).length : Int) != 24)) else (spec_l05One.j0 k l0 true))) else (spec_l05One.j0 k l0 true))) else (spec_l05One.j0 k l0 true))) = some r := by rw [if_pos rfl] at H; exact H
     clear H
     have H := H1
     clear H1
     replace H := Option.bind_eq_some_iff.mp H
     obtain ⟨t136, A80, H⟩ := H
     replace H : (if t136 = true then ((spec_l00In.f ((rd_T51 l0 0).f3) 0 100000).bind fun t138 => (if t138 = true then ((spec_l05Outdoor.f ((rd_T51 l0 0).f4)).bind fun t140 => (if t140 = true then (spec_l05One.j0 k l0 ((((rd_T51 l0 0).f5).length : Int) != 24)) else (spec_l05One.j0 k l0 true))) else (spec_l05One.j0 k l0 true))) else (spec_l05One.j0 k l0 true)) = some r := H
     have A8 := Aside0.mk A80
     clear A80
     by_cases c9 : t136 = true
     ·
      subst c9
      have H1 : ((spec_l00In.f ((rd_T51 l0 0).f3) 0 100000).bind fun t138 => (if t138 = true then ((spec_l05Outdoor.f ((rd_T51 l0 0).f4)).bind fun t140 => (if t140 = true then (spec_l05One.j0 k l0 ((((rd_T51 l0 0).f5).length : Int) != 24)) else (spec_l05One.j0 k l0 true))) else (spec_l05One.j0 k l0 true))) = some r := by rw [if_pos rfl] at H; exact H
      clear H
      have H := H1
      clear H1
      replace H := Option.bind_eq_some_iff.mp H
      obtain ⟨t138, A100, H⟩ := H
      replace H : (if t138 = true then ((spec_l05Outdoor.f ((rd_T51 l0 0).f4)).bind fun t140 => (if t140 = true then (spec_l05One.j0 k l0 ((((rd_T51 l0 0).f5).length : Int) != 24)) else (spec_l05One.j0 k l0 true))) else (spec_l05One.j0 k l0 true)) = some r := H
      have A10 := Aside0.mk A100
      clear A100
      by_cases c11 : t138 = true
      ·
       subst c11
       have H1 : ((spec_l05Outdoor.f ((rd_T51 l0 0).f4)).bind fun t140 => (if t140 = true then (spec_l05One.j0 k l0 ((((rd_T51 l0 0).f5).length : Int) != 24)) else (spec_l05One.j0 k l0 true))) = some r := by rw [if_pos rfl] at H; exact H
       clear H
       have H := H1
       clear H1
       replace H := Option.bind_eq_some_iff.mp H
       obtain ⟨t140, A120, H⟩ := H
       replace H : (if t140 = true then (spec_l05One.j0 k l0 ((((rd_T51 l0 0).f5).length : Int) != 24)) else (spec_l05One.j0 k l0 true)) = some r := H
       have A12 := Aside0.mk A120
       clear A120
       by_cases c13 : t140 = true
       ·
        subst c13
        have H1 : (spec_l05One.j0 k l0 ((((rd_T51 l0 0).f5).length : Int) != 24)) = some r := by rw [if_pos rfl] at H; exact H
        clear H
        have H := H1
        clear H1
        have H' := Aside0.mk H
        clear H
        have p131 : 0 ≤ (0 : Int) := (by omega)
        have q131 : 0 < (l0.length : Int) := of_decide_eq_true (by first | (with_reducible assumption) | assumption)
        obtain ⟨ad131, A131_5, c131_5, e131, hx131_0, hx131_1, hx131_2, hx131_3, hx131_4, hx131_5, hl131_5, hi131_5⟩ := at_T51 HR0.out 0 p131 q131
        cases e131
        have qi131 : (0 < l0.length) = True := eq_true (by omega)
        (try rw [show ((0 : Int)).toNat = 0 from rfl] at hx131_0)
        (try rw [show 0 * 6 = 0 from rfl] at hx131_0)
        (try rw [Addr.add_zero'] at hx131_0)
        (try rw [show ((0 : Int)).toNat = 0 from rfl] at hx131_1)
        (try rw [show 0 * 6 = 0 from rfl] at hx131_1)
        (try rw [Addr.add_zero'] at hx131_1)
        (try rw [show ((0 : Int)).toNat = 0 from rfl] at hx131_2)
        (try rw [show 0 * 6 = 0 from rfl] at hx131_2)
        (try rw [Addr.add_zero'] at hx131_2)
        (try rw [show ((0 : Int)).toNat = 0 from rfl] at hx131_3)
        (try rw [show 0 * 6 = 0 from rfl] at hx131_3)
        (try rw [Addr.add_zero'] at hx131_3)
        (try rw [show ((0 : Int)).toNat = 0 from rfl] at hx131_4)
        (try rw [show 0 * 6 = 0 from rfl] at hx131_4)
        (try rw [Addr.add_zero'] at hx131_4)
        (try rw [show ((0 : Int)).toNat = 0 from rfl] at hx131_5)
        (try rw [show 0 * 6 = 0 from rfl] at hx131_5)
        (try rw [Addr.add_zero'] at hx131_5)
        have HR131_5 := Aside0.mk hi131_5
        have HC131_5 := Aside0.mk hl131_5
        clear hi131_5 hl131_5
        replace p131 := eq_true p131
        replace q131 := eq_true q131
        have p133 : 0 ≤ (0 : Int) := (by omega)
        have q133 : 0 < (l0.length : Int) := of_decide_eq_true (by first | (with_reducible assumption) | assumption)
        obtain ⟨ad133, A133_5, c133_5, e133, hx133_0, hx133_1, hx133_2, hx133_3, hx133_4, hx133_5, hl133_5, hi133_5⟩ := at_T51 HR0.out 0 p133 q133
        obtain rfl : ad131 = ad133 := (by injection e133)
        have qi133 : (0 < l0.length) = True := eq_true (by omega)
        (try rw [show ((0 : Int)).toNat = 0 from rfl] at hx133_0)
        (try rw [show 0 * 6 = 0 from rfl] at hx133_0)
        (try rw [Addr.add_zero'] at hx133_0)
        (try rw [show ((0 : Int)).toNat = 0 from rfl] at hx133_1)
        (try rw [show 0 * 6 = 0 from rfl] at hx133_1)
        (try rw [Addr.add_zero'] at hx133_1)
        (try rw [show ((0 : Int)).toNat = 0 from rfl] at hx133_2)
        (try rw [show 0 * 6 = 0 from rfl] at hx133_2)
        (try rw [Addr.add_zero'] at hx133_2)
        (try rw [show ((0 : Int)).toNat = 0 from rfl] at hx133_3)
        (try rw [show 0 * 6 = 0 from rfl] at hx133_3)
        (try rw [Addr.add_zero'] at hx133_3)
        (try rw [show ((0 : Int)).toNat = 0 from rfl] at hx133_4)
        (try rw [show 0 * 6 = 0 from rfl] at hx133_4)
        (try rw [Addr.add_zero'] at hx133_4)
        (try rw [show ((0 : Int)).toNat = 0 from rfl] at hx133_5)
        (try rw [show 0 * 6 = 0 from rfl] at hx133_5)
        (try rw [Addr.add_zero'] at hx133_5)
        have HR133_5 := Aside0.mk hi133_5
        have HC133_5 := Aside0.mk hl133_5
        clear hi133_5 hl133_5
        replace p133 := eq_true p133
        replace q133 := eq_true q133
        have ea_ := Option.some.inj (hx131_5.symm.trans hx133_5)
        injection ea_ with ea_ en_ ec_
        (try subst ea_)
        (try subst ec_)
        clear en_
        have p135 : 0 ≤ (0 : Int) := (by omega)
        have q135 : 0 < (l0.length : Int) := of_decide_eq_true (by first | (with_reducible assumption) | assumption)
        obtain ⟨ad135, A135_5, c135_5, e135, hx135_0, hx135_1, hx135_2, hx135_3, hx135_4, hx135_5, hl135_5, hi135_5⟩ := at_T51 HR0.out 0 p135 q135
        obtain rfl : ad131 = ad135 := (by injection e135)
        have qi135 : (0 < l0.length) = True := eq_true (by omega)
        (try rw [show ((0 : Int)).toNat = 0 from rfl] at hx135_0)
        (try rw [show 0 * 6 = 0 from rfl] at hx135_0)
        (try rw [Addr.add_zero'] at hx135_0)
        (try rw [show ((0 : Int)).toNat = 0 from rfl] at hx135_1)
        (try rw [show 0 * 6 = 0 from rfl] at hx135_1)
        (try rw [Addr.add_zero'] at hx135_1)
        (try rw [show ((0 : Int)).toNat = 0 from rfl] at hx135_2)
        (try rw [show 0 * 6 = 0 from rfl] at hx135_2)
        (try rw [Addr.add_zero'] at hx135_2)
        (try rw [show ((0 : Int)).toNat = 0 from rfl] at hx135_3)
        (try rw [show 0 * 6 = 0 from rfl] at hx135_3)
        (try rw [Addr.add_zero'] at hx135_3)
        (try rw [show ((0 : Int)).toNat = 0 from rfl] at hx135_4)
        (try rw [show 0 * 6 = 0 from rfl] at hx135_4)
        (try rw [Addr.add_zero'] at hx135_4)
        (try rw [show ((0 : Int)).toNat = 0 from rfl] at hx135_5)
        (try rw [show 0 * 6 = 0 from rfl] at hx135_5)
        (try rw [Addr.add_zero'] at hx135_5)
        have HR135_5 := Aside0.mk hi135_5
        have HC135_5 := Aside0.mk hl135_5
        clear hi135_5 hl135_5
        replace p135 := eq_true p135
        replace q135 := eq_true q135
        have ea_ := Option.some.inj (hx131_5.symm.trans hx135_5)
        injection ea_ with ea_ en_ ec_
        (try subst ea_)
        (try subst ec_)
        clear en_
        have p137 : 0 ≤ (0 : Int) := (by omega)
        have q137 : 0 < (l0.length : Int) := of_decide_eq_true (by first | (with_reducible assumption) | assumption)
        obtain ⟨ad137, A137_5, c137_5, e137, hx137_0, hx137_1, hx137_2, hx137_3, hx137_4, hx137_5, hl137_5, hi137_5⟩ := at_T51 HR0.out 0 p137 q137
        obtain rfl : ad131 = ad137 := (by injection e137)
        have qi137 : (0 < l0.length) = True := eq_true (by omega)
        (try rw [show ((0 : Int)).toNat = 0 from rfl] at hx137_0)
        (try rw [show 0 * 6 = 0 from rfl] at hx137_0)
        (try rw [Addr.add_zero'] at hx137_0)
        (try rw [show ((0 : Int)).toNat = 0 from rfl] at hx137_1)
        (try rw [show 0 * 6 = 0 from rfl] at hx137_1)
        (try rw [Addr.add_zero'] at hx137_1)
        (try rw [show ((0 : Int)).toNat = 0 from rfl] at hx137_2)
        (try rw [show 0 * 6 = 0 from rfl] at hx137_2)
        (try rw [Addr.add_zero'] at hx137_2)
        (try rw [show ((0 : Int)).toNat = 0 from rfl] at hx137_3)
        (try rw [show 0 * 6 = 0 from rfl] at hx137_3)
        (try rw [Addr.add_zero'] at hx137_3)
        (try rw [show ((0 : Int)).toNat = 0 from rfl] at hx137_4)
        (try rw [show 0 * 6 = 0 from rfl] at hx137_4)
        (try rw [Addr.add_zero'] at hx137_4)
        (try rw [show ((0 : Int)).toNat = 0 from rfl] at hx137_5)
        (try rw [show 0 * 6 = 0 from rfl] at hx137_5)
        (try rw [Addr.add_zero'] at hx137_5)
        have HR137_5 := Aside0.mk hi137_5
        have HC137_5 := Aside0.mk hl137_5
        clear hi137_5 hl137_5
        replace p137 := eq_true p137
        replace q137 := eq_true q137
        have ea_ := Option.some.inj (hx131_5.symm.trans hx137_5)
        injection ea_ with ea_ en_ ec_
        (try subst ea_)
        (try subst ec_)
        clear en_
        have p139 : 0 ≤ (0 : Int) := (by omega)
        have q139 : 0 < (l0.length : Int) := of_decide_eq_true (by first | (with_reducible assumption) | assumption)
        obtain ⟨ad139, A139_5, c139_5, e139, hx139_0, hx139_1, hx139_2, hx139_3, hx139_4, hx139_5, hl139_5, hi139_5⟩ := at_T51 HR0.out 0 p139 q139
        obtain rfl : ad131 = ad139 := (by injection e139)
        have qi139 : (0 < l0.length) = True := eq_true (by omega)
        (try rw [show ((0 : Int)).toNat = 0 from rfl] at hx139_0)
        (try rw [show 0 * 6 = 0 from rfl] at hx139_0)
        (try rw [Addr.add_zero'] at hx139_0)
        (try rw [show ((0 : Int)).toNat = 0 from rfl] at hx139_1)
        (try rw [show 0 * 6 = 0 from rfl] at hx139_1)
        (try rw [Addr.add_zero'] at hx139_1)
        (try rw [show ((0 : Int)).toNat = 0 from rfl] at hx139_2)
        (try rw [show 0 * 6 = 0 from rfl] at hx139_2)
        (try rw [Addr.add_zero'] at hx139_2)
        (try rw [show ((0 : Int)).toNat = 0 from rfl] at hx139_3)
        (try rw [show 0 * 6 = 0 from rfl] at hx139_3)
        (try rw [Addr.add_zero'] at hx139_3)
        (try rw [show ((0 : Int)).toNat = 0 from rfl] at hx139_4)
        (try rw [show 0 * 6 = 0 from rfl] at hx139_4)
        (try rw [Addr.add_zero'] at hx139_4)
        (try rw [show ((0 : Int)).toNat = 0 from rfl] at hx139_5)
        (try rw [show 0 * 6 = 0 from rfl] at hx139_5)
        (try rw [Addr.add_zero'] at hx139_5)
        have HR139_5 := Aside0.mk hi139_5
        have HC139_5 := Aside0.mk hl139_5
        clear hi139_5 hl139_5
        replace p139 := eq_true p139
        replace q139 := eq_true q139
        have ea_ := Option.some.inj (hx131_5.symm.trans hx139_5)
        injection ea_ with ea_ en_ ec_
        (try subst ea_)
        (try subst ec_)
        clear en_
        have p141 : 0 ≤ (0 : Int) := (by omega)
        have q141 : 0 < (l0.length : Int) := of_decide_eq_true (by first | (with_reducible assumption) | assumption)
        obtain ⟨ad141, A141_5, c141_5, e141, hx141_0, hx141_1, hx141_2, hx141_3, hx141_4, hx141_5, hl141_5, hi141_5⟩ := at_T51 HR0.out 0 p141 q141
        obtain rfl : ad131 = ad141 := (by injection e141)
        have qi141 : (0 < l0.length) = True := eq_true (by omega)
        (try rw [show ((0 : Int)).toNat = 0 from rfl] at hx141_0)
        (try rw [show 0 * 6 = 0 from rfl] at hx141_0)
        (try rw [Addr.add_zero'] at hx141_0)
        (try rw [show ((0 : Int)).toNat = 0 from rfl] at hx141_1)
        (try rw [show 0 * 6 = 0 from rfl] at hx141_1)
        (try rw [Addr.add_zero'] at hx141_1)
        (try rw [show ((0 : Int)).toNat = 0 from rfl] at hx141_2)
        (try rw [show 0 * 6 = 0 from rfl] at hx141_2)
        (try rw [Addr.add_zero'] at hx141_2)
        (try rw [show ((0 : Int)).toNat = 0 from rfl] at hx141_3)
        (try rw [show 0 * 6 = 0 from rfl] at hx141_3)
        (try rw [Addr.add_zero'] at hx141_3)
        (try rw [show ((0 : Int)).toNat = 0 from rfl] at hx141_4)
        (try rw [show 0 * 6 = 0 from rfl] at hx141_4)
        (try rw [Addr.add_zero'] at hx141_4)
        (try rw [show ((0 : Int)).toNat = 0 from rfl] at hx141_5)
        (try rw [show 0 * 6 = 0 from rfl] at hx141_5)
        (try rw [Addr.add_zero'] at hx141_5)
        have HR141_5 := Aside0.mk hi141_5
        have HC141_5 := Aside0.mk hl141_5
        clear hi141_5 hl141_5
        replace p141 := eq_true p141
        replace q141 := eq_true q141
        have ea_ := Option.some.inj (hx131_5.symm.trans hx141_5)
        injection ea_ with ea_ en_ ec_
        (try subst ea_)
        (try subst ec_)
        clear en_
        go_wp2_with (first | ((with_reducible refine gate_callee (f := 126) rfl ?_); refine goesL_ (some 8) rfl rfl Tryd.func126 (by kernel_rfl) rfl #[.string ((rd_T51 l0 0).f0)] rfl (by (try simp only [List.map_toArray, List.map_cons, List.map_nil]); first | done | rfl | (simp only [List.length_drop, List.length_take]; rfl)) ?_; (with_reducible refine (spec_l01Name.calls k ((rd_T51 l0 0).f0) true _ A4.out).mono ?_); rintro e w' ⟨rfl, ⟨nd, rfl⟩⟩; refine ⟨_, rfl, ?_⟩) | (go_at_call 122; (with_reducible refine (spec_l00In.calls ((rd_T51 l0 0).f1) 0 15 true _ A6.out).mono ?_); rintro e w' ⟨rfl, ⟨nd, rfl⟩⟩) | (go_at_call 122; (with_reducible refine (spec_l00In.calls ((rd_T51 l0 0).f2) 0 1000000 true _ A8.out).mono ?_); rintro e w' ⟨rfl, ⟨nd, rfl⟩⟩) | (go_at_call 122; (with_reducible refine (spec_l00In.calls ((rd_T51 l0 0).f3) 0 100000 true _ A10.out).mono ?_); rintro e w' ⟨rfl, ⟨nd, rfl⟩⟩) | (go_at_call 127; (with_reducible refine (spec_l05Outdoor.calls ((rd_T51 l0 0).f4) true _ A12.out).mono ?_); rintro e w' ⟨rfl, ⟨nd, rfl⟩⟩))
        go_meet
        case rel => exact ⟨_, (((((rd_T51 l0 0).f5).length : Int) != 24)), (by first | rfl | (simp; done) | (simp [*]; done)), H', ⟨by first | omega | exact Nat.le_refl _⟩, by repeat (first | exact Drawn0.refl _ | apply Drawn0.step)⟩
       ·
        replace c13 := Bool.eq_false_iff.mpr c13
        subst c13
        have H1 : (spec_l05One.j0 k l0 true) = some r := by rw [if_neg (show ¬ (false = true) by decide)] at H; exact H
        clear H
        have H := H1
        clear H1
        have H' := Aside0.mk H
        clear H
        have p131 : 0 ≤ (0 : Int) := (by omega)
        have q131 : 0 < (l0.length : Int) := of_decide_eq_true (by first | (with_reducible assumption) | assumption)
        obtain ⟨ad131, A131_5, c131_5, e131, hx131_0, hx131_1, hx131_2, hx131_3, hx131_4, hx131_5, hl131_5, hi131_5⟩ := at_T51 HR0.out 0 p131 q131
        cases e131
        have qi131 : (0 < l0.length) = True := eq_true (by omega)
        (try rw [show ((0 : Int)).toNat = 0 from rfl] at hx131_0)
        (try rw [show 0 * 6 = 0 from rfl] at hx131_0)
        (try rw [Addr.add_zero'] at hx131_0)
        (try rw [show ((0 : Int)).toNat = 0 from rfl] at hx131_1)
        (try rw [show 0 * 6 = 0 from rfl] at hx131_1)
        (try rw [Addr.add_zero'] at hx131_1)
        (try rw [show ((0 : Int)).toNat = 0 from rfl] at hx131_2)
        (try rw [show 0 * 6 = 0 from rfl] at hx131_2)
        (try rw [Addr.add_zero'] at hx131_2)
        (try rw [show ((0 : Int)).toNat = 0 from rfl] at hx131_3)
        (try rw [show 0 * 6 = 0 from rfl] at hx131_3)
        (try rw [Addr.add_zero'] at hx131_3)
        (try rw [show ((0 : Int)).toNat = 0 from rfl] at hx131_4)
        (try rw [show 0 * 6 = 0 from rfl] at hx131_4)
        (try rw [Addr.add_zero'] at hx131_4)
        (try rw [show ((0 : Int)).toNat = 0 from rfl] at hx131_5)
        (try rw [show 0 * 6 = 0 from rfl] at hx131_5)
        (try rw [Addr.add_zero'] at hx131_5)
        have HR131_5 := Aside0.mk hi131_5
        have HC131_5 := Aside0.mk hl131_5
        clear hi131_5 hl131_5
        replace p131 := eq_true p131
        replace q131 := eq_true q131
        have p133 : 0 ≤ (0 : Int) := (by omega)
        have q133 : 0 < (l0.length : Int) := of_decide_eq_true (by first | (with_reducible assumption) | assumption)
        obtain ⟨ad133, A133_5, c133_5, e133, hx133_0, hx133_1, hx133_2, hx133_3, hx133_4, hx133_5, hl133_5, hi133_5⟩ := at_T51 HR0.out 0 p133 q133
        obtain rfl : ad131 = ad133 := (by injection e133)
        have qi133 : (0 < l0.length) = True := eq_true (by omega)
        (try rw [show ((0 : Int)).toNat = 0 from rfl] at hx133_0)
        (try rw [show 0 * 6 = 0 from rfl] at hx133_0)
        (try rw [Addr.add_zero'] at hx133_0)
        (try rw [show ((0 : Int)).toNat = 0 from rfl] at hx133_1)
        (try rw [show 0 * 6 = 0 from rfl] at hx133_1)
        (try rw [Addr.add_zero'] at hx133_1)
        (try rw [show ((0 : Int)).toNat = 0 from rfl] at hx133_2)
        (try rw [show 0 * 6 = 0 from rfl] at hx133_2)
        (try rw [Addr.add_zero'] at hx133_2)
        (try rw [show ((0 : Int)).toNat = 0 from rfl] at hx133_3)
        (try rw [show 0 * 6 = 0 from rfl] at hx133_3)
        (try rw [Addr.add_zero'] at hx133_3)
        (try rw [show ((0 : Int)).toNat = 0 from rfl] at hx133_4)
        (try rw [show 0 * 6 = 0 from rfl] at hx133_4)
        (try rw [Addr.add_zero'] at hx133_4)
        (try rw [show ((0 : Int)).toNat = 0 from rfl] at hx133_5)
        (try rw [show 0 * 6 = 0 from rfl] at hx133_5)
        (try rw [Addr.add_zero'] at hx133_5)
        have HR133_5 := Aside0.mk hi133_5
        have HC133_5 := Aside0.mk hl133_5
        clear hi133_5 hl133_5
        replace p133 := eq_true p133
        replace q133 := eq_true q133
        have ea_ := Option.some.inj (hx131_5.symm.trans hx133_5)
        injection ea_ with ea_ en_ ec_
        (try subst ea_)
        (try subst ec_)
        clear en_
        have p135 : 0 ≤ (0 : Int) := (by omega)
        have q135 : 0 < (l0.length : Int) := of_decide_eq_true (by first | (with_reducible assumption) | assumption)
        obtain ⟨ad135, A135_5, c135_5, e135, hx135_0, hx135_1, hx135_2, hx135_3, hx135_4, hx135_5, hl135_5, hi135_5⟩ := at_T51 HR0.out 0 p135 q135
        obtain rfl : ad131 = ad135 := (by injection e135)
        have qi135 : (0 < l0.length) = True := eq_true (by omega)
        (try rw [show ((0 : Int)).toNat = 0 from rfl] at hx135_0)
        (try rw [show 0 * 6 = 0 from rfl] at hx135_0)
        (try rw [Addr.add_zero'] at hx135_0)
        (try rw [show ((0 : Int)).toNat = 0 from rfl] at hx135_1)
        (try rw [show 0 * 6 = 0 from rfl] at hx135_1)
        (try rw [Addr.add_zero'] at hx135_1)
        (try rw [show ((0 : Int)).toNat = 0 from rfl] at hx135_2)
        (try rw [show 0 * 6 = 0 from rfl] at hx135_2)
        (try rw [Addr.add_zero'] at hx135_2)
        (try rw [show ((0 : Int)).toNat = 0 from rfl] at hx135_3)
        (try rw [show 0 * 6 = 0 from rfl] at hx135_3)
        (try rw [Addr.add_zero'] at hx135_3)
        (try rw [show ((0 : Int)).toNat = 0 from rfl] at hx135_4)
        (try rw [show 0 * 6 = 0 from rfl] at hx135_4)
        (try rw [Addr.add_zero'] at hx135_4)
        (try rw [show ((0 : Int)).toNat = 0 from rfl] at hx135_5)
        (try rw [show 0 * 6 = 0 from rfl] at hx135_5)
        (try rw [Addr.add_zero'] at hx135_5)
        have HR135_5 := Aside0.mk hi135_5
        have HC135_5 := Aside0.mk hl135_5
        clear hi135_5 hl135_5
        replace p135 := eq_true p135
        replace q135 := eq_true q135
        have ea_ := Option.some.inj (hx131_5.symm.trans hx135_5)
        injection ea_ with ea_ en_ ec_
        (try subst ea_)
        (try subst ec_)
        clear en_
        have p137 : 0 ≤ (0 : Int) := (by omega)
        have q137 : 0 < (l0.length : Int) := of_decide_eq_true (by first | (with_reducible assumption) | assumption)
        obtain ⟨ad137, A137_5, c137_5, e137, hx137_0, hx137_1, hx137_2, hx137_3, hx137_4, hx137_5, hl137_5, hi137_5⟩ := at_T51 HR0.out 0 p137 q137
        obtain rfl : ad131 = ad137 := (by injection e137)
        have qi137 : (0 < l0.length) = True := eq_true (by omega)
        (try rw [show ((0 : Int)).toNat = 0 from rfl] at hx137_0)
        (try rw [show 0 * 6 = 0 from rfl] at hx137_0)
        (try rw [Addr.add_zero'] at hx137_0)
        (try rw [show ((0 : Int)).toNat = 0 from rfl] at hx137_1)
        (try rw [show 0 * 6 = 0 from rfl] at hx137_1)
        (try rw [Addr.add_zero'] at hx137_1)
        (try rw [show ((0 : Int)).toNat = 0 from rfl] at hx137_2)
        (try rw [show 0 * 6 = 0 from rfl] at hx137_2)
        (try rw [Addr.add_zero'] at hx137_2)
        (try rw [show ((0 : Int)).toNat = 0 from rfl] at hx137_3)
        (try rw [show 0 * 6 = 0 from rfl] at hx137_3)
        (try rw [Addr.add_zero'] at hx137_3)
        (try rw [show ((0 : Int)).toNat = 0 from rfl] at hx137_4)
        (try rw [show 0 * 6 = 0 from rfl] at hx137_4)
        (try rw [Addr.add_zero'] at hx137_4)
        (try rw [show ((0 : Int)).toNat = 0 from rfl] at hx137_5)
        (try rw [show 0 * 6 = 0 from rfl] at hx137_5)
        (try rw [Addr.add_zero'] at hx137_5)
        have HR137_5 := Aside0.mk hi137_5
        have HC137_5 := Aside0.mk hl137_5
        clear hi137_5 hl137_5
        replace p137 := eq_true p137
        replace q137 := eq_true q137
        have ea_ := Option.some.inj (hx131_5.symm.trans hx137_5)
        injection ea_ with ea_ en_ ec_
        (try subst ea_)
        (try subst ec_)
        clear en_
        have p139 : 0 ≤ (0 : Int) := (by omega)
        have q139 : 0 < (l0.length : Int) := of_decide_eq_true (by first | (with_reducible assumption) | assumption)
        obtain ⟨ad139, A139_5, c139_5, e139, hx139_0, hx139_1, hx139_2, hx139_3, hx139_4, hx139_5, hl139_5, hi139_5⟩ := at_T51 HR0.out 0 p139 q139
        obtain rfl : ad131 = ad139 := (by injection e139)
        have qi139 : (0 < l0.length) = True := eq_true (by omega)
        (try rw [show ((0 : Int)).toNat = 0 from rfl] at hx139_0)
        (try rw [show 0 * 6 = 0 from rfl] at hx139_0)
        (try rw [Addr.add_zero'] at hx139_0)
        (try rw [show ((0 : Int)).toNat = 0 from rfl] at hx139_1)
        (try rw [show 0 * 6 = 0 from rfl] at hx139_1)
        (try rw [Addr.add_zero'] at hx139_1)
        (try rw [show ((0 : Int)).toNat = 0 from rfl] at hx139_2)
        (try rw [show 0 * 6 = 0 from rfl] at hx139_2)
        (try rw [Addr.add_zero'] at hx139_2)
        (try rw [show ((0 : Int)).toNat = 0 from rfl] at hx139_3)
        (try rw [show 0 * 6 = 0 from rfl] at hx139_3)
        (try rw [Addr.add_zero'] at hx139_3)
        (try rw [show ((0 : Int)).toNat = 0 from rfl] at hx139_4)
        (try rw [show 0 * 6 = 0 from rfl] at hx139_4)
        (try rw [Addr.add_zero'] at hx139_4)
        (try rw [show ((0 : Int)).toNat = 0 from rfl] at hx139_5)
        (try rw [show 0 * 6 = 0 from rfl] at hx139_5)
        (try rw [Addr.add_zero'] at hx139_5)
        have HR139_5 := Aside0.mk hi139_5
        have HC139_5 := Aside0.mk hl139_5
        clear hi139_5 hl139_5
        replace p139 := eq_true p139
        replace q139 := eq_true q139
        have ea_ := Option.some.inj (hx131_5.symm.trans hx139_5)
        injection ea_ with ea_ en_ ec_
        (try subst ea_)
        (try subst ec_)
        clear en_
        go_wp2_with (first | ((with_reducible refine gate_callee (f := 126) rfl ?_); refine goesL_ (some 8) rfl rfl Tryd.func126 (by kernel_rfl) rfl #[.string ((rd_T51 l0 0).f0)] rfl (by (try simp only [List.map_toArray, List.map_cons, List.map_nil]); first | done | rfl | (simp only [List.length_drop, List.length_take]; rfl)) ?_; (with_reducible refine (spec_l01Name.calls k ((rd_T51 l0 0).f0) true _ A4.out).mono ?_); rintro e w' ⟨rfl, ⟨nd, rfl⟩⟩; refine ⟨_, rfl, ?_⟩) | (go_at_call 122; (with_reducible refine (spec_l00In.calls ((rd_T51 l0 0).f1) 0 15 true _ A6.out).mono ?_); rintro e w' ⟨rfl, ⟨nd, rfl⟩⟩) | (go_at_call 122; (with_reducible refine (spec_l00In.calls ((rd_T51 l0 0).f2) 0 1000000 true _ A8.out).mono ?_); rintro e w' ⟨rfl, ⟨nd, rfl⟩⟩) | (go_at_call 122; (with_reducible refine (spec_l00In.calls ((rd_T51 l0 0).f3) 0 100000 true _ A10.out).mono ?_); rintro e w' ⟨rfl, ⟨nd, rfl⟩⟩) | (go_at_call 127; (with_reducible refine (spec_l05Outdoor.calls ((rd_T51 l0 0).f4) false _ A12.out).mono ?_); rintro e w' ⟨rfl, ⟨nd, rfl⟩⟩))
        go_meet
        case rel => exact ⟨_, (true), (by first | rfl | (simp; done) | (simp [*]; done)), H', ⟨by first | omega | exact Nat.le_refl _⟩, by repeat (first | exact Drawn0.refl _ | apply Drawn0.step)⟩
      ·
       replace c11 := Bool.eq_false_iff.mpr c11
       subst c11
       have H1 : (spec_l05One.j0 k l0 true) = some r := by rw [if_neg (show ¬ (false = true) by decide)] at H; exact H
       clear H
       have H := H1
       clear H1
       have H' := Aside0.mk H
       clear H
       have p131 : 0 ≤ (0 : Int) := (by omega)
       have q131 : 0 < (l0.length : Int) := of_decide_eq_true (by first | (with_reducible assumption) | assumption)
       obtain ⟨ad131, A131_5, c131_5, e131, hx131_0, hx131_1, hx131_2, hx131_3, hx131_4, hx131_5, hl131_5, hi131_5⟩ := at_T51 HR0.out 0 p131 q131
       cases e131
       have qi131 : (0 < l0.length) = True := eq_true (by omega)
       (try rw [show ((0 : Int)).toNat = 0 from rfl] at hx131_0)
       (try rw [show 0 * 6 = 0 from rfl] at hx131_0)
       (try rw [Addr.add_zero'] at hx131_0)
       (try rw [show ((0 : Int)).toNat = 0 from rfl] at hx131_1)
       (try rw [show 0 * 6 = 0 from rfl] at hx131_1)
       (try rw [Addr.add_zero'] at hx131_1)
       (try rw [show ((0 : Int)).toNat = 0 from rfl] at hx131_2)
       (try rw [show 0 * 6 = 0 from rfl] at hx131_2)
       (try rw [Addr.add_zero'] at hx131_2)
       (try rw [show ((0 : Int)).toNat = 0 from rfl] at hx131_3)
       (try rw [show 0 * 6 = 0 from rfl] at hx131_3)
       (try rw [Addr.add_zero'] at hx131_3)
       (try rw [show ((0 : Int)).toNat = 0 from rfl] at hx131_4)
       (try rw [show 0 * 6 = 0 from rfl] at hx131_4)
       (try rw [Addr.add_zero'] at hx131_4)
       (try rw [show ((0 : Int)).toNat = 0 from rfl] at hx131_5)
       (try rw [show 0 * 6 = 0 from rfl] at hx131_5)
       (try rw [Addr.add_zero'] at hx131_5)
       have HR131_5 := Aside0.mk hi131_5
       have HC131_5 := Aside0.mk hl131_5
       clear hi131_5 hl131_5
       replace p131 := eq_true p131
       replace q131 := eq_true q131
       have p133 : 0 ≤ (0 : Int) := (by omega)
       have q133 : 0 < (l0.length : Int) := of_decide_eq_true (by first | (with_reducible assumption) | assumption)
       obtain ⟨ad133, A133_5, c133_5, e133, hx133_0, hx133_1, hx133_2, hx133_3, hx133_4, hx133_5, hl133_5, hi133_5⟩ := at_T51 HR0.out 0 p133 q133
       obtain rfl : ad131 = ad133 := (by injection e133)
       have qi133 : (0 < l0.length) = True := eq_true (by omega)
       (try rw [show ((0 : Int)).toNat = 0 from rfl] at hx133_0)
       (try rw [show 0 * 6 = 0 from rfl] at hx133_0)
       (try rw [Addr.add_zero'] at hx133_0)
       (try rw [show ((0 : Int)).toNat = 0 from rfl] at hx133_1)
       (try rw [show 0 * 6 = 0 from rfl] at hx133_1)
       (try rw [Addr.add_zero'] at hx133_1)
       (try rw [show ((0 : Int)).toNat = 0 from rfl] at hx133_2)
       (try rw [show 0 * 6 = 0 from rfl] at hx133_2)
       (try rw [Addr.add_zero'] at hx133_2)
       (try rw [show ((0 : Int)).toNat = 0 from rfl] at hx133_3)
       (try rw [show 0 * 6 = 0 from rfl] at hx133_3)
       (try rw [Addr.add_zero'] at hx133_3)
       (try rw [show ((0 : Int)).toNat = 0 from rfl] at hx133_4)
       (try rw [show 0 * 6 = 0 from rfl] at hx133_4)
       (try rw [Addr.add_zero'] at hx133_4)
       (try rw [show ((0 : Int)).toNat = 0 from rfl] at hx133_5)
       (try rw [show 0 * 6 = 0 from rfl] at hx133_5)
       (try rw [Addr.add_zero'] at hx133_5)
       have HR133_5 := Aside0.mk hi133_5
       have HC133_5 := Aside0.mk hl133_5
       clear hi133_5 hl133_5
       replace p133 := eq_true p133
       replace q133 := eq_true q133
       have ea_ := Option.some.inj (hx131_5.symm.trans hx133_5)
       injection ea_ with ea_ en_ ec_
       (try subst ea_)
       (try subst ec_)
       clear en_
       have p135 : 0 ≤ (0 : Int) := (by omega)
       have q135 : 0 < (l0.length : Int) := of_decide_eq_true (by first | (with_reducible assumption) | assumption)
       obtain ⟨ad135, A135_5, c135_5, e135, hx135_0, hx135_1, hx135_2, hx135_3, hx135_4, hx135_5, hl135_5, hi135_5⟩ := at_T51 HR0.out 0 p135 q135
       obtain rfl : ad131 = ad135 := (by injection e135)
       have qi135 : (0 < l0.length) = True := eq_true (by omega)
       (try rw [show ((0 : Int)).toNat = 0 from rfl] at hx135_0)
       (try rw [show 0 * 6 = 0 from rfl] at hx135_0)
       (try rw [Addr.add_zero'] at hx135_0)
       (try rw [show ((0 : Int)).toNat = 0 from rfl] at hx135_1)
       (try rw [show 0 * 6 = 0 from rfl] at hx135_1)
       (try rw [Addr.add_zero'] at hx135_1)
       (try rw [show ((0 : Int)).toNat = 0 from rfl] at hx135_2)
       (try rw [show 0 * 6 = 0 from rfl] at hx135_2)
       (try rw [Addr.add_zero'] at hx135_2)
       (try rw [show ((0 : Int)).toNat = 0 from rfl] at hx135_3)
       (try rw [show 0 * 6 = 0 from rfl] at hx135_3)
       (try rw [Addr.add_zero'] at hx135_3)
       (try rw [show ((0 : Int)).toNat = 0 from rfl] at hx135_4)
       (try rw [show 0 * 6 = 0 from rfl] at hx135_4)
       (try rw [Addr.add_zero'] at hx135_4)
       (try rw [show ((0 : Int)).toNat = 0 from rfl] at hx135_5)
       (try rw [show 0 * 6 = 0 from rfl] at hx135_5)
       (try rw [Addr.add_zero'] at hx135_5)
       have HR135_5 := Aside0.mk hi135_5
       have HC135_5 := Aside0.mk hl135_5
       clear hi135_5 hl135_5
       replace p135 := eq_true p135
       replace q135 := eq_true q135
       have ea_ := Option.some.inj (hx131_5.symm.trans hx135_5)
       injection ea_ with ea_ en_ ec_
       (try subst ea_)
       (try subst ec_)
       clear en_
       have p137 : 0 ≤ (0 : Int) := (by omega)
       have q137 : 0 < (l0.length : Int) := of_decide_eq_true (by first | (with_reducible assumption) | assumption)
       obtain ⟨ad137, A137_5, c137_5, e137, hx137_0, hx137_1, hx137_2, hx137_3, hx137_4, hx137_5, hl137_5, hi137_5⟩ := at_T51 HR0.out 0 p137 q137
       obtain rfl : ad131 = ad137 := (by injection e137)
       have qi137 : (0 < l0.length) = True := eq_true (by omega)
       (try rw [show ((0 : Int)).toNat = 0 from rfl] at hx137_0)
       (try rw [show 0 * 6 = 0 from rfl] at hx137_0)
       (try rw [Addr.add_zero'] at hx137_0)
       (try rw [show ((0 : Int)).toNat = 0 from rfl] at hx137_1)
       (try rw [show 0 * 6 = 0 from rfl] at hx137_1)
       (try rw [Addr.add_zero'] at hx137_1)
       (try rw [show ((0 : Int)).toNat = 0 from rfl] at hx137_2)
       (try rw [show 0 * 6 = 0 from rfl] at hx137_2)
       (try rw [Addr.add_zero'] at hx137_2)
       (try rw [show ((0 : Int)).toNat = 0 from rfl] at hx137_3)
       (try rw [show 0 * 6 = 0 from rfl] at hx137_3)
       (try rw [Addr.add_zero'] at hx137_3)
       (try rw [show ((0 : Int)).toNat = 0 from rfl] at hx137_4)
       (try rw [show 0 * 6 = 0 from rfl] at hx137_4)
       (try rw [Addr.add_zero'] at hx137_4)
       (try rw [show ((0 : Int)).toNat = 0 from rfl] at hx137_5)
       (try rw [show 0 * 6 = 0 from rfl] at hx137_5)
       (try rw [Addr.add_zero'] at hx137_5)
       have HR137_5 := Aside0.mk hi137_5
       have HC137_5 := Aside0.mk hl137_5
       clear hi137_5 hl137_5
       replace p137 := eq_true p137
       replace q137 := eq_true q137
       have ea_ := Option.some.inj (hx131_5.symm.trans hx137_5)
       injection ea_ with ea_ en_ ec_
       (try subst ea_)
       (try subst ec_)
       clear en_
       go_wp2_with (first | ((with_reducible refine gate_callee (f := 126) rfl ?_); refine goesL_ (some 8) rfl rfl Tryd.func126 (by kernel_rfl) rfl #[.string ((rd_T51 l0 0).f0)] rfl (by (try simp only [List.map_toArray, List.map_cons, List.map_nil]); first | done | rfl | (simp only [List.length_drop, List.length_take]; rfl)) ?_; (with_reducible refine (spec_l01Name.calls k ((rd_T51 l0 0).f0) true _ A4.out).mono ?_); rintro e w' ⟨rfl, ⟨nd, rfl⟩⟩; refine ⟨_, rfl, ?_⟩) | (go_at_call 122; (with_reducible refine (spec_l00In.calls ((rd_T51 l0 0).f1) 0 15 true _ A6.out).mono ?_); rintro e w' ⟨rfl, ⟨nd, rfl⟩⟩) | (go_at_call 122; (with_reducible refine (spec_l00In.calls ((rd_T51 l0 0).f2) 0 1000000 true _ A8.out).mono ?_); rintro e w' ⟨rfl, ⟨nd, rfl⟩⟩) | (go_at_call 122; (with_reducible refine (spec_l00In.calls ((rd_T51 l0 0).f3) 0 100000 false _ A10.out).mono ?_); rintro e w' ⟨rfl, ⟨nd, rfl⟩⟩))
       go_meet
       case rel => exact ⟨_, (true), (by first | rfl | (simp; done) | (simp [*]; done)), H', ⟨by first | omega | exact Nat.le_refl _⟩, by repeat (first | exact Drawn0.refl _ | apply Drawn0.step)⟩
     ·
      replace c9 := Bool.eq_false_iff.mpr c9
      subst c9
      have H1 : (spec_l05One.j0 k l0 true) = some r := by rw [if_neg (show ¬ (false = true) by decide)] at H; exact H
      clear H
      have H := H1
      clear H1
      have H' := Aside0.mk H
      clear H
      have p131 : 0 ≤ (0 : Int) := (by omega)
      have q131 : 0 < (l0.length : Int) := of_decide_eq_true (by first | (with_reducible assumption) | assumption)
      obtain ⟨ad131, A131_5, c131_5, e131, hx131_0, hx131_1, hx131_2, hx131_3, hx131_4, hx131_5, hl131_5, hi131_5⟩ := at_T51 HR0.out 0 p131 q131
      cases e131
      have qi131 : (0 < l0.length) = True := eq_true (by omega)
      (try rw [show ((0 : Int)).toNat = 0 from rfl] at hx131_0)
      (try rw [show 0 * 6 = 0 from rfl] at hx131_0)
      (try rw [Addr.add_zero'] at hx131_0)
      (try rw [show ((0 : Int)).toNat = 0 from rfl] at hx131_1)
      (try rw [show 0 * 6 = 0 from rfl] at hx131_1)
      (try rw [Addr.add_zero'] at hx131_1)
      (try rw [show ((0 : Int)).toNat = 0 from rfl] at hx131_2)
      (try rw [show 0 * 6 = 0 from rfl] at hx131_2)
      (try rw [Addr.add_zero'] at hx131_2)
      (try rw [show ((0 : Int)).toNat = 0 from rfl] at hx131_3)
      (try rw [show 0 * 6 = 0 from rfl] at hx131_3)
      (try rw [Addr.add_zero'] at hx131_3)
      (try rw [show ((0 : Int)).toNat = 0 from rfl] at hx131_4)
      (try rw [show 0 * 6 = 0 from rfl] at hx131_4)
      (try rw [Addr.add_zero'] at hx131_4)
      (try rw [show ((0 : Int)).toNat = 0 from rfl] at hx131_5)
      (try rw [show 0 * 6 = 0 from rfl] at hx131_5)
      (try rw [Addr.add_zero'] at hx131_5)
      have HR131_5 := Aside0.mk hi131_5
      have HC131_5 := Aside0.mk hl131_5
      clear hi131_5 hl131_5
      replace p131 := eq_true p131
      replace q131 := eq_true q131
      have p133 : 0 ≤ (0 : Int) := (by omega)
      have q133 : 0 < (l0.length : Int) := of_decide_eq_true (by first | (with_reducible assumption) | assumption)
      obtain ⟨ad133, A133_5, c133_5, e133, hx133_0, hx133_1, hx133_2, hx133_3, hx133_4, hx133_5, hl133_5, hi133_5⟩ := at_T51 HR0.out 0 p133 q133
      obtain rfl : ad131 = ad133 := (by injection e133)
      have qi133 : (0 < l0.length) = True := eq_true (by omega)
      (try rw [show ((0 : Int)).toNat = 0 from rfl] at hx133_0)
      (try rw [show 0 * 6 = 0 from rfl] at hx133_0)
      (try rw [Addr.add_zero'] at hx133_0)
      (try rw [show ((0 : Int)).toNat = 0 from rfl] at hx133_1)
      (try rw [show 0 * 6 = 0 from rfl] at hx133_1)
      (try rw [Addr.add_zero'] at hx133_1)
      (try rw [show ((0 : Int)).toNat = 0 from rfl] at hx133_2)
      (try rw [show 0 * 6 = 0 from rfl] at hx133_2)
      (try rw [Addr.add_zero'] at hx133_2)
      (try rw [show ((0 : Int)).toNat = 0 from rfl] at hx133_3)
      (try rw [show 0 * 6 = 0 from rfl] at hx133_3)
      (try rw [Addr.add_zero'] at hx133_3)
      (try rw [show ((0 : Int)).toNat = 0 from rfl] at hx133_4)
      (try rw [show 0 * 6 = 0 from rfl] at hx133_4)
      (try rw [Addr.add_zero'] at hx133_4)
      (try rw [show ((0 : Int)).toNat = 0 from rfl] at hx133_5)
      (try rw [show 0 * 6 = 0 from rfl] at hx133_5)
      (try rw [Addr.add_zero'] at hx133_5)
      have HR133_5 := Aside0.mk hi133_5
      have HC133_5 := Aside0.mk hl133_5
      clear hi133_5 hl133_5
      replace p133 := eq_true p133
      replace q133 := eq_true q133
      have ea_ := Option.some.inj (hx131_5.symm.trans hx133_5)
      injection ea_ with ea_ en_ ec_
      (try subst ea_)
      (try subst ec_)
      clear en_
      have p135 : 0 ≤ (0 : Int) := (by omega)
      have q135 : 0 < (l0.length : Int) := of_decide_eq_true (by first | (with_reducible assumption) | assumption)
      obtain ⟨ad135, A135_5, c135_5, e135, hx135_0, hx135_1, hx135_2, hx135_3, hx135_4, hx135_5, hl135_5, hi135_5⟩ := at_T51 HR0.out 0 p135 q135
      obtain rfl : ad131 = ad135 := (by injection e135)
      have qi135 : (0 < l0.length) = True := eq_true (by omega)
      (try rw [show ((0 : Int)).toNat = 0 from rfl] at hx135_0)
      (try rw [show 0 * 6 = 0 from rfl] at hx135_0)
      (try rw [Addr.add_zero'] at hx135_0)
      (try rw [show ((0 : Int)).toNat = 0 from rfl] at hx135_1)
      (try rw [show 0 * 6 = 0 from rfl] at hx135_1)
      (try rw [Addr.add_zero'] at hx135_1)
      (try rw [show ((0 : Int)).toNat = 0 from rfl] at hx135_2)
      (try rw [show 0 * 6 = 0 from rfl] at hx135_2)
      (try rw [Addr.add_zero'] at hx135_2)
      (try rw [show ((0 : Int)).toNat = 0 from rfl] at hx135_3)
      (try rw [show 0 * 6 = 0 from rfl] at hx135_3)
      (try rw [Addr.add_zero'] at hx135_3)
      (try rw [show ((0 : Int)).toNat = 0 from rfl] at hx135_4)
      (try rw [show 0 * 6 = 0 from rfl] at hx135_4)
      (try rw [Addr.add_zero'] at hx135_4)
      (try rw [show ((0 : Int)).toNat = 0 from rfl] at hx135_5)
      (try rw [show 0 * 6 = 0 from rfl] at hx135_5)
      (try rw [Addr.add_zero'] at hx135_5)
      have HR135_5 := Aside0.mk hi135_5
      have HC135_5 := Aside0.mk hl135_5
      clear hi135_5 hl135_5
      replace p135 := eq_true p135
      replace q135 := eq_true q135
      have ea_ := Option.some.inj (hx131_5.symm.trans hx135_5)
      injection ea_ with ea_ en_ ec_
      (try subst ea_)
      (try subst ec_)
      clear en_
      go_wp2_with (first | ((with_reducible refine gate_callee (f := 126) rfl ?_); refine goesL_ (some 8) rfl rfl Tryd.func126 (by kernel_rfl) rfl #[.string ((rd_T51 l0 0).f0)] rfl (by (try simp only [List.map_toArray, List.map_cons, List.map_nil]); first | done | rfl | (simp only [List.length_drop, List.length_take]; rfl)) ?_; (with_reducible refine (spec_l01Name.calls k ((rd_T51 l0 0).f0) true _ A4.out).mono ?_); rintro e w' ⟨rfl, ⟨nd, rfl⟩⟩; refine ⟨_, rfl, ?_⟩) | (go_at_call 122; (with_reducible refine (spec_l00In.calls ((rd_T51 l0 0).f1) 0 15 true _ A6.out).mono ?_); rintro e w' ⟨rfl, ⟨nd, rfl⟩⟩) | (go_at_call 122; (with_reducible refine (spec_l00In.calls ((rd_T51 l0 0).f2) 0 1000000 false _ A8.out).mono ?_); rintro e w' ⟨rfl, ⟨nd, rfl⟩⟩))
      go_meet
      case rel => exact ⟨_, (true), (by first | rfl | (simp; done) | (simp [*]; done)), H', ⟨by first | omega | exact Nat.le_refl _⟩, by repeat (first | exact Drawn0.refl _ | apply Drawn0.step)⟩
    ·
     replace c7 := Bool.eq_false_iff.mpr c7
     subst c7
     have H1 : (spec_l05One.j0 k l0 true) = some r := by rw [if_neg (show ¬ (false = true) by decide)] at H; exact H
     clear H
     have H := H1
     clear H1
     have H' := Aside0.mk H
     clear H
     have p131 : 0 ≤ (0 : Int) := (by omega)
     have q131 : 0 < (l0.length : Int) := of_decide_eq_true (by first | (with_reducible assumption) | assumption)
     obtain ⟨ad131, A131_5, c131_5, e131, hx131_0, hx131_1, hx131_2, hx131_3, hx131_4, hx131_5, hl131_5, hi131_5⟩ := at_T51 HR0.out 0 p131 q131
     cases e131
     have qi131 : (0 < l0.length) = True := eq_true (by omega)
     (try rw [show ((0 : Int)).toNat = 0 from rfl] at hx131_0)
     (try rw [show 0 * 6 = 0 from rfl] at hx131_0)
     (try rw [Addr.add_zero'] at hx131_0)
     (try rw [show ((0 : Int)).toNat = 0 from rfl] at hx131_1)
     (try rw [show 0 * 6 = 0 from rfl] at hx131_1)
     (try rw [Addr.add_zero'] at hx131_1)
     (try rw [show ((0 : Int)).toNat = 0 from rfl] at hx131_2)
     (try rw [show 0 * 6 = 0 from rfl] at hx131_2)
     (try rw [Addr.add_zero'] at hx131_2)
     (try rw [show ((0 : Int)).toNat = 0 from rfl] at hx131_3)
     (try rw [show 0 * 6 = 0 from rfl] at hx131_3)
     (try rw [Addr.add_zero'] at hx131_3)
     (try rw [show ((0 : Int)).toNat = 0 from rfl] at hx131_4)
     (try rw [show 0 * 6 = 0 from rfl] at hx131_4)
     (try rw [Addr.add_zero'] at hx131_4)
     (try rw [show ((0 : Int)).toNat = 0 from rfl] at hx131_5)
     (try rw [show 0 * 6 = 0 from rfl] at hx131_5)
     (try rw [Addr.add_zero'] at hx131_5)
     have HR131_5 := Aside0.mk hi131_5
     have HC131_5 := Aside0.mk hl131_5
     clear hi131_5 hl131_5
     replace p131 := eq_true p131
     replace q131 := eq_true q131
     have p133 : 0 ≤ (0 : Int) := (by omega)
     have q133 : 0 < (l0.length : Int) := of_decide_eq_true (by first | (with_reducible assumption) | assumption)
     obtain ⟨ad133, A133_5, c133_5, e133, hx133_0, hx133_1, hx133_2, hx133_3, hx133_4, hx133_5, hl133_5, hi133_5⟩ := at_T51 HR0.out 0 p133 q133
     obtain rfl : ad131 = ad133 := (by injection e133)
     have qi133 : (0 < l0.length) = True := eq_true (by omega)
     (try rw [show ((0 : Int)).toNat = 0 from rfl] at hx133_0)
     (try rw [show 0 * 6 = 0 from rfl] at hx133_0)
     (try rw [Addr.add_zero'] at hx133_0)
     (try rw [show ((0 : Int)).toNat = 0 from rfl] at hx133_1)
     (try rw [show 0 * 6 = 0 from rfl] at hx133_1)
     (try rw [Addr.add_zero'] at hx133_1)
     (try rw [show ((0 : Int)).toNat = 0 from rfl] at hx133_2)
     (try rw [show 0 * 6 = 0 from rfl] at hx133_2)
     (try rw [Addr.add_zero'] at hx133_2)
     (try rw [show ((0 : Int)).toNat = 0 from rfl] at hx133_3)
     (try rw [show 0 * 6 = 0 from rfl] at hx133_3)
     (try rw [Addr.add_zero'] at hx133_3)
     (try rw [show ((0 : Int)).toNat = 0 from rfl] at hx133_4)
     (try rw [show 0 * 6 = 0 from rfl] at hx133_4)
     (try rw [Addr.add_zero'] at hx133_4)
     (try rw [show ((0 : Int)).toNat = 0 from rfl] at hx133_5)
     (try rw [show 0 * 6 = 0 from rfl] at hx133_5)
     (try rw [Addr.add_zero'] at hx133_5)
     have HR133_5 := Aside0.mk hi133_5
     have HC133_5 := Aside0.mk hl133_5
     clear hi133_5 hl133_5
     replace p133 := eq_true p133
     replace q133 := eq_true q133
     have ea_ := Option.some.inj (hx131_5.symm.trans hx133_5)
     injection ea_ with ea_ en_ ec_
     (try subst ea_)
     (try subst ec_)
     clear en_
     go_wp2_with (first | ((with_reducible refine gate_callee (f := 126) rfl ?_); refine goesL_ (some 8) rfl rfl Tryd.func126 (by kernel_rfl) rfl #[.string ((rd_T51 l0 0).f0)] rfl (by (try simp only [List.map_toArray, List.map_cons, List.map_nil]); first | done | rfl | (simp only [List.length_drop, List.length_take]; rfl)) ?_; (with_reducible refine (spec_l01Name.calls k ((rd_T51 l0 0).f0) true _ A4.out).mono ?_); rintro e w' ⟨rfl, ⟨nd, rfl⟩⟩; refine ⟨_, rfl, ?_⟩) | (go_at_call 122; (with_reducible refine (spec_l00In.calls ((rd_T51 l0 0).f1) 0 15 false _ A6.out).mono ?_); rintro e w' ⟨rfl, ⟨nd, rfl⟩⟩))
     go_meet
     case rel => exact ⟨_, (true), (by first | rfl | (simp; done) | (simp [*]; done)), H', ⟨by first | omega | exact Nat.le_refl _⟩, by repeat (first | exact Drawn0.refl _ | apply Drawn0.step)⟩
   ·
    replace c5 := Bool.eq_false_iff.mpr c5
    subst c5
    have H1 : (spec_l05One.j0 k l0 true) = some r := by rw [if_neg (show ¬ (false = true) by decide)] at H; exact H
    clear H
    have H := H1
    clear H1
    have H' := Aside0.mk H
    clear H
    have p131 : 0 ≤ (0 : Int) := (by omega)
    have q131 : 0 < (l0.length : Int) := of_decide_eq_true (by first | (with_reducible assumption) | assumption)
    obtain ⟨ad131, A131_5, c131_5, e131, hx131_0, hx131_1, hx131_2, hx131_3, hx131_4, hx131_5, hl131_5, hi131_5⟩ := at_T51 HR0.out 0 p131 q131
    cases e131
    have qi131 : (0 < l0.length) = True := eq_true (by omega)
    (try rw [show ((0 : Int)).toNat = 0 from rfl] at hx131_0)
    (try rw [show 0 * 6 = 0 from rfl] at hx131_0)
    (try rw [Addr.add_zero'] at hx131_0)
    (try rw [show ((0 : Int)).toNat = 0 from rfl] at hx131_1)
    (try rw [show 0 * 6 = 0 from rfl] at hx131_1)
    (try rw [Addr.add_zero'] at hx131_1)
    (try rw [show ((0 : Int)).toNat = 0 from rfl] at hx131_2)
    (try rw [show 0 * 6 = 0 from rfl] at hx131_2)
    (try rw [Addr.add_zero'] at hx131_2)
    (try rw [show ((0 : Int)).toNat = 0 from rfl] at hx131_3)
    (try rw [show 0 * 6 = 0 from rfl] at hx131_3)
    (try rw [Addr.add_zero'] at hx131_3)
    (try rw [show ((0 : Int)).toNat = 0 from rfl] at hx131_4)
    (try rw [show 0 * 6 = 0 from rfl] at hx131_4)
    (try rw [Addr.add_zero'] at hx131_4)
    (try rw [show ((0 : Int)).toNat = 0 from rfl] at hx131_5)
    (try rw [show 0 * 6 = 0 from rfl] at hx131_5)
    (try rw [Addr.add_zero'] at hx131_5)
    have HR131_5 := Aside0.mk hi131_5
    have HC131_5 := Aside0.mk hl131_5
    clear hi131_5 hl131_5
    replace p131 := eq_true p131
    replace q131 := eq_true q131
    go_wp2_with (first | ((with_reducible refine gate_callee (f := 126) rfl ?_); refine goesL_ (some 8) rfl rfl Tryd.func126 (by kernel_rfl) rfl #[.string ((rd_T51 l0 0).f0)] rfl (by (try simp only [List.map_toArray, List.map_cons, List.map_nil]); first | done | rfl | (simp only [List.length_drop, List.length_take]; rfl)) ?_; (with_reducible refine (spec_l01Name.calls k ((rd_T51 l0 0).f0) false _ A4.out).mono ?_); rintro e w' ⟨rfl, ⟨nd, rfl⟩⟩; refine ⟨_, rfl, ?_⟩))
    go_meet
    case rel => exact ⟨_, (true), (by first | rfl | (simp; done) | (simp [*]; done)), H', ⟨by first | omega | exact Nat.le_refl _⟩, by repeat (first | exact Drawn0.refl _ | apply Drawn0.step)⟩
  ·
   rw [if_neg c3] at H
   exact absurd H (by simp)
 case rest =>
  clear HC2
  try clear c1
  try clear p1
  try clear q1
  try clear hx1
  try clear qi1
  try clear p2
  try clear c3
  try clear c5
  try clear c7
  try clear c9
  try clear c11
  try clear c12
  try clear c13
  try clear p13
  try clear q13
  try clear hx13
  try clear qi13
  try clear hx131_0
  try clear hx131_1
  try clear hx131_2
  try clear hx131_3
  try clear hx131_4
  try clear hx131_5
  try clear hx133_0
  try clear hx133_1
  try clear hx133_2
  try clear hx133_3
  try clear hx133_4
  try clear hx133_5
  try clear hx135_0
  try clear hx135_1
  try clear hx135_2
  try clear hx135_3
  try clear hx135_4
  try clear hx135_5
  try clear hx137_0
  try clear hx137_1
  try clear hx137_2
  try clear hx137_3
  try clear hx137_4
  try clear hx137_5
  try clear hx139_0
  try clear hx139_1
  try clear hx139_2
  try clear hx139_3
  try clear hx139_4
  try clear hx139_5
  try clear hx141_0
  try clear hx141_1
  try clear hx141_2
  try clear hx141_3
  try clear hx141_4
  try clear hx141_5
  try clear p131
  try clear p133
  try clear p135
  try clear p137
  try clear p139
  try clear p141
  try clear q131
  try clear q133
  try clear q135
  try clear q137
  try clear q139
  try clear q141
  obtain ⟨kq, x49_1, rfl, HA, HJ1, ⟨mc1, rfl⟩⟩ := hcut
  cases kq with
  | zero => exact absurd HA.out (by simp [spec_l05One.j0])
  | succ kj1 =>
   have H := HA.out
   clear HA
   simp only [spec_l05One.j0] at H
   by_cases c14 : x49_1 = true
   ·
    subst c14
    have H1 : (some false) = some r := by rw [if_pos rfl] at H; exact H
    clear H
    have H := H1
    clear H1
    obtain rfl := Option.some.inj H
    go_wp2
    go_ret
    exact ⟨by first | rfl | (simp; done) | (simp [*]; done), by repeat (first | exact Drawn0.refl _ | apply Drawn0.step)⟩
   ·
    replace c14 := Bool.eq_false_iff.mpr c14
    subst c14
    have H1 : (spec_l05One.l0 kj1 l0 0) = some r := by rw [if_neg (show ¬ (false = true) by decide)] at H; exact H
    clear H
    have H := H1
    clear H1
    have H' := Aside0.mk H
    clear H
    go_wp2
    go_loopg [3] kj1 (fun kq v3 w' => ∃ (x3_2 : Int), v3 = .int .i64 x3_2 ∧ Aside0 (spec_l05One.l0 kq l0 x3_2 = some r) ∧ Aside0 (kq ≤ kj1) ∧ Drawn0 w w')
    case atStart => exact ⟨(0), (by first | rfl | (simp; done) | (simp [*]; done)), H', ⟨Nat.le_refl _⟩, by repeat (first | exact Drawn0.refl _ | apply Drawn0.step)⟩
    case round =>
     clear H'
     try clear c1
     try clear p1
     try clear q1
     try clear hx1
     try clear qi1
     try clear p2
     try clear c3
     try clear c5
     try clear c7
     try clear c9
     try clear c11
     try clear c12
     try clear c13
     try clear p13
     try clear q13
     try clear hx13
     try clear qi13
     try clear c14
     try clear p14
     try clear q14
     try clear hx14
     try clear hx131_0
     try clear hx131_1
     try clear hx131_2
     try clear hx131_3
     try clear hx131_4
     try clear hx131_5
     try clear hx133_0
     try clear hx133_1
     try clear hx133_2
     try clear hx133_3
     try clear hx133_4
     try clear hx133_5
     try clear hx135_0
     try clear hx135_1
     try clear hx135_2
     try clear hx135_3
     try clear hx135_4
     try clear hx135_5
     try clear hx137_0
     try clear hx137_1
     try clear hx137_2
     try clear hx137_3
     try clear hx137_4
     try clear hx137_5
     try clear hx139_0
     try clear hx139_1
     try clear hx139_2
     try clear hx139_3
     try clear hx139_4
     try clear hx139_5
     try clear hx141_0
     try clear hx141_1
     try clear hx141_2
     try clear hx141_3
     try clear hx141_4
     try clear hx141_5
     try clear p1
     try clear p13
     try clear p131
     try clear p133
     try clear p135
     try clear p137
     try clear p139
     try clear p141
     try clear p2
     try clear q1
     try clear q13
     try clear q131
     try clear q133
     try clear q135
     try clear q137
     try clear q139
     try clear q141
     obtain ⟨x3_2, rfl, HA, HK2, ⟨m2, rfl⟩⟩ := hrel
     cases gk with
     | zero => exact absurd HA.out (by simp [spec_l05One.l0])
     | succ k2 =>
      have H := HA.out
      clear HA
      simp only [spec_l05One.l0] at H
      by_cases c15 : 0 < (l0.length : Int)
      ·
       rw [if_pos c15] at H
       have c15b0 : decide (0 < (l0.length : Int)) = true := decide_eq_true c15
       have c15b1 : decide (0 < l0.length) = true := decide_eq_true (by omega)
       clear c15
       by_cases c16 : x3_2 < (((rd_T51 l0 0).f5).length : Int)
       ·
        rw [if_pos c16] at H
        have c16b0 : decide (x3_2 < (((rd_T51 l0 0).f5).length : Int)) = true := decide_eq_true c16
        clear c16
        by_cases c17 : 0 ≤ x3_2
        ·
         rw [if_pos c17] at H
         have c17b0 : decide (0 ≤ x3_2) = true := decide_eq_true c17
         clear c17
         replace H := Option.bind_eq_some_iff.mp H
         obtain ⟨t145, A180, H⟩ := H
         replace H : (if t145 = true then (spec_l05One.l0 k2 l0 (wrap64 (x3_2 + 1))) else (some false)) = some r := H
         have A18 := Aside0.mk A180
         clear A180
         by_cases c19 : t145 = true
         ·
          subst c19
          have H1 : (spec_l05One.l0 k2 l0 (wrap64 (x3_2 + 1))) = some r := by rw [if_pos rfl] at H; exact H
          clear H
          have H := H1
          clear H1
          have H' := Aside0.mk H
          clear H
          have p142 : 0 ≤ (0 : Int) := (by omega)
          have q142 : 0 < (l0.length : Int) := of_decide_eq_true (by first | (with_reducible assumption) | assumption)
          obtain ⟨ad142, A142_5, c142_5, e142, hx142_0, hx142_1, hx142_2, hx142_3, hx142_4, hx142_5, hl142_5, hi142_5⟩ := at_T51 HR0.out 0 p142 q142
          cases e142
          have qi142 : (0 < l0.length) = True := eq_true (by omega)
          (try rw [show ((0 : Int)).toNat = 0 from rfl] at hx142_0)
          (try rw [show 0 * 6 = 0 from rfl] at hx142_0)
          (try rw [Addr.add_zero'] at hx142_0)
          (try rw [show ((0 : Int)).toNat = 0 from rfl] at hx142_1)
          (try rw [show 0 * 6 = 0 from rfl] at hx142_1)
          (try rw [Addr.add_zero'] at hx142_1)
          (try rw [show ((0 : Int)).toNat = 0 from rfl] at hx142_2)
          (try rw [show 0 * 6 = 0 from rfl] at hx142_2)
          (try rw [Addr.add_zero'] at hx142_2)
          (try rw [show ((0 : Int)).toNat = 0 from rfl] at hx142_3)
          (try rw [show 0 * 6 = 0 from rfl] at hx142_3)
          (try rw [Addr.add_zero'] at hx142_3)
          (try rw [show ((0 : Int)).toNat = 0 from rfl] at hx142_4)
          (try rw [show 0 * 6 = 0 from rfl] at hx142_4)
          (try rw [Addr.add_zero'] at hx142_4)
          (try rw [show ((0 : Int)).toNat = 0 from rfl] at hx142_5)
          (try rw [show 0 * 6 = 0 from rfl] at hx142_5)
          (try rw [Addr.add_zero'] at hx142_5)
          have HR142_5 := Aside0.mk hi142_5
          have HC142_5 := Aside0.mk hl142_5
          clear hi142_5 hl142_5
          replace p142 := eq_true p142
          replace q142 := eq_true q142
          have p143 : 0 ≤ (0 : Int) := (by omega)
          have q143 : 0 < (l0.length : Int) := of_decide_eq_true (by first | (with_reducible assumption) | assumption)
          obtain ⟨ad143, A143_5, c143_5, e143, hx143_0, hx143_1, hx143_2, hx143_3, hx143_4, hx143_5, hl143_5, hi143_5⟩ := at_T51 HR0.out 0 p143 q143
          obtain rfl : ad142 = ad143 := (by injection e143)
          have qi143 : (0 < l0.length) = True := eq_true (by omega)
          (try rw [show ((0 : Int)).toNat = 0 from rfl] at hx143_0)
          (try rw [show 0 * 6 = 0 from rfl] at hx143_0)
          (try rw [Addr.add_zero'] at hx143_0)
          (try rw [show ((0 : Int)).toNat = 0 from rfl] at hx143_1)
          (try rw [show 0 * 6 = 0 from rfl] at hx143_1)
          (try rw [Addr.add_zero'] at hx143_1)
          (try rw [show ((0 : Int)).toNat = 0 from rfl] at hx143_2)
          (try rw [show 0 * 6 = 0 from rfl] at hx143_2)
          (try rw [Addr.add_zero'] at hx143_2)
          (try rw [show ((0 : Int)).toNat = 0 from rfl] at hx143_3)
          (try rw [show 0 * 6 = 0 from rfl] at hx143_3)
          (try rw [Addr.add_zero'] at hx143_3)
          (try rw [show ((0 : Int)).toNat = 0 from rfl] at hx143_4)
          (try rw [show 0 * 6 = 0 from rfl] at hx143_4)
          (try rw [Addr.add_zero'] at hx143_4)
          (try rw [show ((0 : Int)).toNat = 0 from rfl] at hx143_5)
          (try rw [show 0 * 6 = 0 from rfl] at hx143_5)
          (try rw [Addr.add_zero'] at hx143_5)
          have HR143_5 := Aside0.mk hi143_5
          have HC143_5 := Aside0.mk hl143_5
          clear hi143_5 hl143_5
          replace p143 := eq_true p143
          replace q143 := eq_true q143
          have ea_ := Option.some.inj (hx142_5.symm.trans hx143_5)
          injection ea_ with ea_ en_ ec_
          (try subst ea_)
          (try subst ec_)
          clear en_
          have p144 : 0 ≤ (x3_2 : Int) := of_decide_eq_true (by first | (with_reducible assumption) | assumption)
          have q144 : x3_2 < (((rd_T51 l0 0).f5).length : Int) := of_decide_eq_true (by first | (with_reducible assumption) | assumption)
          obtain ⟨ad144, e144, hx144_0⟩ := Kd.at_int HR143_5.out x3_2 p144 q144
          cases e144
          replace p144 := eq_true p144
          replace q144 := eq_true q144
          go_wp2_with (first | ((with_reducible refine gate_callee (f := 122) rfl ?_); refine goesL_ (some 66) rfl rfl Tryd.func122 (by kernel_rfl) rfl #[.int .i64 (rd ((rd_T51 l0 0).f5) x3_2), .int .i64 0, .int .i64 3000] rfl (by (try simp only [List.map_toArray, List.map_cons, List.map_nil]); first | done | rfl | (simp only [List.length_drop, List.length_take]; rfl)) ?_; (with_reducible refine (spec_l00In.calls (rd ((rd_T51 l0 0).f5) x3_2) 0 3000 true _ A18.out).mono ?_); rintro e w' ⟨rfl, ⟨nd, rfl⟩⟩; refine ⟨_, rfl, ?_⟩))
          go_roundg k2
          case measure => have := HJ1.out; have := HK2.out; omega
          case rel => exact ⟨(wrap64 (x3_2 + 1)), (by first | rfl | (simp; done) | (simp [*]; done)), H', ⟨by have := HJ1.out; have := HK2.out; omega⟩, by repeat (first | exact Drawn0.refl _ | apply Drawn0.step)⟩
         ·
          replace c19 := Bool.eq_false_iff.mpr c19
          subst c19
          have H1 : (some false) = some r := by rw [if_neg (show ¬ (false = true) by decide)] at H; exact H
          clear H
          have H := H1
          clear H1
          obtain rfl := Option.some.inj H
          have p142 : 0 ≤ (0 : Int) := (by omega)
          have q142 : 0 < (l0.length : Int) := of_decide_eq_true (by first | (with_reducible assumption) | assumption)
          obtain ⟨ad142, A142_5, c142_5, e142, hx142_0, hx142_1, hx142_2, hx142_3, hx142_4, hx142_5, hl142_5, hi142_5⟩ := at_T51 HR0.out 0 p142 q142
          cases e142
          have qi142 : (0 < l0.length) = True := eq_true (by omega)
          (try rw [show ((0 : Int)).toNat = 0 from rfl] at hx142_0)
          (try rw [show 0 * 6 = 0 from rfl] at hx142_0)
          (try rw [Addr.add_zero'] at hx142_0)
          (try rw [show ((0 : Int)).toNat = 0 from rfl] at hx142_1)
          (try rw [show 0 * 6 = 0 from rfl] at hx142_1)
          (try rw [Addr.add_zero'] at hx142_1)
          (try rw [show ((0 : Int)).toNat = 0 from rfl] at hx142_2)
          (try rw [show 0 * 6 = 0 from rfl] at hx142_2)
          (try rw [Addr.add_zero'] at hx142_2)
          (try rw [show ((0 : Int)).toNat = 0 from rfl] at hx142_3)
          (try rw [show 0 * 6 = 0 from rfl] at hx142_3)
          (try rw [Addr.add_zero'] at hx142_3)
          (try rw [show ((0 : Int)).toNat = 0 from rfl] at hx142_4)
          (try rw [show 0 * 6 = 0 from rfl] at hx142_4)
          (try rw [Addr.add_zero'] at hx142_4)
          (try rw [show ((0 : Int)).toNat = 0 from rfl] at hx142_5)
          (try rw [show 0 * 6 = 0 from rfl] at hx142_5)
          (try rw [Addr.add_zero'] at hx142_5)
          have HR142_5 := Aside0.mk hi142_5
          have HC142_5 := Aside0.mk hl142_5
          clear hi142_5 hl142_5
          replace p142 := eq_true p142
          replace q142 := eq_true q142
          have p143 : 0 ≤ (0 : Int) := (by omega)
          have q143 : 0 < (l0.length : Int) := of_decide_eq_true (by first | (with_reducible assumption) | assumption)
          obtain ⟨ad143, A143_5, c143_5, e143, hx143_0, hx143_1, hx143_2, hx143_3, hx143_4, hx143_5, hl143_5, hi143_5⟩ := at_T51 HR0.out 0 p143 q143
          obtain rfl : ad142 = ad143 := (by injection e143)
          have qi143 : (0 < l0.length) = True := eq_true (by omega)
          (try rw [show ((0 : Int)).toNat = 0 from rfl] at hx143_0)
          (try rw [show 0 * 6 = 0 from rfl] at hx143_0)
          (try rw [Addr.add_zero'] at hx143_0)
          (try rw [show ((0 : Int)).toNat = 0 from rfl] at hx143_1)
          (try rw [show 0 * 6 = 0 from rfl] at hx143_1)
          (try rw [Addr.add_zero'] at hx143_1)
          (try rw [show ((0 : Int)).toNat = 0 from rfl] at hx143_2)
          (try rw [show 0 * 6 = 0 from rfl] at hx143_2)
          (try rw [Addr.add_zero'] at hx143_2)
          (try rw [show ((0 : Int)).toNat = 0 from rfl] at hx143_3)
          (try rw [show 0 * 6 = 0 from rfl] at hx143_3)
          (try rw [Addr.add_zero'] at hx143_3)
          (try rw [show ((0 : Int)).toNat = 0 from rfl] at hx143_4)
          (try rw [show 0 * 6 = 0 from rfl] at hx143_4)
          (try rw [Addr.add_zero'] at hx143_4)
          (try rw [show ((0 : Int)).toNat = 0 from rfl] at hx143_5)
          (try rw [show 0 * 6 = 0 from rfl] at hx143_5)
          (try rw [Addr.add_zero'] at hx143_5)
          have HR143_5 := Aside0.mk hi143_5
          have HC143_5 := Aside0.mk hl143_5
          clear hi143_5 hl143_5
          replace p143 := eq_true p143
          replace q143 := eq_true q143
          have ea_ := Option.some.inj (hx142_5.symm.trans hx143_5)
          injection ea_ with ea_ en_ ec_
          (try subst ea_)
          (try subst ec_)
          clear en_
          have p144 : 0 ≤ (x3_2 : Int) := of_decide_eq_true (by first | (with_reducible assumption) | assumption)
          have q144 : x3_2 < (((rd_T51 l0 0).f5).length : Int) := of_decide_eq_true (by first | (with_reducible assumption) | assumption)
          obtain ⟨ad144, e144, hx144_0⟩ := Kd.at_int HR143_5.out x3_2 p144 q144
          cases e144
          replace p144 := eq_true p144
          replace q144 := eq_true q144
          go_wp2_with (first | ((with_reducible refine gate_callee (f := 122) rfl ?_); refine goesL_ (some 66) rfl rfl Tryd.func122 (by kernel_rfl) rfl #[.int .i64 (rd ((rd_T51 l0 0).f5) x3_2), .int .i64 0, .int .i64 3000] rfl (by (try simp only [List.map_toArray, List.map_cons, List.map_nil]); first | done | rfl | (simp only [List.length_drop, List.length_take]; rfl)) ?_; (with_reducible refine (spec_l00In.calls (rd ((rd_T51 l0 0).f5) x3_2) 0 3000 false _ A18.out).mono ?_); rintro e w' ⟨rfl, ⟨nd, rfl⟩⟩; refine ⟨_, rfl, ?_⟩))
          go_ret
          exact ⟨by first | rfl | (simp; done) | (simp [*]; done), by repeat (first | exact Drawn0.refl _ | apply Drawn0.step)⟩
        ·
         rw [if_neg c17] at H
         exact absurd H (by simp)
       ·
        rw [if_neg c16] at H
        have c16b0 : decide (x3_2 < (((rd_T51 l0 0).f5).length : Int)) = false := decide_eq_false c16
        clear c16
        obtain rfl := Option.some.inj H
        have p142 : 0 ≤ (0 : Int) := (by omega)
        have q142 : 0 < (l0.length : Int) := of_decide_eq_true (by first | (with_reducible assumption) | assumption)
        obtain ⟨ad142, A142_5, c142_5, e142, hx142_0, hx142_1, hx142_2, hx142_3, hx142_4, hx142_5, hl142_5, hi142_5⟩ := at_T51 HR0.out 0 p142 q142
        cases e142
        have qi142 : (0 < l0.length) = True := eq_true (by omega)
        (try rw [show ((0 : Int)).toNat = 0 from rfl] at hx142_0)
        (try rw [show 0 * 6 = 0 from rfl] at hx142_0)
        (try rw [Addr.add_zero'] at hx142_0)
        (try rw [show ((0 : Int)).toNat = 0 from rfl] at hx142_1)
        (try rw [show 0 * 6 = 0 from rfl] at hx142_1)
        (try rw [Addr.add_zero'] at hx142_1)
        (try rw [show ((0 : Int)).toNat = 0 from rfl] at hx142_2)
        (try rw [show 0 * 6 = 0 from rfl] at hx142_2)
        (try rw [Addr.add_zero'] at hx142_2)
        (try rw [show ((0 : Int)).toNat = 0 from rfl] at hx142_3)
        (try rw [show 0 * 6 = 0 from rfl] at hx142_3)
        (try rw [Addr.add_zero'] at hx142_3)
        (try rw [show ((0 : Int)).toNat = 0 from rfl] at hx142_4)
        (try rw [show 0 * 6 = 0 from rfl] at hx142_4)
        (try rw [Addr.add_zero'] at hx142_4)
        (try rw [show ((0 : Int)).toNat = 0 from rfl] at hx142_5)
        (try rw [show 0 * 6 = 0 from rfl] at hx142_5)
        (try rw [Addr.add_zero'] at hx142_5)
        have HR142_5 := Aside0.mk hi142_5
        have HC142_5 := Aside0.mk hl142_5
        clear hi142_5 hl142_5
        replace p142 := eq_true p142
        replace q142 := eq_true q142
        go_wp2
        go_ret
        exact ⟨by first | rfl | (simp; done) | (simp [*]; done), by repeat (first | exact Drawn0.refl _ | apply Drawn0.step)⟩
      ·
       rw [if_neg c15] at H
       exact absurd H (by simp)

end Go.Proofs.YtgkmfgkkmahmoaaDoor.PFnExactReadBuilding
