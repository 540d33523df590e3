-- PRINTED by print.py (a twelfth state) out of the translation. Not trusted: Lean checks it.
import Derived.Test.YtffmkjnjopflnaaPFnExactBestGangsx0
import Derived.Test.YtffmkjnjopflnaaPFnExactBestGangsx6
namespace Go.Proofs.Ytffmkjnjopflnaa.PFnExactBestGangs
open Go.RowKit Go.Proofs.YtffmkjnjopflnaaW.PrintWords Go.Proofs.YtffmkjnjopflnaaW.PrintLast Go.Proofs.YtffmkjnjopflnaaW.PrintMore
attribute [local go_sem] max2_int min2_int max_two min_two max_three min_three max_four min_four   -- for this text's walks alone
set_option linter.unusedVariables false
set_option linter.unusedSimpArgs false

/-! ### spec_l20One: function 162 -/
def spec_l20One.f (k : Nat) (l0 : List (S43)) : Option (Bool) := if 0 < (l0.length : Int) then ((spec_l01Name.f k ((rd_T43 l0 0).f0)).bind fun t173 => (if t173 = true then ((spec_l00In.f ((rd_T43 l0 0).f1) 1 100).bind fun t175 => (if t175 = true then ((spec_l00In.f ((rd_T43 l0 0).f2) 0 100000).bind fun t177 => (if t177 = true then ((spec_l00In.f ((rd_T43 l0 0).f3) 0 1000).bind fun t179 => (some t179)) else (some false))) else (some false))) else (some false))) else (none)
theorem spec_l20One.mono : ∀ a0 k, LeO (spec_l20One.f k a0) (spec_l20One.f (k + 1) a0) := by
 intro a0 k
 unfold spec_l20One.f
 repeat' first
   | (with_reducible exact spec_l01Name.mono _ _)
   | (with_reducible exact LeO.refl _)
   | (with_reducible exact LeO.none _)
   | (with_reducible refine LeO.ite ?_ ?_)
   | (with_reducible refine LeO.bind ?_ (fun _ => ?_))
   | exact spec_l01Name.mono _ _
   | exact LeO.none _
   | refine LeO.ite ?_ ?_
   | refine LeO.bind ?_ (fun _ => ?_)
set_option maxHeartbeats 8000000 in
set_option maxRecDepth 100000 in
theorem spec_l20One.calls (k : Nat) (A0 : Option Addr) (c0 : Nat) (l0 : List (S43)) (r : Bool) (w : World) (hr0 : Kd.C k43 w A0 l0.length l0) (hc0 : l0.length ≤ c0) (h : spec_l20One.f k l0 = some r) :
  Calls Try.prog 162 #[.pointer A0] w fun e w' => e = .returned (.bool r) ∧ Drawn0 w w' := by
 have HR0 := Aside0.mk hr0
 have HC0 := Aside0.mk hc0
 clear hr0 hc0
 have H : (if 0 < (l0.length : Int) then ((spec_l01Name.f k ((rd_T43 l0 0).f0)).bind fun t173 => (if t173 = true then ((spec_l00In.f ((rd_T43 l0 0).f1) 1 100).bind fun t175 => (if t175 = true then ((spec_l00In.f ((rd_T43 l0 0).f2) 0 100000).bind fun t177 => (if t177 = true then ((spec_l00In.f ((rd_T43 l0 0).f3) 0 1000).bind fun t179 => (some t179)) else (some false))) else (some false))) else (some false))) else (none)) = some r := h
 clear h
 by_cases c2 : 0 < (l0.length : Int)
 ·
  rw [if_pos c2] at H
  have c2b0 : decide (0 < (l0.length : Int)) = true := decide_eq_true c2
  have c2b1 : decide (0 < l0.length) = true := decide_eq_true (by omega)
  clear c2
  replace H := Option.bind_eq_some_iff.mp H
  obtain ⟨t173, A30, H⟩ := H
  replace H : (if t173 = true then ((spec_l00In.f ((rd_T43 l0 0).f1) 1 100).bind fun t175 => (if t175 = true then ((spec_l00In.f ((rd_T43 l0 0).f2) 0 100000).bind fun t177 => (if t177 = true then ((spec_l00In.f ((rd_T43 l0 0).f3) 0 1000).bind fun t179 => (some t179)) else (some false))) else (some false))) else (some false)) = some r := H
  have A3 := Aside0.mk A30
  clear A30
  by_cases c4 : t173 = true
  ·
   subst c4
   have H1 : ((spec_l00In.f ((rd_T43 l0 0).f1) 1 100).bind fun t175 => (if t175 = true then ((spec_l00In.f ((rd_T43 l0 0).f2) 0 100000).bind fun t177 => (if t177 = true then ((spec_l00In.f ((rd_T43 l0 0).f3) 0 1000).bind fun t179 => (some t179)) else (some false))) else (some false))) = some r := by rw [if_pos rfl] at H; exact H
   clear H
   have H := H1
   clear H1
   replace H := Option.bind_eq_some_iff.mp H
   obtain ⟨t175, A50, H⟩ := H
   replace H : (if t175 = true then ((spec_l00In.f ((rd_T43 l0 0).f2) 0 100000).bind fun t177 => (if t177 = true then ((spec_l00In.f ((rd_T43 l0 0).f3) 0 1000).bind fun t179 => (some t179)) else (some false))) else (some false)) = some r := H
   have A5 := Aside0.mk A50
   clear A50
   by_cases c6 : t175 = true
   ·
    subst c6
    have H1 : ((spec_l00In.f ((rd_T43 l0 0).f2) 0 100000).bind fun t177 => (if t177 = true then ((spec_l00In.f ((rd_T43 l0 0).f3) 0 1000).bind fun t179 => (some t179)) else (some false))) = some r := by rw [if_pos rfl] at H; exact H
    clear H
    have H := H1
    clear H1
    replace H := Option.bind_eq_some_iff.mp H
    obtain ⟨t177, A70, H⟩ := H
    replace H : (if t177 = true then ((spec_l00In.f ((rd_T43 l0 0).f3) 0 1000).bind fun t179 => (some t179)) else (some false)) = some r := H
    have A7 := Aside0.mk A70
    clear A70
    by_cases c8 : t177 = true
    ·
     subst c8
     have H1 : ((spec_l00In.f ((rd_T43 l0 0).f3) 0 1000).bind fun t179 => (some t179)) = some r := by rw [if_pos rfl] at H; exact H
     clear H
     have H := H1
     clear H1
     replace H := Option.bind_eq_some_iff.mp H
     obtain ⟨t179, A90, H⟩ := H
     replace H : (some t179) = some r := H
     have A9 := Aside0.mk A90
     clear A90
     obtain rfl := Option.some.inj H
     have p172 : 0 ≤ (0 : Int) := (by omega)
     have q172 : 0 < (l0.length : Int) := of_decide_eq_true (by first | (with_reducible assumption) | assumption)
     obtain ⟨ad172, e172, hx172_0, hx172_1, hx172_2, hx172_3⟩ := at_T43 HR0.out 0 p172 q172
     cases e172
     have qi172 : (0 < l0.length) = True := eq_true (by omega)
     (try rw [show ((0 : Int)).toNat = 0 from rfl] at hx172_0)
     (try rw [show 0 * 4 = 0 from rfl] at hx172_0)
     (try rw [Addr.add_zero'] at hx172_0)
     (try rw [show ((0 : Int)).toNat = 0 from rfl] at hx172_1)
     (try rw [show 0 * 4 = 0 from rfl] at hx172_1)
     (try rw [Addr.add_zero'] at hx172_1)
     (try rw [show ((0 : Int)).toNat = 0 from rfl] at hx172_2)
     (try rw [show 0 * 4 = 0 from rfl] at hx172_2)
     (try rw [Addr.add_zero'] at hx172_2)
     (try rw [show ((0 : Int)).toNat = 0 from rfl] at hx172_3)
     (try rw [show 0 * 4 = 0 from rfl] at hx172_3)
     (try rw [Addr.add_zero'] at hx172_3)
     replace p172 := eq_true p172
     replace q172 := eq_true q172
     have p174 : 0 ≤ (0 : Int) := (by omega)
     have q174 : 0 < (l0.length : Int) := of_decide_eq_true (by first | (with_reducible assumption) | assumption)
     obtain ⟨ad174, e174, hx174_0, hx174_1, hx174_2, hx174_3⟩ := at_T43 HR0.out 0 p174 q174
     obtain rfl : ad172 = ad174 := (by injection e174)
     have qi174 : (0 < l0.length) = True := eq_true (by omega)
     (try rw [show ((0 : Int)).toNat = 0 from rfl] at hx174_0)
     (try rw [show 0 * 4 = 0 from rfl] at hx174_0)
     (try rw [Addr.add_zero'] at hx174_0)
     (try rw [show ((0 : Int)).toNat = 0 from rfl] at hx174_1)
     (try rw [show 0 * 4 = 0 from rfl] at hx174_1)
     (try rw [Addr.add_zero'] at hx174_1)
     (try rw [show ((0 : Int)).toNat = 0 from rfl] at hx174_2)
     (try rw [show 0 * 4 = 0 from rfl] at hx174_2)
     (try rw [Addr.add_zero'] at hx174_2)
     (try rw [show ((0 : Int)).toNat = 0 from rfl] at hx174_3)
     (try rw [show 0 * 4 = 0 from rfl] at hx174_3)
     (try rw [Addr.add_zero'] at hx174_3)
     replace p174 := eq_true p174
     replace q174 := eq_true q174
     have p176 : 0 ≤ (0 : Int) := (by omega)
     have q176 : 0 < (l0.length : Int) := of_decide_eq_true (by first | (with_reducible assumption) | assumption)
     obtain ⟨ad176, e176, hx176_0, hx176_1, hx176_2, hx176_3⟩ := at_T43 HR0.out 0 p176 q176
     obtain rfl : ad172 = ad176 := (by injection e176)
     have qi176 : (0 < l0.length) = True := eq_true (by omega)
     (try rw [show ((0 : Int)).toNat = 0 from rfl] at hx176_0)
     (try rw [show 0 * 4 = 0 from rfl] at hx176_0)
     (try rw [Addr.add_zero'] at hx176_0)
     (try rw [show ((0 : Int)).toNat = 0 from rfl] at hx176_1)
     (try rw [show 0 * 4 = 0 from rfl] at hx176_1)
     (try rw [Addr.add_zero'] at hx176_1)
     (try rw [show ((0 : Int)).toNat = 0 from rfl] at hx176_2)
     (try rw [show 0 * 4 = 0 from rfl] at hx176_2)
     (try rw [Addr.add_zero'] at hx176_2)
     (try rw [show ((0 : Int)).toNat = 0 from rfl] at hx176_3)
     (try rw [show 0 * 4 = 0 from rfl] at hx176_3)
     (try rw [Addr.add_zero'] at hx176_3)
     replace p176 := eq_true p176
     replace q176 := eq_true q176
     have p178 : 0 ≤ (0 : Int) := (by omega)
     have q178 : 0 < (l0.length : Int) := of_decide_eq_true (by first | (with_reducible assumption) | assumption)
     obtain ⟨ad178, e178, hx178_0, hx178_1, hx178_2, hx178_3⟩ := at_T43 HR0.out 0 p178 q178
     obtain rfl : ad172 = ad178 := (by injection e178)
     have qi178 : (0 < l0.length) = True := eq_true (by omega)
     (try rw [show ((0 : Int)).toNat = 0 from rfl] at hx178_0)
     (try rw [show 0 * 4 = 0 from rfl] at hx178_0)
     (try rw [Addr.add_zero'] at hx178_0)
     (try rw [show ((0 : Int)).toNat = 0 from rfl] at hx178_1)
     (try rw [show 0 * 4 = 0 from rfl] at hx178_1)
     (try rw [Addr.add_zero'] at hx178_1)
     (try rw [show ((0 : Int)).toNat = 0 from rfl] at hx178_2)
     (try rw [show 0 * 4 = 0 from rfl] at hx178_2)
     (try rw [Addr.add_zero'] at hx178_2)
     (try rw [show ((0 : Int)).toNat = 0 from rfl] at hx178_3)
     (try rw [show 0 * 4 = 0 from rfl] at hx178_3)
     (try rw [Addr.add_zero'] at hx178_3)
     replace p178 := eq_true p178
     replace q178 := eq_true q178
     go_enter Try.func162, Try.ntmps162
     go_wp2_with (first | ((with_reducible refine gate_callee (f := 200) rfl ?_); refine goesL_ (some 7) rfl rfl Try.func200 (by kernel_rfl) rfl #[.string ((rd_T43 l0 0).f0)] rfl (by (try simp only [List.map_toArray, List.map_cons, List.map_nil]); first | done | rfl | (simp only [List.length_drop, List.length_take]; rfl)) ?_; (with_reducible refine (spec_l01Name.calls k ((rd_T43 l0 0).f0) true _ A3.out).mono ?_); rintro e w' ⟨rfl, ⟨nd, rfl⟩⟩; refine ⟨_, rfl, ?_⟩) | (go_at_call 107; (with_reducible refine (spec_l00In.calls ((rd_T43 l0 0).f1) 1 100 true _ A5.out).mono ?_); rintro e w' ⟨rfl, ⟨nd, rfl⟩⟩) | (go_at_call 107; (with_reducible refine (spec_l00In.calls ((rd_T43 l0 0).f2) 0 100000 true _ A7.out).mono ?_); rintro e w' ⟨rfl, ⟨nd, rfl⟩⟩) | (go_at_call 107; (with_reducible refine (spec_l00In.calls ((rd_T43 l0 0).f3) 0 1000 t179 _ A9.out).mono ?_); rintro e w' ⟨rfl, ⟨nd, rfl⟩⟩))
     go_ret
     exact ⟨by first | rfl | (simp; done) | (simp [*]; done), by repeat (first | exact Drawn0.refl _ | apply Drawn0.step)⟩
    ·
     replace c8 := Bool.eq_false_iff.mpr c8
     subst c8
     have H1 : (some false) = some r := by rw [if_neg (show ¬ (false = true) by decide)] at H; exact H
     clear H
     have H := H1
     clear H1
     obtain rfl := Option.some.inj H
     have p172 : 0 ≤ (0 : Int) := (by omega)
     have q172 : 0 < (l0.length : Int) := of_decide_eq_true (by first | (with_reducible assumption) | assumption)
     obtain ⟨ad172, e172, hx172_0, hx172_1, hx172_2, hx172_3⟩ := at_T43 HR0.out 0 p172 q172
     cases e172
     have qi172 : (0 < l0.length) = True := eq_true (by omega)
     (try rw [show ((0 : Int)).toNat = 0 from rfl] at hx172_0)
     (try rw [show 0 * 4 = 0 from rfl] at hx172_0)
     (try rw [Addr.add_zero'] at hx172_0)
     (try rw [show ((0 : Int)).toNat = 0 from rfl] at hx172_1)
     (try rw [show 0 * 4 = 0 from rfl] at hx172_1)
     (try rw [Addr.add_zero'] at hx172_1)
     (try rw [show ((0 : Int)).toNat = 0 from rfl] at hx172_2)
     (try rw [show 0 * 4 = 0 from rfl] at hx172_2)
     (try rw [Addr.add_zero'] at hx172_2)
     (try rw [show ((0 : Int)).toNat = 0 from rfl] at hx172_3)
     (try rw [show 0 * 4 = 0 from rfl] at hx172_3)
     (try rw [Addr.add_zero'] at hx172_3)
     replace p172 := eq_true p172
     replace q172 := eq_true q172
     have p174 : 0 ≤ (0 : Int) := (by omega)
     have q174 : 0 < (l0.length : Int) := of_decide_eq_true (by first | (with_reducible assumption) | assumption)
     obtain ⟨ad174, e174, hx174_0, hx174_1, hx174_2, hx174_3⟩ := at_T43 HR0.out 0 p174 q174
     obtain rfl : ad172 = ad174 := (by injection e174)
     have qi174 : (0 < l0.length) = True := eq_true (by omega)
     (try rw [show ((0 : Int)).toNat = 0 from rfl] at hx174_0)
     (try rw [show 0 * 4 = 0 from rfl] at hx174_0)
     (try rw [Addr.add_zero'] at hx174_0)
     (try rw [show ((0 : Int)).toNat = 0 from rfl] at hx174_1)
     (try rw [show 0 * 4 = 0 from rfl] at hx174_1)
     (try rw [Addr.add_zero'] at hx174_1)
     (try rw [show ((0 : Int)).toNat = 0 from rfl] at hx174_2)
     (try rw [show 0 * 4 = 0 from rfl] at hx174_2)
     (try rw [Addr.add_zero'] at hx174_2)
     (try rw [show ((0 : Int)).toNat = 0 from rfl] at hx174_3)
     (try rw [show 0 * 4 = 0 from rfl] at hx174_3)
     (try rw [Addr.add_zero'] at hx174_3)
     replace p174 := eq_true p174
     replace q174 := eq_true q174
     have p176 : 0 ≤ (0 : Int) := (by omega)
     have q176 : 0 < (l0.length : Int) := of_decide_eq_true (by first | (with_reducible assumption) | assumption)
     obtain ⟨ad176, e176, hx176_0, hx176_1, hx176_2, hx176_3⟩ := at_T43 HR0.out 0 p176 q176
     obtain rfl : ad172 = ad176 := (by injection e176)
     have qi176 : (0 < l0.length) = True := eq_true (by omega)
     (try rw [show ((0 : Int)).toNat = 0 from rfl] at hx176_0)
     (try rw [show 0 * 4 = 0 from rfl] at hx176_0)
     (try rw [Addr.add_zero'] at hx176_0)
     (try rw [show ((0 : Int)).toNat = 0 from rfl] at hx176_1)
     (try rw [show 0 * 4 = 0 from rfl] at hx176_1)
     (try rw [Addr.add_zero'] at hx176_1)
     (try rw [show ((0 : Int)).toNat = 0 from rfl] at hx176_2)
     (try rw [show 0 * 4 = 0 from rfl] at hx176_2)
     (try rw [Addr.add_zero'] at hx176_2)
     (try rw [show ((0 : Int)).toNat = 0 from rfl] at hx176_3)
     (try rw [show 0 * 4 = 0 from rfl] at hx176_3)
     (try rw [Addr.add_zero'] at hx176_3)
     replace p176 := eq_true p176
     replace q176 := eq_true q176
     go_enter Try.func162, Try.ntmps162
     go_wp2_with (first | ((with_reducible refine gate_callee (f := 200) rfl ?_); refine goesL_ (some 7) rfl rfl Try.func200 (by kernel_rfl) rfl #[.string ((rd_T43 l0 0).f0)] rfl (by (try simp only [List.map_toArray, List.map_cons, List.map_nil]); first | done | rfl | (simp only [List.length_drop, List.length_take]; rfl)) ?_; (with_reducible refine (spec_l01Name.calls k ((rd_T43 l0 0).f0) true _ A3.out).mono ?_); rintro e w' ⟨rfl, ⟨nd, rfl⟩⟩; refine ⟨_, rfl, ?_⟩) | (go_at_call 107; (with_reducible refine (spec_l00In.calls ((rd_T43 l0 0).f1) 1 100 true _ A5.out).mono ?_); rintro e w' ⟨rfl, ⟨nd, rfl⟩⟩) | (go_at_call 107; (with_reducible refine (spec_l00In.calls ((rd_T43 l0 0).f2) 0 100000 false _ A7.out).mono ?_); rintro e w' ⟨rfl, ⟨nd, rfl⟩⟩))
     go_ret
     exact ⟨by first | rfl | (simp; done) | (simp [*]; done), by repeat (first | exact Drawn0.refl _ | apply Drawn0.step)⟩
   ·
    replace c6 := Bool.eq_false_iff.mpr c6
    subst c6
    have H1 : (some false) = some r := by rw [if_neg (show ¬ (false = true) by decide)] at H; exact H
    clear H
    have H := H1
    clear H1
    obtain rfl := Option.some.inj H
    have p172 : 0 ≤ (0 : Int) := (by omega)
    have q172 : 0 < (l0.length : Int) := of_decide_eq_true (by first | (with_reducible assumption) | assumption)
    obtain ⟨ad172, e172, hx172_0, hx172_1, hx172_2, hx172_3⟩ := at_T43 HR0.out 0 p172 q172
    cases e172
    have qi172 : (0 < l0.length) = True := eq_true (by omega)
    (try rw [show ((0 : Int)).toNat = 0 from rfl] at hx172_0)
    (try rw [show 0 * 4 = 0 from rfl] at hx172_0)
    (try rw [Addr.add_zero'] at hx172_0)
    (try rw [show ((0 : Int)).toNat = 0 from rfl] at hx172_1)
    (try rw [show 0 * 4 = 0 from rfl] at hx172_1)
    (try rw [Addr.add_zero'] at hx172_1)
    (try rw [show ((0 : Int)).toNat = 0 from rfl] at hx172_2)
    (try rw [show 0 * 4 = 0 from rfl] at hx172_2)
    (try rw [Addr.add_zero'] at hx172_2)
    (try rw [show ((0 : Int)).toNat = 0 from rfl] at hx172_3)
    (try rw [show 0 * 4 = 0 from rfl] at hx172_3)
    (try rw [Addr.add_zero'] at hx172_3)
    replace p172 := eq_true p172
    replace q172 := eq_true q172
    have p174 : 0 ≤ (0 : Int) := (by omega)
    have q174 : 0 < (l0.length : Int) := of_decide_eq_true (by first | (with_reducible assumption) | assumption)
    obtain ⟨ad174, e174, hx174_0, hx174_1, hx174_2, hx174_3⟩ := at_T43 HR0.out 0 p174 q174
    obtain rfl : ad172 = ad174 := (by injection e174)
    have qi174 : (0 < l0.length) = True := eq_true (by omega)
    (try rw [show ((0 : Int)).toNat = 0 from rfl] at hx174_0)
    (try rw [show 0 * 4 = 0 from rfl] at hx174_0)
    (try rw [Addr.add_zero'] at hx174_0)
    (try rw [show ((0 : Int)).toNat = 0 from rfl] at hx174_1)
    (try rw [show 0 * 4 = 0 from rfl] at hx174_1)
    (try rw [Addr.add_zero'] at hx174_1)
    (try rw [show ((0 : Int)).toNat = 0 from rfl] at hx174_2)
    (try rw [show 0 * 4 = 0 from rfl] at hx174_2)
    (try rw [Addr.add_zero'] at hx174_2)
    (try rw [show ((0 : Int)).toNat = 0 from rfl] at hx174_3)
    (try rw [show 0 * 4 = 0 from rfl] at hx174_3)
    (try rw [Addr.add_zero'] at hx174_3)
    replace p174 := eq_true p174
    replace q174 := eq_true q174
    go_enter Try.func162, Try.ntmps162
    go_wp2_with (first | ((with_reducible refine gate_callee (f := 200) rfl ?_); refine goesL_ (some 7) rfl rfl Try.func200 (by kernel_rfl) rfl #[.string ((rd_T43 l0 0).f0)] rfl (by (try simp only [List.map_toArray, List.map_cons, List.map_nil]); first | done | rfl | (simp only [List.length_drop, List.length_take]; rfl)) ?_; (with_reducible refine (spec_l01Name.calls k ((rd_T43 l0 0).f0) true _ A3.out).mono ?_); rintro e w' ⟨rfl, ⟨nd, rfl⟩⟩; refine ⟨_, rfl, ?_⟩) | (go_at_call 107; (with_reducible refine (spec_l00In.calls ((rd_T43 l0 0).f1) 1 100 false _ A5.out).mono ?_); rintro e w' ⟨rfl, ⟨nd, rfl⟩⟩))
    go_ret
    exact ⟨by first | rfl | (simp; done) | (simp [*]; done), by repeat (first | exact Drawn0.refl _ | apply Drawn0.step)⟩
  ·
   replace c4 := Bool.eq_false_iff.mpr c4
   subst c4
   have H1 : (some false) = some r := by rw [if_neg (show ¬ (false = true) by decide)] at H; exact H
   clear H
   have H := H1
   clear H1
   obtain rfl := Option.some.inj H
   have p172 : 0 ≤ (0 : Int) := (by omega)
   have q172 : 0 < (l0.length : Int) := of_decide_eq_true (by first | (with_reducible assumption) | assumption)
   obtain ⟨ad172, e172, hx172_0, hx172_1, hx172_2, hx172_3⟩ := at_T43 HR0.out 0 p172 q172
   cases e172
   have qi172 : (0 < l0.length) = True := eq_true (by omega)
   (try rw [show ((0 : Int)).toNat = 0 from rfl] at hx172_0)
   (try rw [show 0 * 4 = 0 from rfl] at hx172_0)
   (try rw [Addr.add_zero'] at hx172_0)
   (try rw [show ((0 : Int)).toNat = 0 from rfl] at hx172_1)
   (try rw [show 0 * 4 = 0 from rfl] at hx172_1)
   (try rw [Addr.add_zero'] at hx172_1)
   (try rw [show ((0 : Int)).toNat = 0 from rfl] at hx172_2)
   (try rw [show 0 * 4 = 0 from rfl] at hx172_2)
   (try rw [Addr.add_zero'] at hx172_2)
   (try rw [show ((0 : Int)).toNat = 0 from rfl] at hx172_3)
   (try rw [show 0 * 4 = 0 from rfl] at hx172_3)
   (try rw [Addr.add_zero'] at hx172_3)
   replace p172 := eq_true p172
   replace q172 := eq_true q172
   go_enter Try.func162, Try.ntmps162
   go_wp2_with (first | ((with_reducible refine gate_callee (f := 200) rfl ?_); refine goesL_ (some 7) rfl rfl Try.func200 (by kernel_rfl) rfl #[.string ((rd_T43 l0 0).f0)] rfl (by (try simp only [List.map_toArray, List.map_cons, List.map_nil]); first | done | rfl | (simp only [List.length_drop, List.length_take]; rfl)) ?_; (with_reducible refine (spec_l01Name.calls k ((rd_T43 l0 0).f0) false _ A3.out).mono ?_); rintro e w' ⟨rfl, ⟨nd, rfl⟩⟩; refine ⟨_, rfl, ?_⟩))
   go_ret
   exact ⟨by first | rfl | (simp; done) | (simp [*]; done), by repeat (first | exact Drawn0.refl _ | apply Drawn0.step)⟩
 ·
  rw [if_neg c2] at H
  exact absurd H (by simp)

/-! ### spec_l20Ok: function 92 -/
def spec_l20Ok.l0 : Nat → List (S43) → Int → Option (Bool)
 | 0, _, _ => none
 | k + 1, x0, x3 => if x3 < (x0.length : Int) then (if 0 ≤ x3 then ((spec_l20One.f k [rd_T43 x0 x3]).bind fun t182 => (if t182 = true then (if x3 > 0 then (if 0 ≤ (wrap64 (x3 - 1)) then (if (wrap64 (x3 - 1)) < (x0.length : Int) then (if ((Op.bytesLess (((rd_T43 x0 (wrap64 (x3 - 1))).f0).toList) (((rd_T43 x0 x3).f0).toList)) = true) then (spec_l20Ok.l0 k x0 (wrap64 (x3 + 1))) else (some false)) else (none)) else (none)) else (spec_l20Ok.l0 k x0 (wrap64 (x3 + 1)))) else (some false))) else (none)) else (some (decide ((x0.length : Int) ≤ 8)))
def spec_l20Ok.f (k : Nat) (l0 : List (S43)) : Option (Bool) := spec_l20Ok.l0 k l0 0
theorem spec_l20Ok.mono_l : ∀ k, (∀ y0 y1, LeO (spec_l20Ok.l0 k y0 y1) (spec_l20Ok.l0 (k + 1) y0 y1))
 | 0 => fun _ _ r h => by simp [spec_l20Ok.l0] at h
 | k + 1 => by
  have ih0 := spec_l20Ok.mono_l k
  ·
   intro y0 y1
   unfold spec_l20Ok.l0
   repeat' first
   | (with_reducible exact ih0 _ _)
   | (with_reducible exact spec_l20One.mono _ _)
   | (with_reducible exact LeO.refl _)
   | (with_reducible exact LeO.none _)
   | (with_reducible refine LeO.ite ?_ ?_)
   | (with_reducible refine LeO.bind ?_ (fun _ => ?_))
   | exact ih0 _ _
   | exact spec_l20One.mono _ _
   | exact LeO.none _
   | refine LeO.ite ?_ ?_
   | refine LeO.bind ?_ (fun _ => ?_)
theorem spec_l20Ok.mono : ∀ a0 k, LeO (spec_l20Ok.f k a0) (spec_l20Ok.f (k + 1) a0) := by
 intro a0 k
 have ih0 := spec_l20Ok.mono_l k
 unfold spec_l20Ok.f
 repeat' first
   | (with_reducible exact ih0 _ _)
   | (with_reducible exact spec_l20One.mono _ _)
   | (with_reducible exact LeO.refl _)
   | (with_reducible exact LeO.none _)
   | (with_reducible refine LeO.ite ?_ ?_)
   | (with_reducible refine LeO.bind ?_ (fun _ => ?_))
   | exact ih0 _ _
   | exact spec_l20One.mono _ _
   | exact LeO.none _
   | refine LeO.ite ?_ ?_
   | refine LeO.bind ?_ (fun _ => ?_)
set_option maxHeartbeats 8000000 in
set_option maxRecDepth 100000 in
theorem spec_l20Ok.calls (k : Nat) (A0 : Option Addr) (c0 : Nat) (l0 : List (S43)) (r : Bool) (w : World) (hr0 : Kd.C k43 w A0 l0.length l0) (hc0 : l0.length ≤ c0) (h : spec_l20Ok.f k l0 = some r) :
  Calls Try.prog 92 #[.slice A0 l0.length c0] w fun e w' => e = .returned (.bool r) ∧ Drawn0 w w' := by
 have HR0 := Aside0.mk hr0
 have HC0 := Aside0.mk hc0
 clear hr0 hc0
 have H : (spec_l20Ok.l0 k l0 0) = some r := h
 clear h
 have H' := Aside0.mk H
 clear H
 go_enter Try.func92, Try.ntmps92
 go_wp2
 repeat (go_quiet (fail); try go_wp2)
 go_loopg [3] k (fun kq v3 w' => ∃ (x3_1 : Int), v3 = .int .i64 x3_1 ∧ Aside0 (spec_l20Ok.l0 kq l0 x3_1 = some r) ∧ Aside0 (kq ≤ k) ∧ Drawn0 w w')
 case atStart => exact ⟨(0), (by first | rfl | (simp; done) | (simp [*]; done)), H', ⟨Nat.le_refl _⟩, by repeat (first | exact Drawn0.refl _ | apply Drawn0.step)⟩
 case round =>
  clear H'
  obtain ⟨x3_1, rfl, HA, HK1, ⟨m1, rfl⟩⟩ := hrel
  cases gk with
  | zero => exact absurd HA.out (by simp [spec_l20Ok.l0])
  | succ k1 =>
   have H := HA.out
   clear HA
   simp only [spec_l20Ok.l0] at H
   by_cases c2 : x3_1 < (l0.length : Int)
   ·
    rw [if_pos c2] at H
    have c2b0 : decide (x3_1 < (l0.length : Int)) = true := decide_eq_true c2
    clear c2
    by_cases c3 : 0 ≤ x3_1
    ·
     rw [if_pos c3] at H
     have c3b0 : decide (0 ≤ x3_1) = true := decide_eq_true c3
     clear c3
     replace H := Option.bind_eq_some_iff.mp H
     obtain ⟨t182, A40, H⟩ := H
     replace H : (if t182 = true then (if x3_1 > 0 then (if 0 ≤ (wrap64 (x3_1 - 1)) then (if (wrap64 (x3_1 - 1)) < (l0.length : Int) then (if ((Op.bytesLess (((rd_T43 l0 (wrap64 (x3_1 - 1))).f0).toList) (((rd_T43 l0 x3_1).f0).toList)) = true) then (spec_l20Ok.l0 k1 l0 (wrap64 (x3_1 + 1))) else (some false)) else (none)) else (none)) else (spec_l20Ok.l0 k1 l0 (wrap64 (x3_1 + 1)))) else (some false)) = some r := H
     have A4 := Aside0.mk A40
     clear A40
     by_cases c5 : t182 = true
     ·
      subst c5
      have H1 : (if x3_1 > 0 then (if 0 ≤ (wrap64 (x3_1 - 1)) then (if (wrap64 (x3_1 - 1)) < (l0.length : Int) then (if ((Op.bytesLess (((rd_T43 l0 (wrap64 (x3_1 - 1))).f0).toList) (((rd_T43 l0 x3_1).f0).toList)) = true) then (spec_l20Ok.l0 k1 l0 (wrap64 (x3_1 + 1))) else (some false)) else (none)) else (none)) else (spec_l20Ok.l0 k1 l0 (wrap64 (x3_1 + 1)))) = some r := by rw [if_pos rfl] at H; exact H
      clear H
      have H := H1
      clear H1
      by_cases c6 : x3_1 > 0
      ·
       rw [if_pos c6] at H
       have c6b0 : decide (0 < x3_1) = true := decide_eq_true c6
       clear c6
       obtain ⟨ji7, hji7⟩ : ∃ j_ : Int, (wrap64 (x3_1 - 1)) = j_ := ⟨_, rfl⟩
       replace H : (if 0 ≤ (ji7) then (if (ji7) < (l0.length : Int) then (if ((Op.bytesLess (((rd_T43 l0 (ji7)).f0).toList) (((rd_T43 l0 x3_1).f0).toList)) = true) then (spec_l20Ok.l0 k1 l0 (wrap64 (x3_1 + 1))) else (some false)) else (none)) else (none)) = some r := by first | (rw [hji7] at H; exact H) | (simp only [hji7] at H ⊢; exact H)
       (try rw [hji7] at A4)
       have hji7w : (IntKind.i64.wrap (x3_1 - 1)) = ji7 := (i64_w _).trans hji7
       by_cases c8 : 0 ≤ (ji7)
       ·
        rw [if_pos c8] at H
        have c8b0 : decide (0 ≤ (ji7)) = true := decide_eq_true c8
        clear c8
        by_cases c9 : (ji7) < (l0.length : Int)
        ·
         rw [if_pos c9] at H
         have c9b0 : decide ((ji7) < (l0.length : Int)) = true := decide_eq_true c9
         clear c9
         by_cases c10 : ((Op.bytesLess (((rd_T43 l0 (ji7)).f0).toList) (((rd_T43 l0 x3_1).f0).toList)) = true)
         ·
          rw [if_pos c10] at H
          have c10b0 : (Op.bytesLess (((rd_T43 l0 (ji7)).f0).toList) (((rd_T43 l0 x3_1).f0).toList)) = true := c10
          clear c10
          have H' := Aside0.mk H
          clear H
          have p180 : 0 ≤ (x3_1 : Int) := of_decide_eq_true (by first | (with_reducible assumption) | assumption)
          have q180 : x3_1 < (l0.length : Int) := of_decide_eq_true (by first | (with_reducible assumption) | assumption)
          obtain ⟨ad180, e180, hx180_0, hx180_1, hx180_2, hx180_3⟩ := at_T43 HR0.out x3_1 p180 q180
          cases e180
          replace p180 := eq_true p180
          replace q180 := eq_true q180
          have HRe181 := Aside0.mk (show Kd.C k43 w (some (ad180.add ((x3_1).toNat * 4))) 1 [rd_T43 l0 x3_1] from ep_elem HR0.out _ x3_1 (of_decide_eq_true (by first | (with_reducible assumption) | assumption)) (of_decide_eq_true (by first | (with_reducible assumption) | assumption)))
          have HCe181 := Aside0.mk (Nat.le_refl 1)
          have p183 : 0 ≤ ((ji7) : Int) := of_decide_eq_true (by first | (with_reducible assumption) | assumption)
          have q183 : (ji7) < (l0.length : Int) := of_decide_eq_true (by first | (with_reducible assumption) | assumption)
          obtain ⟨ad183, e183, hx183_0, hx183_1, hx183_2, hx183_3⟩ := at_T43 HR0.out (ji7) p183 q183
          obtain rfl : ad180 = ad183 := (by injection e183)
          replace p183 := eq_true p183
          replace q183 := eq_true q183
          have p184 : 0 ≤ (x3_1 : Int) := of_decide_eq_true (by first | (with_reducible assumption) | assumption)
          have q184 : x3_1 < (l0.length : Int) := of_decide_eq_true (by first | (with_reducible assumption) | assumption)
          obtain ⟨ad184, e184, hx184_0, hx184_1, hx184_2, hx184_3⟩ := at_T43 HR0.out x3_1 p184 q184
          obtain rfl : ad180 = ad184 := (by injection e184)
          replace p184 := eq_true p184
          replace q184 := eq_true q184
          go_wp2_with (first | (go_at_call 162; (with_reducible refine (spec_l20One.calls k1 _ 1 [rd_T43 l0 x3_1] true _ ?side1 ?side2 A4.out).mono ?_); (case side1 => repeat (first | exact HRe181.out | (with_reducible refine Kd.C_alloc ?_ _) | (with_reducible refine Kd.C_drewN ?_ _) | (with_reducible refine Kd.C_drew ?_))); (case side2 => first | exact Nat.le_refl _ | exact HCe181.out); rintro e w' ⟨rfl, ⟨nd, rfl⟩⟩; (try first | exact ⟨rfl, _, World.drewN_drewN _ _ _⟩ | exact ⟨rfl, _, Eq.trans (World.drewN_drewN _ _ _) (congrArg (World.drewN _) (Nat.add_assoc _ _ _))⟩)))
          repeat (go_quiet (first | (go_at_call 162; (with_reducible refine (spec_l20One.calls k1 _ 1 [rd_T43 l0 x3_1] true _ ?side1 ?side2 A4.out).mono ?_); (case side1 => repeat (first | exact HRe181.out | (with_reducible refine Kd.C_alloc ?_ _) | (with_reducible refine Kd.C_drewN ?_ _) | (with_reducible refine Kd.C_drew ?_))); (case side2 => first | exact Nat.le_refl _ | exact HCe181.out); rintro e w' ⟨rfl, ⟨nd, rfl⟩⟩; (try first | exact ⟨rfl, _, World.drewN_drewN _ _ _⟩ | exact ⟨rfl, _, Eq.trans (World.drewN_drewN _ _ _) (congrArg (World.drewN _) (Nat.add_assoc _ _ _))⟩))); try go_wp2_with (first | (go_at_call 162; (with_reducible refine (spec_l20One.calls k1 _ 1 [rd_T43 l0 x3_1] true _ ?side1 ?side2 A4.out).mono ?_); (case side1 => repeat (first | exact HRe181.out | (with_reducible refine Kd.C_alloc ?_ _) | (with_reducible refine Kd.C_drewN ?_ _) | (with_reducible refine Kd.C_drew ?_))); (case side2 => first | exact Nat.le_refl _ | exact HCe181.out); rintro e w' ⟨rfl, ⟨nd, rfl⟩⟩; (try first | exact ⟨rfl, _, World.drewN_drewN _ _ _⟩ | exact ⟨rfl, _, Eq.trans (World.drewN_drewN _ _ _) (congrArg (World.drewN _) (Nat.add_assoc _ _ _))⟩))))
          go_roundg k1
          case measure => have := HK1.out; omega
          case rel => exact ⟨(wrap64 (x3_1 + 1)), (by first | rfl | (simp; done) | (simp [*]; done)), H', ⟨by have := HK1.out; omega⟩, by repeat (first | exact Drawn0.refl _ | apply Drawn0.step)⟩
         ·
          rw [if_neg c10] at H
          have c10b0 : (Op.bytesLess (((rd_T43 l0 (ji7)).f0).toList) (((rd_T43 l0 x3_1).f0).toList)) = false := by simpa using c10
          clear c10
          obtain rfl := Option.some.inj H
          have p180 : 0 ≤ (x3_1 : Int) := of_decide_eq_true (by first | (with_reducible assumption) | assumption)
          have q180 : x3_1 < (l0.length : Int) := of_decide_eq_true (by first | (with_reducible assumption) | assumption)
          obtain ⟨ad180, e180, hx180_0, hx180_1, hx180_2, hx180_3⟩ := at_T43 HR0.out x3_1 p180 q180
          cases e180
          replace p180 := eq_true p180
          replace q180 := eq_true q180
          have HRe181 := Aside0.mk (show Kd.C k43 w (some (ad180.add ((x3_1).toNat * 4))) 1 [rd_T43 l0 x3_1] from ep_elem HR0.out _ x3_1 (of_decide_eq_true (by first | (with_reducible assumption) | assumption)) (of_decide_eq_true (by first | (with_reducible assumption) | assumption)))
          have HCe181 := Aside0.mk (Nat.le_refl 1)
          have p183 : 0 ≤ ((ji7) : Int) := of_decide_eq_true (by first | (with_reducible assumption) | assumption)
          have q183 : (ji7) < (l0.length : Int) := of_decide_eq_true (by first | (with_reducible assumption) | assumption)
          obtain ⟨ad183, e183, hx183_0, hx183_1, hx183_2, hx183_3⟩ := at_T43 HR0.out (ji7) p183 q183
          obtain rfl : ad180 = ad183 := (by injection e183)
          replace p183 := eq_true p183
          replace q183 := eq_true q183
          have p184 : 0 ≤ (x3_1 : Int) := of_decide_eq_true (by first | (with_reducible assumption) | assumption)
          have q184 : x3_1 < (l0.length : Int) := of_decide_eq_true (by first | (with_reducible assumption) | assumption)
          obtain ⟨ad184, e184, hx184_0, hx184_1, hx184_2, hx184_3⟩ := at_T43 HR0.out x3_1 p184 q184
          obtain rfl : ad180 = ad184 := (by injection e184)
          replace p184 := eq_true p184
          replace q184 := eq_true q184
          go_wp2_with (first | (go_at_call 162; (with_reducible refine (spec_l20One.calls k1 _ 1 [rd_T43 l0 x3_1] true _ ?side1 ?side2 A4.out).mono ?_); (case side1 => repeat (first | exact HRe181.out | (with_reducible refine Kd.C_alloc ?_ _) | (with_reducible refine Kd.C_drewN ?_ _) | (with_reducible refine Kd.C_drew ?_))); (case side2 => first | exact Nat.le_refl _ | exact HCe181.out); rintro e w' ⟨rfl, ⟨nd, rfl⟩⟩; (try first | exact ⟨rfl, _, World.drewN_drewN _ _ _⟩ | exact ⟨rfl, _, Eq.trans (World.drewN_drewN _ _ _) (congrArg (World.drewN _) (Nat.add_assoc _ _ _))⟩)))
          repeat (go_quiet (first | (go_at_call 162; (with_reducible refine (spec_l20One.calls k1 _ 1 [rd_T43 l0 x3_1] true _ ?side1 ?side2 A4.out).mono ?_); (case side1 => repeat (first | exact HRe181.out | (with_reducible refine Kd.C_alloc ?_ _) | (with_reducible refine Kd.C_drewN ?_ _) | (with_reducible refine Kd.C_drew ?_))); (case side2 => first | exact Nat.le_refl _ | exact HCe181.out); rintro e w' ⟨rfl, ⟨nd, rfl⟩⟩; (try first | exact ⟨rfl, _, World.drewN_drewN _ _ _⟩ | exact ⟨rfl, _, Eq.trans (World.drewN_drewN _ _ _) (congrArg (World.drewN _) (Nat.add_assoc _ _ _))⟩))); try go_wp2_with (first | (go_at_call 162; (with_reducible refine (spec_l20One.calls k1 _ 1 [rd_T43 l0 x3_1] true _ ?side1 ?side2 A4.out).mono ?_); (case side1 => repeat (first | exact HRe181.out | (with_reducible refine Kd.C_alloc ?_ _) | (with_reducible refine Kd.C_drewN ?_ _) | (with_reducible refine Kd.C_drew ?_))); (case side2 => first | exact Nat.le_refl _ | exact HCe181.out); rintro e w' ⟨rfl, ⟨nd, rfl⟩⟩; (try first | exact ⟨rfl, _, World.drewN_drewN _ _ _⟩ | exact ⟨rfl, _, Eq.trans (World.drewN_drewN _ _ _) (congrArg (World.drewN _) (Nat.add_assoc _ _ _))⟩))))
          go_ret
          exact ⟨by first | rfl | (simp; done) | (simp only [← hji7] <;> (first | rfl | simp)) | (simp [*]; done), by repeat (first | exact Drawn0.refl _ | apply Drawn0.step)⟩
        ·
         rw [if_neg c9] at H
         exact absurd H (by simp)
       ·
        rw [if_neg c8] at H
        exact absurd H (by simp)
      ·
       rw [if_neg c6] at H
       have c6b0 : decide (0 < x3_1) = false := decide_eq_false c6
       clear c6
       have H' := Aside0.mk H
       clear H
       have p180 : 0 ≤ (x3_1 : Int) := of_decide_eq_true (by first | (with_reducible assumption) | assumption)
       have q180 : x3_1 < (l0.length : Int) := of_decide_eq_true (by first | (with_reducible assumption) | assumption)
       obtain ⟨ad180, e180, hx180_0, hx180_1, hx180_2, hx180_3⟩ := at_T43 HR0.out x3_1 p180 q180
       cases e180
       replace p180 := eq_true p180
       replace q180 := eq_true q180
       have HRe181 := Aside0.mk (show Kd.C k43 w (some (ad180.add ((x3_1).toNat * 4))) 1 [rd_T43 l0 x3_1] from ep_elem HR0.out _ x3_1 (of_decide_eq_true (by first | (with_reducible assumption) | assumption)) (of_decide_eq_true (by first | (with_reducible assumption) | assumption)))
       have HCe181 := Aside0.mk (Nat.le_refl 1)
       go_wp2_with (first | (go_at_call 162; (with_reducible refine (spec_l20One.calls k1 _ 1 [rd_T43 l0 x3_1] true _ ?side1 ?side2 A4.out).mono ?_); (case side1 => repeat (first | exact HRe181.out | (with_reducible refine Kd.C_alloc ?_ _) | (with_reducible refine Kd.C_drewN ?_ _) | (with_reducible refine Kd.C_drew ?_))); (case side2 => first | exact Nat.le_refl _ | exact HCe181.out); rintro e w' ⟨rfl, ⟨nd, rfl⟩⟩; (try first | exact ⟨rfl, _, World.drewN_drewN _ _ _⟩ | exact ⟨rfl, _, Eq.trans (World.drewN_drewN _ _ _) (congrArg (World.drewN _) (Nat.add_assoc _ _ _))⟩)))
       repeat (go_quiet (first | (go_at_call 162; (with_reducible refine (spec_l20One.calls k1 _ 1 [rd_T43 l0 x3_1] true _ ?side1 ?side2 A4.out).mono ?_); (case side1 => repeat (first | exact HRe181.out | (with_reducible refine Kd.C_alloc ?_ _) | (with_reducible refine Kd.C_drewN ?_ _) | (with_reducible refine Kd.C_drew ?_))); (case side2 => first | exact Nat.le_refl _ | exact HCe181.out); rintro e w' ⟨rfl, ⟨nd, rfl⟩⟩; (try first | exact ⟨rfl, _, World.drewN_drewN _ _ _⟩ | exact ⟨rfl, _, Eq.trans (World.drewN_drewN _ _ _) (congrArg (World.drewN _) (Nat.add_assoc _ _ _))⟩))); try go_wp2_with (first | (go_at_call 162; (with_reducible refine (spec_l20One.calls k1 _ 1 [rd_T43 l0 x3_1] true _ ?side1 ?side2 A4.out).mono ?_); (case side1 => repeat (first | exact HRe181.out | (with_reducible refine Kd.C_alloc ?_ _) | (with_reducible refine Kd.C_drewN ?_ _) | (with_reducible refine Kd.C_drew ?_))); (case side2 => first | exact Nat.le_refl _ | exact HCe181.out); rintro e w' ⟨rfl, ⟨nd, rfl⟩⟩; (try first | exact ⟨rfl, _, World.drewN_drewN _ _ _⟩ | exact ⟨rfl, _, Eq.trans (World.drewN_drewN _ _ _) (congrArg (World.drewN _) (Nat.add_assoc _ _ _))⟩))))
       go_roundg k1
       case measure => have := HK1.out; omega
       case rel => exact ⟨(wrap64 (x3_1 + 1)), (by first | rfl | (simp; done) | (simp [*]; done)), H', ⟨by have := HK1.out; omega⟩, by repeat (first | exact Drawn0.refl _ | apply Drawn0.step)⟩
     ·
      replace c5 := Bool.eq_false_iff.mpr c5
      subst c5
      have H1 : (some false) = some r := by rw [if_neg (show ¬ (false = true) by decide)] at H; exact H
      clear H
      have H := H1
      clear H1
      obtain rfl := Option.some.inj H
      have p180 : 0 ≤ (x3_1 : Int) := of_decide_eq_true (by first | (with_reducible assumption) | assumption)
      have q180 : x3_1 < (l0.length : Int) := of_decide_eq_true (by first | (with_reducible assumption) | assumption)
      obtain ⟨ad180, e180, hx180_0, hx180_1, hx180_2, hx180_3⟩ := at_T43 HR0.out x3_1 p180 q180
      cases e180
      replace p180 := eq_true p180
      replace q180 := eq_true q180
      have HRe181 := Aside0.mk (show Kd.C k43 w (some (ad180.add ((x3_1).toNat * 4))) 1 [rd_T43 l0 x3_1] from ep_elem HR0.out _ x3_1 (of_decide_eq_true (by first | (with_reducible assumption) | assumption)) (of_decide_eq_true (by first | (with_reducible assumption) | assumption)))
      have HCe181 := Aside0.mk (Nat.le_refl 1)
      go_wp2_with (first | (go_at_call 162; (with_reducible refine (spec_l20One.calls k1 _ 1 [rd_T43 l0 x3_1] false _ ?side1 ?side2 A4.out).mono ?_); (case side1 => repeat (first | exact HRe181.out | (with_reducible refine Kd.C_alloc ?_ _) | (with_reducible refine Kd.C_drewN ?_ _) | (with_reducible refine Kd.C_drew ?_))); (case side2 => first | exact Nat.le_refl _ | exact HCe181.out); rintro e w' ⟨rfl, ⟨nd, rfl⟩⟩; (try first | exact ⟨rfl, _, World.drewN_drewN _ _ _⟩ | exact ⟨rfl, _, Eq.trans (World.drewN_drewN _ _ _) (congrArg (World.drewN _) (Nat.add_assoc _ _ _))⟩)))
      repeat (go_quiet (first | (go_at_call 162; (with_reducible refine (spec_l20One.calls k1 _ 1 [rd_T43 l0 x3_1] false _ ?side1 ?side2 A4.out).mono ?_); (case side1 => repeat (first | exact HRe181.out | (with_reducible refine Kd.C_alloc ?_ _) | (with_reducible refine Kd.C_drewN ?_ _) | (with_reducible refine Kd.C_drew ?_))); (case side2 => first | exact Nat.le_refl _ | exact HCe181.out); rintro e w' ⟨rfl, ⟨nd, rfl⟩⟩; (try first | exact ⟨rfl, _, World.drewN_drewN _ _ _⟩ | exact ⟨rfl, _, Eq.trans (World.drewN_drewN _ _ _) (congrArg (World.drewN _) (Nat.add_assoc _ _ _))⟩))); try go_wp2_with (first | (go_at_call 162; (with_reducible refine (spec_l20One.calls k1 _ 1 [rd_T43 l0 x3_1] false _ ?side1 ?side2 A4.out).mono ?_); (case side1 => repeat (first | exact HRe181.out | (with_reducible refine Kd.C_alloc ?_ _) | (with_reducible refine Kd.C_drewN ?_ _) | (with_reducible refine Kd.C_drew ?_))); (case side2 => first | exact Nat.le_refl _ | exact HCe181.out); rintro e w' ⟨rfl, ⟨nd, rfl⟩⟩; (try first | exact ⟨rfl, _, World.drewN_drewN _ _ _⟩ | exact ⟨rfl, _, Eq.trans (World.drewN_drewN _ _ _) (congrArg (World.drewN _) (Nat.add_assoc _ _ _))⟩))))
      go_ret
      exact ⟨by first | rfl | (simp; done) | (simp [*]; done), by repeat (first | exact Drawn0.refl _ | apply Drawn0.step)⟩
    ·
     rw [if_neg c3] at H
     exact absurd H (by simp)
   ·
    rw [if_neg c2] at H
    have c2b0 : decide (x3_1 < (l0.length : Int)) = false := decide_eq_false c2
    clear c2
    obtain rfl := Option.some.inj H
    go_wp2
    repeat (go_quiet (fail); try go_wp2)
    go_ret
    exact ⟨by first | rfl | (simp; done) | (simp [*]; done), by repeat (first | exact Drawn0.refl _ | apply Drawn0.step)⟩

/-! ### spec_l00Has: function 133 -/
def spec_l00Has.l0 : Nat → List Int → Int → Int → Option (Bool)
 | 0, _, _, _ => none
 | k + 1, x0, x1, x5 => if x5 < (x0.length : Int) then (if 0 ≤ x5 then (if (rd x0 x5) = x1 then (some true) else (spec_l00Has.l0 k x0 x1 (wrap64 (x5 + 1)))) else (none)) else (some false)
def spec_l00Has.f (k : Nat) (l0 : List Int) (a1 : Int) : Option (Bool) := spec_l00Has.l0 k l0 a1 0
theorem spec_l00Has.mono_l : ∀ k, (∀ y0 y1 y2, LeO (spec_l00Has.l0 k y0 y1 y2) (spec_l00Has.l0 (k + 1) y0 y1 y2))
 | 0 => fun _ _ _ r h => by simp [spec_l00Has.l0] at h
 | k + 1 => by
  have ih0 := spec_l00Has.mono_l k
  ·
   intro y0 y1 y2
   unfold spec_l00Has.l0
   repeat' first
   | (with_reducible exact ih0 _ _ _)
   | (with_reducible exact LeO.refl _)
   | (with_reducible exact LeO.none _)
   | (with_reducible refine LeO.ite ?_ ?_)
   | (with_reducible refine LeO.bind ?_ (fun _ => ?_))
   | exact ih0 _ _ _
   | exact LeO.none _
   | refine LeO.ite ?_ ?_
   | refine LeO.bind ?_ (fun _ => ?_)
theorem spec_l00Has.mono : ∀ a0 a1 k, LeO (spec_l00Has.f k a0 a1) (spec_l00Has.f (k + 1) a0 a1) := by
 intro a0 a1 k
 have ih0 := spec_l00Has.mono_l k
 unfold spec_l00Has.f
 repeat' first
   | (with_reducible exact ih0 _ _ _)
   | (with_reducible exact LeO.refl _)
   | (with_reducible exact LeO.none _)
   | (with_reducible refine LeO.ite ?_ ?_)
   | (with_reducible refine LeO.bind ?_ (fun _ => ?_))
   | exact ih0 _ _ _
   | exact LeO.none _
   | refine LeO.ite ?_ ?_
   | refine LeO.bind ?_ (fun _ => ?_)
set_option maxHeartbeats 8000000 in
set_option maxRecDepth 100000 in
theorem spec_l00Has.calls (k : Nat) (A0 : Option Addr) (c0 : Nat) (l0 : List Int) (a1 : Int) (r : Bool) (w : World) (hr0 : Kd.C (Kd.int .i64) w A0 l0.length l0) (hc0 : l0.length ≤ c0) (h : spec_l00Has.f k l0 a1 = some r) :
  Calls Try.prog 133 #[.slice A0 l0.length c0, .int .i64 a1] w fun e w' => e = .returned (.bool r) ∧ Drawn0 w w' := by
 have HR0 := Aside0.mk hr0
 have HC0 := Aside0.mk hc0
 clear hr0 hc0
 have H : (spec_l00Has.l0 k l0 a1 0) = some r := h
 clear h
 have H' := Aside0.mk H
 clear H
 go_enter Try.func133, Try.ntmps133
 go_wp2
 go_loopg [5] k (fun kq v5 w' => ∃ (x5_1 : Int), v5 = .int .i64 x5_1 ∧ Aside0 (spec_l00Has.l0 kq l0 a1 x5_1 = some r) ∧ Aside0 (kq ≤ k) ∧ Drawn0 w w')
 case atStart => exact ⟨(0), (by first | rfl | (simp; done) | (simp [*]; done)), H', ⟨Nat.le_refl _⟩, by repeat (first | exact Drawn0.refl _ | apply Drawn0.step)⟩
 case round =>
  clear H'
  try clear c1
  try clear p2
  obtain ⟨x5_1, rfl, HA, HK1, ⟨m1, rfl⟩⟩ := hrel
  cases gk with
  | zero => exact absurd HA.out (by simp [spec_l00Has.l0])
  | succ k1 =>
   have H := HA.out
   clear HA
   simp only [spec_l00Has.l0] at H
   by_cases c3 : x5_1 < (l0.length : Int)
   ·
    rw [if_pos c3] at H
    have c3b0 : decide (x5_1 < (l0.length : Int)) = true := decide_eq_true c3
    clear c3
    by_cases c4 : 0 ≤ x5_1
    ·
     rw [if_pos c4] at H
     have c4b0 : decide (0 ≤ x5_1) = true := decide_eq_true c4
     clear c4
     by_cases c5 : (rd l0 x5_1) = a1
     ·
      rw [if_pos c5] at H
      have c5b0 : ((rd l0 x5_1) == a1) = true := beq_iff_eq.mpr c5
      have c5b1 : ((rd l0 x5_1) != a1) = false := bne_eq_false_iff_eq.mpr c5
      clear c5
      obtain rfl := Option.some.inj H
      have p185 : 0 ≤ (x5_1 : Int) := of_decide_eq_true (by first | (with_reducible assumption) | assumption)
      have q185 : x5_1 < (l0.length : Int) := of_decide_eq_true (by first | (with_reducible assumption) | assumption)
      obtain ⟨ad185, e185, hx185_0⟩ := Kd.at_int HR0.out x5_1 p185 q185
      cases e185
      replace p185 := eq_true p185
      replace q185 := eq_true q185
      go_wp2
      go_ret
      exact ⟨by first | rfl | (simp; done) | (simp [*]; done), by repeat (first | exact Drawn0.refl _ | apply Drawn0.step)⟩
     ·
      rw [if_neg c5] at H
      have c5b0 : ((rd l0 x5_1) == a1) = false := beq_eq_false_iff_ne.mpr c5
      have c5b1 : ((rd l0 x5_1) != a1) = true := bne_iff_ne.mpr c5
      have H' := Aside0.mk H
      clear H
      have p185 : 0 ≤ (x5_1 : Int) := of_decide_eq_true (by first | (with_reducible assumption) | assumption)
      have q185 : x5_1 < (l0.length : Int) := of_decide_eq_true (by first | (with_reducible assumption) | assumption)
      obtain ⟨ad185, e185, hx185_0⟩ := Kd.at_int HR0.out x5_1 p185 q185
      cases e185
      replace p185 := eq_true p185
      replace q185 := eq_true q185
      go_wp2
      go_roundg k1
      case measure => have := HK1.out; omega
      case rel => exact ⟨(wrap64 (x5_1 + 1)), (by first | rfl | (simp; done) | (simp [*]; done)), H', ⟨by have := HK1.out; omega⟩, by repeat (first | exact Drawn0.refl _ | apply Drawn0.step)⟩
    ·
     rw [if_neg c4] at H
     exact absurd H (by simp)
   ·
    rw [if_neg c3] at H
    have c3b0 : decide (x5_1 < (l0.length : Int)) = false := decide_eq_false c3
    clear c3
    obtain rfl := Option.some.inj H
    go_wp2
    go_ret
    exact ⟨by first | rfl | (simp; done) | (simp [*]; done), by repeat (first | exact Drawn0.refl _ | apply Drawn0.step)⟩

/-! ### spec_l20Heat: function 163 -/
def spec_l20Heat.l0 : Nat → List (S43) → List Int → Int → Int → Option (Int)
 | 0, _, _, _, _ => none
 | k + 1, x0, x1, x5, x6 => if x6 < (x0.length : Int) then (if 0 ≤ x6 then (if x6 < (x1.length : Int) then (spec_l20Heat.l0 k x0 x1 (wrap64 (x5 + (wrap64 (((rd_T43 x0 x6).f2) * (rd x1 x6))))) (wrap64 (x6 + 1))) else (none)) else (none)) else (some x5)
def spec_l20Heat.f (k : Nat) (l0 : List (S43)) (l1 : List Int) : Option (Int) := spec_l20Heat.l0 k l0 l1 0 0
theorem spec_l20Heat.mono_l : ∀ k, (∀ y0 y1 y2 y3, LeO (spec_l20Heat.l0 k y0 y1 y2 y3) (spec_l20Heat.l0 (k + 1) y0 y1 y2 y3))
 | 0 => fun _ _ _ _ r h => by simp [spec_l20Heat.l0] at h
 | k + 1 => by
  have ih0 := spec_l20Heat.mono_l k
  ·
   intro y0 y1 y2 y3
   unfold spec_l20Heat.l0
   repeat' first
   | (with_reducible exact ih0 _ _ _ _)
   | (with_reducible exact LeO.refl _)
   | (with_reducible exact LeO.none _)
   | (with_reducible refine LeO.ite ?_ ?_)
   | (with_reducible refine LeO.bind ?_ (fun _ => ?_))
   | exact ih0 _ _ _ _
   | exact LeO.none _
   | refine LeO.ite ?_ ?_
   | refine LeO.bind ?_ (fun _ => ?_)
theorem spec_l20Heat.mono : ∀ a0 a1 k, LeO (spec_l20Heat.f k a0 a1) (spec_l20Heat.f (k + 1) a0 a1) := by
 intro a0 a1 k
 have ih0 := spec_l20Heat.mono_l k
 unfold spec_l20Heat.f
 repeat' first
   | (with_reducible exact ih0 _ _ _ _)
   | (with_reducible exact LeO.refl _)
   | (with_reducible exact LeO.none _)
   | (with_reducible refine LeO.ite ?_ ?_)
   | (with_reducible refine LeO.bind ?_ (fun _ => ?_))
   | exact ih0 _ _ _ _
   | exact LeO.none _
   | refine LeO.ite ?_ ?_
   | refine LeO.bind ?_ (fun _ => ?_)
set_option maxHeartbeats 8000000 in
set_option maxRecDepth 100000 in
theorem spec_l20Heat.calls (k : Nat) (A0 : Option Addr) (c0 : Nat) (l0 : List (S43)) (A1 : Option Addr) (c1 : Nat) (l1 : List Int) (r : Int) (w : World) (hr0 : Kd.C k43 w A0 l0.length l0) (hc0 : l0.length ≤ c0) (hr1 : Kd.C (Kd.int .i64) w A1 l1.length l1) (hc1 : l1.length ≤ c1) (h : spec_l20Heat.f k l0 l1 = some r) :
  Calls Try.prog 163 #[.slice A0 l0.length c0, .slice A1 l1.length c1] w fun e w' => e = .returned (.int .i64 r) ∧ Drawn0 w w' := by
 have HR0 := Aside0.mk hr0
 have HC0 := Aside0.mk hc0
 clear hr0 hc0
 have HR1 := Aside0.mk hr1
 have HC1 := Aside0.mk hc1
 clear hr1 hc1
 have H : (spec_l20Heat.l0 k l0 l1 0 0) = some r := h
 clear h
 have H' := Aside0.mk H
 clear H
 go_enter Try.func163, Try.ntmps163
 go_wp2
 repeat (go_quiet (fail); try go_wp2)
 go_loopg [5, 6] k (fun kq v5 v6 w' => ∃ (x5_1 : Int) (x6_1 : Int), v5 = .int .i64 x5_1 ∧ v6 = .int .i64 x6_1 ∧ Aside0 (spec_l20Heat.l0 kq l0 l1 x5_1 x6_1 = some r) ∧ Aside0 (kq ≤ k) ∧ Drawn0 w w')
 case atStart => exact ⟨(0), (0), (by first | rfl | (simp; done) | (simp [*]; done)), (by first | rfl | (simp; done) | (simp [*]; done)), H', ⟨Nat.le_refl _⟩, by repeat (first | exact Drawn0.refl _ | apply Drawn0.step)⟩
 case round =>
  clear H'
  try clear c1
  try clear p2
  obtain ⟨x5_1, x6_1, rfl, rfl, HA, HK1, ⟨m1, rfl⟩⟩ := hrel
  cases gk with
  | zero => exact absurd HA.out (by simp [spec_l20Heat.l0])
  | succ k1 =>
   have H := HA.out
   clear HA
   simp only [spec_l20Heat.l0] at H
   by_cases c3 : x6_1 < (l0.length : Int)
   ·
    rw [if_pos c3] at H
    have c3b0 : decide (x6_1 < (l0.length : Int)) = true := decide_eq_true c3
    clear c3
    by_cases c4 : 0 ≤ x6_1
    ·
     rw [if_pos c4] at H
     have c4b0 : decide (0 ≤ x6_1) = true := decide_eq_true c4
     clear c4
     by_cases c5 : x6_1 < (l1.length : Int)
     ·
      rw [if_pos c5] at H
      have c5b0 : decide (x6_1 < (l1.length : Int)) = true := decide_eq_true c5
      clear c5
      have H' := Aside0.mk H
      clear H
      have p186 : 0 ≤ (x6_1 : Int) := of_decide_eq_true (by first | (with_reducible assumption) | assumption)
      have q186 : x6_1 < (l0.length : Int) := of_decide_eq_true (by first | (with_reducible assumption) | assumption)
      obtain ⟨ad186, e186, hx186_0, hx186_1, hx186_2, hx186_3⟩ := at_T43 HR0.out x6_1 p186 q186
      cases e186
      replace p186 := eq_true p186
      replace q186 := eq_true q186
      have p187 : 0 ≤ (x6_1 : Int) := of_decide_eq_true (by first | (with_reducible assumption) | assumption)
      have q187 : x6_1 < (l1.length : Int) := of_decide_eq_true (by first | (with_reducible assumption) | assumption)
      obtain ⟨ad187, e187, hx187_0⟩ := Kd.at_int HR1.out x6_1 p187 q187
      cases e187
      replace p187 := eq_true p187
      replace q187 := eq_true q187
      go_wp2
      repeat (go_quiet (fail); try go_wp2)
      go_roundg k1
      case measure => have := HK1.out; omega
      case rel => exact ⟨(wrap64 (x5_1 + (wrap64 (((rd_T43 l0 x6_1).f2) * (rd l1 x6_1))))), (wrap64 (x6_1 + 1)), (by first | rfl | (simp; done) | (simp [*]; done)), (by first | rfl | (simp; done) | (simp [*]; done)), H', ⟨by have := HK1.out; omega⟩, by repeat (first | exact Drawn0.refl _ | apply Drawn0.step)⟩
     ·
      rw [if_neg c5] at H
      exact absurd H (by simp)
    ·
     rw [if_neg c4] at H
     exact absurd H (by simp)
   ·
    rw [if_neg c3] at H
    have c3b0 : decide (x6_1 < (l0.length : Int)) = false := decide_eq_false c3
    clear c3
    obtain rfl := Option.some.inj H
    go_wp2
    repeat (go_quiet (fail); try go_wp2)
    go_ret
    exact ⟨by first | rfl | (simp; done) | (simp [*]; done), by repeat (first | exact Drawn0.refl _ | apply Drawn0.step)⟩

/-! ### spec_l00Max: function 74 -/
def spec_l00Max.f (a0 : Int) (a1 : Int) : Option (Int) := if a0 > a1 then (some a0) else (some a1)
set_option maxHeartbeats 8000000 in
set_option maxRecDepth 100000 in
theorem spec_l00Max.calls (a0 : Int) (a1 : Int) (r : Int) (w : World) (h : spec_l00Max.f a0 a1 = some r) :
  Calls Try.prog 74 #[.int .i64 a0, .int .i64 a1] w fun e w' => e = .returned (.int .i64 r) ∧ Drawn0 w w' := by
 have H : (if a0 > a1 then (some a0) else (some a1)) = some r := h
 clear h
 by_cases c3 : a0 > a1
 ·
  rw [if_pos c3] at H
  have c3b0 : decide (a1 < a0) = true := decide_eq_true c3
  clear c3
  obtain rfl := Option.some.inj H
  go_enter Try.func74, Try.ntmps74
  go_wp2
  go_ret
  exact ⟨by first | rfl | (simp; done) | (simp [*]; done), by repeat (first | exact Drawn0.refl _ | apply Drawn0.step)⟩
 ·
  rw [if_neg c3] at H
  have c3b0 : decide (a1 < a0) = false := decide_eq_false c3
  clear c3
  obtain rfl := Option.some.inj H
  go_enter Try.func74, Try.ntmps74
  go_wp2
  go_ret
  exact ⟨by first | rfl | (simp; done) | (simp [*]; done), by repeat (first | exact Drawn0.refl _ | apply Drawn0.step)⟩

end Go.Proofs.Ytffmkjnjopflnaa.PFnExactBestGangs
