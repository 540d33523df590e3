-- PRINTED by print.py (a twelfth state) out of the translation. Not trusted: Lean checks it.
import Derived.Test.YtenjhbkpcelidaaPFnMergesx0
import Derived.Test.YtenjhbkpcelidaaPFnMergesx7
import Derived.Test.YtenjhbkpcelidaaPFnMergesx8
import Derived.Test.YtenjhbkpcelidaaPFnMergesx10
import Derived.Test.YtenjhbkpcelidaaPFnMergesx11
import Derived.Test.YtenjhbkpcelidaaPFnMergesx12
import Derived.Test.YtenjhbkpcelidaaPFnMergesx13
import Derived.Test.YtenjhbkpcelidaaPFnMergesx14
namespace Go.Proofs.Ytenjhbkpcelidaa.PFnMerges
open Go.RowKit Go.Proofs.YtenjhbkpcelidaaW.PrintWords Go.Proofs.YtenjhbkpcelidaaW.PrintLast Go.Proofs.YtenjhbkpcelidaaW.PrintMore
attribute [local go_sem] max2_int min2_int max_two min_two max_three min_three max_four min_four   -- for this text's walks alone
set_option linter.unusedVariables false
set_option linter.unusedSimpArgs false

/-! ### laws_FnMerges: function 7 -/
mutual
def laws_FnMerges.j0 : Nat → List Int → List (S71) → List (S71) → List (S71) → Bool → Option (Bool)
 | 0, _, _, _, _, _ => none
 | k + 1, x1, x5, x6, x7, x91 => if x91 = true then (some false) else ((impl_ConflictsOf.f k x5 x6 x7).bind fun bt422 => ((impl_ConflictsOf.f k x5 x7 x6).bind fun bt426 => ((impl_MergeStates.f k x5 x6 x7).bind fun bt430 => ((impl_MergeStates.f k x5 x7 x6).bind fun bt434 => (if bt422.2 = 0 then (if bt426.2 = 0 then (if (bt422.1.length : Int) = (bt426.1.length : Int) then (if bt430.2 = bt434.2 then (if ((bt430.2 == 6) != (decide ((bt422.1.length : Int) > 0))) = true then (laws_FnMerges.j1 k x1 true) else (if bt430.2 = 0 then ((spec_SameState.f k bt430.1 bt434.1).bind fun t438 => (if t438 = true then ((spec_ValidState.f k bt430.1).bind fun t439 => (laws_FnMerges.j1 k x1 (!t439))) else (laws_FnMerges.j1 k x1 true))) else (laws_FnMerges.j1 k x1 false))) else (laws_FnMerges.j1 k x1 true)) else (laws_FnMerges.j1 k x1 true)) else (laws_FnMerges.j1 k x1 true)) else (laws_FnMerges.j1 k x1 true))))))
def laws_FnMerges.j1 : Nat → List Int → Bool → Option (Bool)
 | 0, _, _ => none
 | k + 1, x1, x160 => if x160 = true then (some false) else ((spec_R8History.f k x1).bind fun t440 => (if (t440.length : Int) = 0 then (some true) else ((laws_r8At.f x1 0 (t440.length : Int)).bind fun t443 => ((laws_r8At.f x1 1 (t440.length : Int)).bind fun t444 => ((impl_CommonAncestor.f k t440 (wrap64 (1 + t443)) (wrap64 (1 + t444))).bind fun bt445 => ((impl_CommonAncestor.f k t440 (wrap64 (1 + t444)) (wrap64 (1 + t443))).bind fun bt447 => ((impl_MergeVersions.f k t440 (wrap64 (1 + t443)) (wrap64 (1 + t444)) (⟨#[98, 111, 116, 104]⟩ : ByteArray)).bind fun bt449 => (if bt445.2 = 0 then (if bt447.2 = 0 then (if bt445.1 = bt447.1 then (if bt445.1 < 0 then (some false) else (if bt445.1 > (mn (wrap64 (1 + t443)) (wrap64 (1 + t444))) then (some false) else (if bt449.2 = 0 then (if (bt449.1.length : Int) = (wrap64 ((t440.length : Int) + 1)) then ((spec_ValidHistory.f k bt449.1).bind fun t453 => (some t453)) else (some false)) else (some true)))) else (some false)) else (some false)) else (some false)))))))))
end
def laws_FnMerges.f (k : Nat) (l0 : List Int) (l1 : List Int) : Option (Bool) := (laws_r8Long.f l0 l1).bind fun t397 => (if t397 = true then (some true) else ((spec_R8State.f k l0).bind fun t398 => ((spec_R8Changed.f k l1 t398).bind fun t401 => ((spec_R8Changed.f k l0 t398).bind fun t404 => ((impl_MergeStates.f k t398 t401 t398).bind fun bt407 => ((impl_MergeStates.f k t398 t398 t401).bind fun bt411 => ((impl_MergeStates.f k t398 t401 t401).bind fun bt415 => (if bt407.2 = 0 then (if bt411.2 = 0 then (if bt415.2 = 0 then ((spec_SameState.f k bt407.1 t401).bind fun t419 => (if t419 = true then ((spec_SameState.f k bt411.1 t401).bind fun t420 => (if t420 = true then ((spec_SameState.f k bt415.1 t401).bind fun t421 => (laws_FnMerges.j0 k l1 t398 t401 t404 (!t421))) else (laws_FnMerges.j0 k l1 t398 t401 t404 true))) else (laws_FnMerges.j0 k l1 t398 t401 t404 true))) else (laws_FnMerges.j0 k l1 t398 t401 t404 true)) else (laws_FnMerges.j0 k l1 t398 t401 t404 true)) else (laws_FnMerges.j0 k l1 t398 t401 t404 true)))))))))
theorem laws_FnMerges.mono_l : ∀ k, (∀ y0 y1 y2 y3 y4, LeO (laws_FnMerges.j0 k y0 y1 y2 y3 y4) (laws_FnMerges.j0 (k + 1) y0 y1 y2 y3 y4)) ∧ (∀ y0 y1, LeO (laws_FnMerges.j1 k y0 y1) (laws_FnMerges.j1 (k + 1) y0 y1))
 | 0 => ⟨fun _ _ _ _ _ r h => by simp [laws_FnMerges.j0] at h, fun _ _ r h => by simp [laws_FnMerges.j1] at h⟩
 | k + 1 => by
  obtain ⟨ih0, ih1⟩ := laws_FnMerges.mono_l k
  refine ⟨?_, ?_⟩
  ·
   intro y0 y1 y2 y3 y4
   unfold laws_FnMerges.j0
   repeat' first
   | (with_reducible exact ih0 _ _ _ _ _)
   | (with_reducible exact ih1 _ _)
   | (with_reducible exact impl_CommonAncestor.mono _ _ _ _)
   | (with_reducible exact impl_ConflictsOf.mono _ _ _ _)
   | (with_reducible exact impl_MergeStates.mono _ _ _ _)
   | (with_reducible exact impl_MergeVersions.mono _ _ _ _ _)
   | (with_reducible exact spec_R8Changed.mono _ _ _)
   | (with_reducible exact spec_R8History.mono _ _)
   | (with_reducible exact spec_R8State.mono _ _)
   | (with_reducible exact spec_SameState.mono _ _ _)
   | (with_reducible exact spec_ValidHistory.mono _ _)
   | (with_reducible exact spec_ValidState.mono _ _)
   | (with_reducible exact LeO.refl _)
   | (with_reducible exact LeO.none _)
   | (with_reducible refine LeO.ite ?_ ?_)
   | (with_reducible refine LeO.bind ?_ (fun _ => ?_))
   | exact ih0 _ _ _ _ _
   | exact ih1 _ _
   | exact impl_CommonAncestor.mono _ _ _ _
   | exact impl_ConflictsOf.mono _ _ _ _
   | exact impl_MergeStates.mono _ _ _ _
   | exact impl_MergeVersions.mono _ _ _ _ _
   | exact spec_R8Changed.mono _ _ _
   | exact spec_R8History.mono _ _
   | exact spec_R8State.mono _ _
   | exact spec_SameState.mono _ _ _
   | exact spec_ValidHistory.mono _ _
   | exact spec_ValidState.mono _ _
   | exact LeO.none _
   | refine LeO.ite ?_ ?_
   | refine LeO.bind ?_ (fun _ => ?_)
  ·
   intro y0 y1
   unfold laws_FnMerges.j1
   repeat' first
   | (with_reducible exact ih0 _ _ _ _ _)
   | (with_reducible exact ih1 _ _)
   | (with_reducible exact impl_CommonAncestor.mono _ _ _ _)
   | (with_reducible exact impl_ConflictsOf.mono _ _ _ _)
   | (with_reducible exact impl_MergeStates.mono _ _ _ _)
   | (with_reducible exact impl_MergeVersions.mono _ _ _ _ _)
   | (with_reducible exact spec_R8Changed.mono _ _ _)
   | (with_reducible exact spec_R8History.mono _ _)
   | (with_reducible exact spec_R8State.mono _ _)
   | (with_reducible exact spec_SameState.mono _ _ _)
   | (with_reducible exact spec_ValidHistory.mono _ _)
   | (with_reducible exact spec_ValidState.mono _ _)
   | (with_reducible exact LeO.refl _)
   | (with_reducible exact LeO.none _)
   | (with_reducible refine LeO.ite ?_ ?_)
   | (with_reducible refine LeO.bind ?_ (fun _ => ?_))
   | exact ih0 _ _ _ _ _
   | exact ih1 _ _
   | exact impl_CommonAncestor.mono _ _ _ _
   | exact impl_ConflictsOf.mono _ _ _ _
   | exact impl_MergeStates.mono _ _ _ _
   | exact impl_MergeVersions.mono _ _ _ _ _
   | exact spec_R8Changed.mono _ _ _
   | exact spec_R8History.mono _ _
   | exact spec_R8State.mono _ _
   | exact spec_SameState.mono _ _ _
   | exact spec_ValidHistory.mono _ _
   | exact spec_ValidState.mono _ _
   | exact LeO.none _
   | refine LeO.ite ?_ ?_
   | refine LeO.bind ?_ (fun _ => ?_)
theorem laws_FnMerges.mono : ∀ a0 a1 k, LeO (laws_FnMerges.f k a0 a1) (laws_FnMerges.f (k + 1) a0 a1) := by
 intro a0 a1 k
 obtain ⟨ih0, ih1⟩ := laws_FnMerges.mono_l k
 unfold laws_FnMerges.f
 repeat' first
   | (with_reducible exact ih0 _ _ _ _ _)
   | (with_reducible exact ih1 _ _)
   | (with_reducible exact impl_CommonAncestor.mono _ _ _ _)
   | (with_reducible exact impl_ConflictsOf.mono _ _ _ _)
   | (with_reducible exact impl_MergeStates.mono _ _ _ _)
   | (with_reducible exact impl_MergeVersions.mono _ _ _ _ _)
   | (with_reducible exact spec_R8Changed.mono _ _ _)
   | (with_reducible exact spec_R8History.mono _ _)
   | (with_reducible exact spec_R8State.mono _ _)
   | (with_reducible exact spec_SameState.mono _ _ _)
   | (with_reducible exact spec_ValidHistory.mono _ _)
   | (with_reducible exact spec_ValidState.mono _ _)
   | (with_reducible exact LeO.refl _)
   | (with_reducible exact LeO.none _)
   | (with_reducible refine LeO.ite ?_ ?_)
   | (with_reducible refine LeO.bind ?_ (fun _ => ?_))
   | exact ih0 _ _ _ _ _
   | exact ih1 _ _
   | exact impl_CommonAncestor.mono _ _ _ _
   | exact impl_ConflictsOf.mono _ _ _ _
   | exact impl_MergeStates.mono _ _ _ _
   | exact impl_MergeVersions.mono _ _ _ _ _
   | exact spec_R8Changed.mono _ _ _
   | exact spec_R8History.mono _ _
   | exact spec_R8State.mono _ _
   | exact spec_SameState.mono _ _ _
   | exact spec_ValidHistory.mono _ _
   | exact spec_ValidState.mono _ _
   | exact LeO.none _
   | refine LeO.ite ?_ ?_
   | refine LeO.bind ?_ (fun _ => ?_)
set_option maxHeartbeats 8000000 in
set_option maxRecDepth 100000 in
theorem laws_FnMerges.calls (k : Nat) (A0 : Option Addr) (c0 : Nat) (l0 : List Int) (A1 : Option Addr) (c1 : Nat) (l1 : List Int) (r : Bool) (w : World) (hr0 : Kd.C (Kd.int .u8) w A0 l0.length l0) (hc0 : l0.length ≤ c0) (hr1 : Kd.C (Kd.int .u8) w A1 l1.length l1) (hc1 : l1.length ≤ c1) (h : laws_FnMerges.f k l0 l1 = some r) :
  Calls Try.prog 7 #[.slice A0 l0.length c0, .slice A1 l1.length c1] w fun e w' => e = .returned (.bool r) ∧ Below w.heap.size w w' := by
 have HR0 := Aside0.mk hr0
 have HC0 := Aside0.mk hc0
 clear hr0 hc0
 have HR1 := Aside0.mk hr1
 have HC1 := Aside0.mk hc1
 clear hr1 hc1
 have HB := Aside0.mk (Below.refl w.heap.size w)
 have H : ((laws_r8Long.f l0 l1).bind fun t397 => (if t397 = true then (some true) else ((spec_R8State.f k l0).bind fun t398 => ((spec_R8Changed.f k l1 t398).bind fun t401 => ((spec_R8Changed.f k l0 t398).bind fun t404 => ((impl_MergeStates.f k t398 t401 t398).bind fun bt407 => ((impl_MergeStates.f k t398 t398 t401).bind fun bt411 => ((impl_MergeStates.f k t398 t401 t401).bind fun bt415 => (if bt407.2 = 0 then (if bt411.2 = 0 then (if bt415.2 = 0 then ((spec_SameState.f k bt407.1 t401).bind fun t419 => (if t419 = true then ((spec_SameState.f k bt411.1 t401).bind fun t420 => (if t420 = true then ((spec_SameState.f k bt415.1 t401).bind fun t421 => (laws_FnMerges.j0 k l1 t398 t401 t404 (!t421))) else (laws_FnMerges.j0 k l1 t398 t401 t404 true))) else (laws_FnMerges.j0 k l1 t398 t401 t404 true))) else (laws_FnMerges.j0 k l1 t398 t401 t404 true)) else (laws_FnMerges.j0 k l1 t398 t401 t404 true)) else (laws_FnMerges.j0 k l1 t398 t401 t404 true)))))))))) = some r := h
 clear h
 replace H := Option.bind_eq_some_iff.mp H
 obtain ⟨t397, A30, H⟩ := H
 replace H : (if t397 = true then (some true) else ((spec_R8State.f k l0).bind fun t398 => ((spec_R8Changed.f k l1 t398).bind fun t401 => ((spec_R8Changed.f k l0 t398).bind fun t404 => ((impl_MergeStates.f k t398 t401 t398).bind fun bt407 => ((impl_MergeStates.f k t398 t398 t401).bind fun bt411 => ((impl_MergeStates.f k t398 t401 t401).bind fun bt415 => (if bt407.2 = 0 then (if bt411.2 = 0 then (if bt415.2 = 0 then ((spec_SameState.f k bt407.1 t401).bind fun t419 => (if t419 = true then ((spec_SameState.f k bt411.1 t401).bind fun t420 => (if t420 = true then ((spec_SameState.f k bt415.1 t401).bind fun t421 => (laws_FnMerges.j0 k l1 t398 t401 t404 (!t421))) else (laws_FnMerges.j0 k l1 t398 t401 t404 true))) else (laws_FnMerges.j0 k l1 t398 t401 t404 true))) else (laws_FnMerges.j0 k l1 t398 t401 t404 true)) else (laws_FnMerges.j0 k l1 t398 t401 t404 true)) else (laws_FnMerges.j0 k l1 t398 t401 t404 true))))))))) = some r := H
 have A3 := Aside0.mk A30
 clear A30
 by_cases c4 : t397 = true
 ·
  subst c4
  have H1 : (some true) = some r := by rw [if_pos rfl] at H; exact H
  clear H
  have H := H1
  clear H1
  obtain rfl := Option.some.inj H
  go_enter Try.func7, Try.ntmps7
  as_aux_lemma =>
   go_wp2_with (first | ((with_reducible refine gate_callee (f := 33) rfl ?_); refine goesL_ (some 34) rfl rfl Try.func33 (by kernel_rfl) rfl #[.slice A0 l0.length c0, .slice A1 l1.length c1] rfl mT_ ?_; (with_reducible refine (laws_r8Long.calls _ _ l0 _ _ l1 true _ ?side1 ?side2 ?side3 ?side4 A3.out).mono ?_); (case side1 => exact cA_ HR0.out); (case side2 => exact HC0.out); (case side3 => exact cA_ HR1.out); (case side4 => exact HC1.out); rintro e w' ⟨rfl, ⟨nd, rfl⟩⟩; refine ⟨_, rfl, ?_⟩))
   go_ret
   exact ⟨er_, bB_⟩
 ·
  replace c4 := Bool.eq_false_iff.mpr c4
  subst c4
  have H1 : ((spec_R8State.f k l0).bind fun t398 => ((spec_R8Changed.f k l1 t398).bind fun t401 => ((spec_R8Changed.f k l0 t398).bind fun t404 => ((impl_MergeStates.f k t398 t401 t398).bind fun bt407 => ((impl_MergeStates.f k t398 t398 t401).bind fun bt411 => ((impl_MergeStates.f k t398 t401 t401).bind fun bt415 => (if bt407.2 = 0 then (if bt411.2 = 0 then (if bt415.2 = 0 then ((spec_SameState.f k bt407.1 t401).bind fun t419 => (if t419 = true then ((spec_SameState.f k bt411.1 t401).bind fun t420 => (if t420 = true then ((spec_SameState.f k bt415.1 t401).bind fun t421 => (laws_FnMerges.j0 k l1 t398 t401 t404 (!t421))) else (laws_FnMerges.j0 k l1 t398 t401 t404 true))) else (laws_FnMerges.j0 k l1 t398 t401 t404 true))) else (laws_FnMerges.j0 k l1 t398 t401 t404 true)) else (laws_FnMerges.j0 k l1 t398 t401 t404 true)) else (laws_FnMerges.j0 k l1 t398 t401 t404 true)))))))) = some r := by rw [if_neg (show ¬ (false = true) by decide)] at H; exact H
  clear H
  have H := H1
  clear H1
  replace H := Option.bind_eq_some_iff.mp H
  obtain ⟨t398, A50, H⟩ := H
  replace H : ((spec_R8Changed.f k l1 t398).bind fun t401 => ((spec_R8Changed.f k l0 t398).bind fun t404 => ((impl_MergeStates.f k t398 t401 t398).bind fun bt407 => ((impl_MergeStates.f k t398 t398 t401).bind fun bt411 => ((impl_MergeStates.f k t398 t401 t401).bind fun bt415 => (if bt407.2 = 0 then (if bt411.2 = 0 then (if bt415.2 = 0 then ((spec_SameState.f k bt407.1 t401).bind fun t419 => (if t419 = true then ((spec_SameState.f k bt411.1 t401).bind fun t420 => (if t420 = true then ((spec_SameState.f k bt415.1 t401).bind fun t421 => (laws_FnMerges.j0 k l1 t398 t401 t404 (!t421))) else (laws_FnMerges.j0 k l1 t398 t401 t404 true))) else (laws_FnMerges.j0 k l1 t398 t401 t404 true))) else (laws_FnMerges.j0 k l1 t398 t401 t404 true)) else (laws_FnMerges.j0 k l1 t398 t401 t404 true)) else (laws_FnMerges.j0 k l1 t398 t401 t404 true))))))) = some r := H
  have A5 := Aside0.mk A50
  clear A50
  replace H := Option.bind_eq_some_iff.mp H
  obtain ⟨t401, A60, H⟩ := H
  replace H : ((spec_R8Changed.f k l0 t398).bind fun t404 => ((impl_MergeStates.f k t398 t401 t398).bind fun bt407 => ((impl_MergeStates.f k t398 t398 t401).bind fun bt411 => ((impl_MergeStates.f k t398 t401 t401).bind fun bt415 => (if bt407.2 = 0 then (if bt411.2 = 0 then (if bt415.2 = 0 then ((spec_SameState.f k bt407.1 t401).bind fun t419 => (if t419 = true then ((spec_SameState.f k bt411.1 t401).bind fun t420 => (if t420 = true then ((spec_SameState.f k bt415.1 t401).bind fun t421 => (laws_FnMerges.j0 k l1 t398 t401 t404 (!t421))) else (laws_FnMerges.j0 k l1 t398 t401 t404 true))) else (laws_FnMerges.j0 k l1 t398 t401 t404 true))) else (laws_FnMerges.j0 k l1 t398 t401 t404 true)) else (laws_FnMerges.j0 k l1 t398 t401 t404 true)) else (laws_FnMerges.j0 k l1 t398 t401 t404 true)))))) = some r := H
  have A6 := Aside0.mk A60
  clear A60
  replace H := Option.bind_eq_some_iff.mp H
  obtain ⟨t404, A70, H⟩ := H
  replace H : ((impl_MergeStates.f k t398 t401 t398).bind fun bt407 => ((impl_MergeStates.f k t398 t398 t401).bind fun bt411 => ((impl_MergeStates.f k t398 t401 t401).bind fun bt415 => (if bt407.2 = 0 then (if bt411.2 = 0 then (if bt415.2 = 0 then ((spec_SameState.f k bt407.1 t401).bind fun t419 => (if t419 = true then ((spec_SameState.f k bt411.1 t401).bind fun t420 => (if t420 = true then ((spec_SameState.f k bt415.1 t401).bind fun t421 => (laws_FnMerges.j0 k l1 t398 t401 t404 (!t421))) else (laws_FnMerges.j0 k l1 t398 t401 t404 true))) else (laws_FnMerges.j0 k l1 t398 t401 t404 true))) else (laws_FnMerges.j0 k l1 t398 t401 t404 true)) else (laws_FnMerges.j0 k l1 t398 t401 t404 true)) else (laws_FnMerges.j0 k l1 t398 t401 t404 true))))) = some r := H
  have A7 := Aside0.mk A70
  clear A70
  replace H := Option.bind_eq_some_iff.mp H
  obtain ⟨⟨t407, t410⟩, A80, H⟩ := H
  replace H : ((impl_MergeStates.f k t398 t398 t401).bind fun bt411 => ((impl_MergeStates.f k t398 t401 t401).bind fun bt415 => (if t410 = 0 then (if bt411.2 = 0 then (if bt415.2 = 0 then ((spec_SameState.f k t407 t401).bind fun t419 => (if t419 = true then ((spec_SameState.f k bt411.1 t401).bind fun t420 => (if t420 = true then ((spec_SameState.f k bt415.1 t401).bind fun t421 => (laws_FnMerges.j0 k l1 t398 t401 t404 (!t421))) else (laws_FnMerges.j0 k l1 t398 t401 t404 true))) else (laws_FnMerges.j0 k l1 t398 t401 t404 true))) else (laws_FnMerges.j0 k l1 t398 t401 t404 true)) else (laws_FnMerges.j0 k l1 t398 t401 t404 true)) else (laws_FnMerges.j0 k l1 t398 t401 t404 true)))) = some r := H
  have A8 := Aside0.mk A80
  clear A80
  replace H := Option.bind_eq_some_iff.mp H
  obtain ⟨⟨t411, t414⟩, A90, H⟩ := H
  replace H : ((impl_MergeStates.f k t398 t401 t401).bind fun bt415 => (if t410 = 0 then (if t414 = 0 then (if bt415.2 = 0 then ((spec_SameState.f k t407 t401).bind fun t419 => (if t419 = true then ((spec_SameState.f k t411 t401).bind fun t420 => (if t420 = true then ((spec_SameState.f k bt415.1 t401).bind fun t421 => (laws_FnMerges.j0 k l1 t398 t401 t404 (!t421))) else (laws_FnMerges.j0 k l1 t398 t401 t404 true))) else (laws_FnMerges.j0 k l1 t398 t401 t404 true))) else (laws_FnMerges.j0 k l1 t398 t401 t404 true)) else (laws_FnMerges.j0 k l1 t398 t401 t404 true)) else (laws_FnMerges.j0 k l1 t398 t401 t404 true))) = some r := H
  have A9 := Aside0.mk A90
  clear A90
  replace H := Option.bind_eq_some_iff.mp H
  obtain ⟨⟨t415, t418⟩, A100, H⟩ := H
  replace H : (if t410 = 0 then (if t414 = 0 then (if t418 = 0 then ((spec_SameState.f k t407 t401).bind fun t419 => (if t419 = true then ((spec_SameState.f k t411 t401).bind fun t420 => (if t420 = true then ((spec_SameState.f k t415 t401).bind fun t421 => (laws_FnMerges.j0 k l1 t398 t401 t404 (!t421))) else (laws_FnMerges.j0 k l1 t398 t401 t404 true))) else (laws_FnMerges.j0 k l1 t398 t401 t404 true))) else (laws_FnMerges.j0 k l1 t398 t401 t404 true)) else (laws_FnMerges.j0 k l1 t398 t401 t404 true)) else (laws_FnMerges.j0 k l1 t398 t401 t404 true)) = some r := H
  have A10 := Aside0.mk A100
  clear A100
  have HC11 := Aside0.mk H
  clear H
  go_enter Try.func7, Try.ntmps7
  go_upto_region 9 with (first | ((with_reducible refine gate_callee (f := 33) rfl ?_); refine goesL_ (some 34) rfl rfl Try.func33 (by kernel_rfl) rfl #[.slice A0 l0.length c0, .slice A1 l1.length c1] rfl mT_ ?_; (with_reducible refine (laws_r8Long.calls _ _ l0 _ _ l1 false _ ?side1 ?side2 ?side3 ?side4 A3.out).mono ?_); (case side1 => exact cA_ HR0.out); (case side2 => exact HC0.out); (case side3 => exact cA_ HR1.out); (case side4 => exact HC1.out); rintro e w' ⟨rfl, ⟨nd, rfl⟩⟩; refine ⟨_, rfl, ?_⟩) | ((with_reducible refine gate_callee (f := 34) rfl ?_); refine goesL_ (some 36) rfl rfl Try.func34 (by kernel_rfl) rfl #[.slice A0 l0.length c0] rfl mT_ ?_; (with_reducible refine (spec_R8State.calls k _ _ l0 t398 _ ?side1 ?side2 A5.out).mono ?_); (case side1 => exact cA_ HR0.out); (case side2 => exact HC0.out); rintro e w12 ⟨v399, rfl, ho0, hb⟩; refine ⟨_, rfl, ?_⟩; have n0_ := Aside0.mk (Kd.R_lower ho0 (below_size bB_)); have n1_ := Aside0.mk (below_step bB_ hb); clear HB; have HO400 := n0_; have HB := n1_; clear n0_ n1_; (try clear hb); (try clear hb2); (try clear hk); (try clear hi); (try clear ho0); obtain ⟨Ao13, co13, eo13⟩ := Kd.R_slice HO400.out; subst eo13) | ((with_reducible refine gate_callee (f := 35) rfl ?_); refine goesL_ (some 39) rfl rfl Try.func35 (by kernel_rfl) rfl #[.slice A1 l1.length c1, .slice Ao13 t398.length co13] rfl mT_ ?_; (with_reducible refine (spec_R8Changed.calls k _ _ l1 _ _ t398 t401 _ ?side1 ?side2 ?side3 ?side4 A6.out).mono ?_); (case side1 => exact cA_ (Kd.C_below HR1.out HB.out)); (case side2 => exact HC1.out); (case side3 => repeat (first | exact (Kd.R_reads' HO400.out).2.2 | (with_reducible refine Kd.C_alloc ?_ _) | (with_reducible refine Kd.C_drewN ?_ _) | (with_reducible refine Kd.C_drew ?_))); (case side4 => exact (Kd.R_reads' HO400.out).2.1); rintro e w14 ⟨v402, rfl, ho0, hb⟩; refine ⟨_, rfl, ?_⟩; have n0_ := Aside0.mk (Kd.R_elder' (rA_ HO400.out) (Kd.R_base ho0) hb); have n1_ := Aside0.mk (Kd.R_lower (Kd.R_new' ho0 (Kd.R_lt (rA_ HO400.out))) (below_size bB_)); have n2_ := Aside0.mk (below_step bB_ hb); clear HO400; clear HB; have HO400 := n0_; have HO403 := n1_; have HB := n2_; clear n0_ n1_ n2_; (try clear hb); (try clear hb2); (try clear hk); (try clear hi); (try clear ho0)) | ((with_reducible refine gate_callee (f := 35) rfl ?_); refine goesL_ (some 42) rfl rfl Try.func35 (by kernel_rfl) rfl #[.slice A0 l0.length c0, .slice Ao13 t398.length co13] rfl mT_ ?_; (with_reducible refine (spec_R8Changed.calls k _ _ l0 _ _ t398 t404 _ ?side1 ?side2 ?side3 ?side4 A7.out).mono ?_); (case side1 => exact cA_ (Kd.C_below HR0.out HB.out)); (case side2 => exact HC0.out); (case side3 => repeat (first | exact (Kd.R_reads' HO400.out).2.2 | (with_reducible refine Kd.C_alloc ?_ _) | (with_reducible refine Kd.C_drewN ?_ _) | (with_reducible refine Kd.C_drew ?_))); (case side4 => exact (Kd.R_reads' HO400.out).2.1); rintro e w15 ⟨v405, rfl, ho0, hb⟩; refine ⟨_, rfl, ?_⟩; have n0_ := Aside0.mk (Kd.R_elder' (rA_ HO400.out) (Kd.R_base ho0) hb); have n1_ := Aside0.mk (Kd.R_elder' (rA_ HO403.out) (Kd.R_base ho0) hb); have n2_ := Aside0.mk (Kd.R_lower (Kd.R_new' (Kd.R_new' ho0 (Kd.R_lt (rA_ HO400.out))) (Kd.R_lt (rA_ HO403.out))) (below_size bB_)); have n3_ := Aside0.mk (below_step bB_ hb); clear HO400; clear HO403; clear HB; have HO400 := n0_; have HO403 := n1_; have HO406 := n2_; have HB := n3_; clear n0_ n1_ n2_ n3_; (try clear hb); (try clear hb2); (try clear hk); (try clear hi); (try clear ho0); obtain ⟨Ao16, co16, eo16⟩ := Kd.R_slice HO403.out; subst eo16) | ((with_reducible refine gate_callee (f := 25) rfl ?_); refine goesL_ (some 47) rfl rfl Try.func25 (by kernel_rfl) rfl #[.slice Ao13 t398.length co13, .slice Ao16 t401.length co16, .slice Ao13 t398.length co13] rfl mT_ ?_; (with_reducible refine (impl_MergeStates.calls k (fun k_ => some k_ = (.slice Ao13 t398.length co13 : Value).ownBlock) _ _ t398 (fun k_ => some k_ = (.slice Ao16 t401.length co16 : Value).ownBlock) _ _ t401 (fun k_ => some k_ = (.slice Ao13 t398.length co13 : Value).ownBlock) _ _ t398 t407 t410 _ ?side1 ?side2 ?side3 A8.out).mono ?_); (case side1 => exact Kd.R_V (Kd.R_tight rfl (HO400.out))); (case side2 => exact Kd.R_V (Kd.R_tight rfl (HO403.out))); (case side3 => exact Kd.R_V (Kd.R_tight rfl (HO400.out))); rintro e w17 ⟨v408, rfl, ho0, hb⟩; refine ⟨_, rfl, ?_⟩; have n0_ := Aside0.mk (Kd.R_elder' (rA_ HO400.out) (Kd.R_base ho0) hb); have n1_ := Aside0.mk (Kd.R_elder' (rA_ HO403.out) (Kd.R_base ho0) hb); have n2_ := Aside0.mk (Kd.R_elder' (rA_ HO406.out) (Kd.R_base ho0) hb); have n3_ := Aside0.mk (Kd.R_lower (Kd.R_new' (Kd.R_new' (Kd.R_new' (Kd.R_mono (ok' := fun k_ => True) ho0 (fun _ hk_ => trivial)) (Kd.R_lt (rA_ HO400.out))) (Kd.R_lt (rA_ HO403.out))) (Kd.R_lt (rA_ HO406.out))) (below_size bB_)); have n4_ := Aside0.mk (below_step bB_ hb); clear HO400; clear HO403; clear HO406; clear HB; have HO400 := n0_; have HO403 := n1_; have HO406 := n2_; have HO409 := n3_; have HB := n4_; clear n0_ n1_ n2_ n3_ n4_; (try clear hb); (try clear hb2); (try clear hk); (try clear hi); (try clear ho0)) | ((with_reducible refine gate_callee (f := 25) rfl ?_); refine goesL_ (some 54) rfl rfl Try.func25 (by kernel_rfl) rfl #[.slice Ao13 t398.length co13, .slice Ao13 t398.length co13, .slice Ao16 t401.length co16] rfl mT_ ?_; (with_reducible refine (impl_MergeStates.calls k (fun k_ => some k_ = (.slice Ao13 t398.length co13 : Value).ownBlock) _ _ t398 (fun k_ => some k_ = (.slice Ao13 t398.length co13 : Value).ownBlock) _ _ t398 (fun k_ => some k_ = (.slice Ao16 t401.length co16 : Value).ownBlock) _ _ t401 t411 t414 _ ?side1 ?side2 ?side3 A9.out).mono ?_); (case side1 => exact Kd.R_V (Kd.R_tight rfl (HO400.out))); (case side2 => exact Kd.R_V (Kd.R_tight rfl (HO400.out))); (case side3 => exact Kd.R_V (Kd.R_tight rfl (HO403.out))); rintro e w18 ⟨v412, rfl, ho0, hb⟩; refine ⟨_, rfl, ?_⟩; have n0_ := Aside0.mk (Kd.R_elder' (rA_ HO400.out) (Kd.R_base ho0) hb); have n1_ := Aside0.mk (Kd.R_elder' (rA_ HO403.out) (Kd.R_base ho0) hb); have n2_ := Aside0.mk (Kd.R_elder' (rA_ HO406.out) (Kd.R_base ho0) hb); have n3_ := Aside0.mk (Kd.R_elder' (rA_ HO409.out) (Kd.R_base ho0) hb); have n4_ := Aside0.mk (Kd.R_lower (Kd.R_new' (Kd.R_new' (Kd.R_new' (Kd.R_new' (Kd.R_mono (ok' := fun k_ => True) ho0 (fun _ hk_ => trivial)) (Kd.R_lt (rA_ HO400.out))) (Kd.R_lt (rA_ HO403.out))) (Kd.R_lt (rA_ HO406.out))) (Kd.R_lt (rA_ HO409.out))) (below_size bB_)); have n5_ := Aside0.mk (below_step bB_ hb); clear HO400; clear HO403; clear HO406; clear HO409; clear HB; have HO400 := n0_; have HO403 := n1_; have HO406 := n2_; have HO409 := n3_; have HO413 := n4_; have HB := n5_; clear n0_ n1_ n2_ n3_ n4_ n5_; (try clear hb); (try clear hb2); (try clear hk); (try clear hi); (try clear ho0)) | ((with_reducible refine gate_callee (f := 25) rfl ?_); refine goesL_ (some 61) rfl rfl Try.func25 (by kernel_rfl) rfl #[.slice Ao13 t398.length co13, .slice Ao16 t401.length co16, .slice Ao16 t401.length co16] rfl mT_ ?_; (with_reducible refine (impl_MergeStates.calls k (fun k_ => some k_ = (.slice Ao13 t398.length co13 : Value).ownBlock) _ _ t398 (fun k_ => some k_ = (.slice Ao16 t401.length co16 : Value).ownBlock) _ _ t401 (fun k_ => some k_ = (.slice Ao16 t401.length co16 : Value).ownBlock) _ _ t401 t415 t418 _ ?side1 ?side2 ?side3 A10.out).mono ?_); (case side1 => exact Kd.R_V (Kd.R_tight rfl (HO400.out))); (case side2 => exact Kd.R_V (Kd.R_tight rfl (HO403.out))); (case side3 => exact Kd.R_V (Kd.R_tight rfl (HO403.out))); rintro e w19 ⟨v416, rfl, ho0, hb⟩; refine ⟨_, rfl, ?_⟩; have n0_ := Aside0.mk (Kd.R_elder' (rA_ HO400.out) (Kd.R_base ho0) hb); have n1_ := Aside0.mk (Kd.R_elder' (rA_ HO403.out) (Kd.R_base ho0) hb); have n2_ := Aside0.mk (Kd.R_elder' (rA_ HO406.out) (Kd.R_base ho0) hb); have n3_ := Aside0.mk (Kd.R_elder' (rA_ HO409.out) (Kd.R_base ho0) hb); have n4_ := Aside0.mk (Kd.R_elder' (rA_ HO413.out) (Kd.R_base ho0) hb); have n5_ := Aside0.mk (Kd.R_lower (Kd.R_new' (Kd.R_new' (Kd.R_new' (Kd.R_new' (Kd.R_new' (Kd.R_mono (ok' := fun k_ => True) ho0 (fun _ hk_ => trivial)) (Kd.R_lt (rA_ HO400.out))) (Kd.R_lt (rA_ HO403.out))) (Kd.R_lt (rA_ HO406.out))) (Kd.R_lt (rA_ HO409.out))) (Kd.R_lt (rA_ HO413.out))) (below_size bB_)); have n6_ := Aside0.mk (below_step bB_ hb); clear HO400; clear HO403; clear HO406; clear HO409; clear HO413; clear HB; have HO400 := n0_; have HO403 := n1_; have HO406 := n2_; have HO409 := n3_; have HO413 := n4_; have HO417 := n5_; have HB := n6_; clear n0_ n1_ n2_ n3_ n4_ n5_ n6_; (try clear hb); (try clear hb2); (try clear hk); (try clear hi); (try clear ho0)))
  (try simp only [Act.put, List.setIfInBounds_toArray, List.set_cons_zero, List.set_cons_succ])
  go_cut [91] (fun v91 wc => ∃ (kq : Nat) (x91_10 : Bool), v91 = .bool x91_10 ∧ Aside0 (laws_FnMerges.j0 kq l1 t398 t401 t404 x91_10 = some r) ∧ Aside0 (kq ≤ k) ∧ Aside0 (Kd.R k71 71 wc w.heap.size (fun k_ => some k_ ≠ ((.slice Ao16 t401.length co16) : Value).ownBlock ∧ some k_ ≠ (v405 : Value).ownBlock) (.slice Ao13 t398.length co13) t398) ∧ Aside0 (Kd.R k71 71 wc w.heap.size (fun k_ => some k_ ≠ ((.slice Ao13 t398.length co13) : Value).ownBlock ∧ some k_ ≠ (v405 : Value).ownBlock) (.slice Ao16 t401.length co16) t401) ∧ Aside0 (Kd.R k71 71 wc w.heap.size (fun k_ => some k_ ≠ ((.slice Ao13 t398.length co13) : Value).ownBlock ∧ some k_ ≠ ((.slice Ao16 t401.length co16) : Value).ownBlock) v405 t404) ∧ Aside0 (Below w.heap.size w wc))
  case first =>
   have H := HC11.out
   clear HC11
   by_cases c20 : t410 = 0
   ·
    rw [if_pos c20] at H
    have c20b0 : (t410 == 0) = true := beq_iff_eq.mpr c20
    have c20b1 : (t410 != 0) = false := bne_eq_false_iff_eq.mpr c20
    clear c20
    (first | rw [c20b0] | (simp only [i64_w, i32_w]; rw [c20b0]) | skip)
    by_cases c21 : t414 = 0
    ·
     rw [if_pos c21] at H
     have c21b0 : (t414 == 0) = true := beq_iff_eq.mpr c21
     have c21b1 : (t414 != 0) = false := bne_eq_false_iff_eq.mpr c21
     clear c21
     by_cases c22 : t418 = 0
     ·
      rw [if_pos c22] at H
      have c22b0 : (t418 == 0) = true := beq_iff_eq.mpr c22
      have c22b1 : (t418 != 0) = false := bne_eq_false_iff_eq.mpr c22
      clear c22
      replace H := Option.bind_eq_some_iff.mp H
      obtain ⟨t419, A230, H⟩ := H
      replace H : (if t419 = true then ((spec_SameState.f k t411 t401).bind fun t420 => (if t420 = true then ((spec_SameState.f k t415 t401).bind fun t421 => (laws_FnMerges.j0 k l1 t398 t401 t404 (!t421))) else (laws_FnMerges.j0 k l1 t398 t401 t404 true))) else (laws_FnMerges.j0 k l1 t398 t401 t404 true)) = some r := H
      have A23 := Aside0.mk A230
      clear A230
      by_cases c24 : t419 = true
      ·
       subst c24
       have H1 : ((spec_SameState.f k t411 t401).bind fun t420 => (if t420 = true then ((spec_SameState.f k t415 t401).bind fun t421 => (laws_FnMerges.j0 k l1 t398 t401 t404 (!t421))) else (laws_FnMerges.j0 k l1 t398 t401 t404 true))) = some r := by rw [if_pos rfl] at H; exact H
       clear H
       have H := H1
       clear H1
       replace H := Option.bind_eq_some_iff.mp H
       obtain ⟨t420, A250, H⟩ := H
       replace H : (if t420 = true then ((spec_SameState.f k t415 t401).bind fun t421 => (laws_FnMerges.j0 k l1 t398 t401 t404 (!t421))) else (laws_FnMerges.j0 k l1 t398 t401 t404 true)) = some r := H
       have A25 := Aside0.mk A250
       clear A250
       by_cases c26 : t420 = true
       ·
        subst c26
        have H1 : ((spec_SameState.f k t415 t401).bind fun t421 => (laws_FnMerges.j0 k l1 t398 t401 t404 (!t421))) = some r := by rw [if_pos rfl] at H; exact H
        clear H
        have H := H1
        clear H1
        replace H := Option.bind_eq_some_iff.mp H
        obtain ⟨t421, A270, H⟩ := H
        replace H : (laws_FnMerges.j0 k l1 t398 t401 t404 (!t421)) = some r := H
        have A27 := Aside0.mk A270
        clear A270
        have H' := Aside0.mk H
        clear H
        obtain ⟨Ao28, co28, eo28⟩ := Kd.R_slice HO409.out
        subst eo28
        as_aux_lemma =>
         go_wp2_with (first | (go_at_call 36; (with_reducible refine (spec_SameState.calls k _ _ t407 _ _ t401 true _ ?side1 ?side2 ?side3 ?side4 A23.out).mono ?_); (case side1 => repeat (first | exact (Kd.R_reads' HO409.out).2.2 | (with_reducible refine Kd.C_alloc ?_ _) | (with_reducible refine Kd.C_drewN ?_ _) | (with_reducible refine Kd.C_drew ?_))); (case side2 => exact (Kd.R_reads' HO409.out).2.1); (case side3 => repeat (first | exact (Kd.R_reads' HO403.out).2.2 | (with_reducible refine Kd.C_alloc ?_ _) | (with_reducible refine Kd.C_drewN ?_ _) | (with_reducible refine Kd.C_drew ?_))); (case side4 => exact (Kd.R_reads' HO403.out).2.1); rintro e w' ⟨rfl, ⟨nd, rfl⟩⟩; obtain ⟨Ao29, co29, eo29⟩ := Kd.R_slice HO413.out; subst eo29) | (go_at_call 36; (with_reducible refine (spec_SameState.calls k _ _ t411 _ _ t401 true _ ?side1 ?side2 ?side3 ?side4 A25.out).mono ?_); (case side1 => repeat (first | exact (Kd.R_reads' HO413.out).2.2 | (with_reducible refine Kd.C_alloc ?_ _) | (with_reducible refine Kd.C_drewN ?_ _) | (with_reducible refine Kd.C_drew ?_))); (case side2 => exact (Kd.R_reads' HO413.out).2.1); (case side3 => repeat (first | exact (Kd.R_reads' HO403.out).2.2 | (with_reducible refine Kd.C_alloc ?_ _) | (with_reducible refine Kd.C_drewN ?_ _) | (with_reducible refine Kd.C_drew ?_))); (case side4 => exact (Kd.R_reads' HO403.out).2.1); rintro e w' ⟨rfl, ⟨nd, rfl⟩⟩; obtain ⟨Ao30, co30, eo30⟩ := Kd.R_slice HO417.out; subst eo30) | (go_at_call 36; (with_reducible refine (spec_SameState.calls k _ _ t415 _ _ t401 t421 _ ?side1 ?side2 ?side3 ?side4 A27.out).mono ?_); (case side1 => repeat (first | exact (Kd.R_reads' HO417.out).2.2 | (with_reducible refine Kd.C_alloc ?_ _) | (with_reducible refine Kd.C_drewN ?_ _) | (with_reducible refine Kd.C_drew ?_))); (case side2 => exact (Kd.R_reads' HO417.out).2.1); (case side3 => repeat (first | exact (Kd.R_reads' HO403.out).2.2 | (with_reducible refine Kd.C_alloc ?_ _) | (with_reducible refine Kd.C_drewN ?_ _) | (with_reducible refine Kd.C_drew ?_))); (case side4 => exact (Kd.R_reads' HO403.out).2.1); rintro e w' ⟨rfl, ⟨nd, rfl⟩⟩))
         go_meet
         case rel => exact ⟨_, (!t421), rs_, H', ⟨by first | omega | exact Nat.le_refl _⟩, ⟨by (with_reducible repeat (first | apply Kd.R_alloc | apply Kd.R_drewN | apply Kd.R_drew)); exact Kd.R_mono HO400.out (fun _ hk => ⟨hk.1.1.1.1.2, hk.1.1.1.2⟩)⟩, ⟨by (with_reducible repeat (first | apply Kd.R_alloc | apply Kd.R_drewN | apply Kd.R_drew)); exact Kd.R_mono HO403.out (fun _ hk => ⟨hk.1.1.1.1.2, hk.1.1.1.2⟩)⟩, ⟨by (with_reducible repeat (first | apply Kd.R_alloc | apply Kd.R_drewN | apply Kd.R_drew)); exact Kd.R_mono HO406.out (fun _ hk => ⟨hk.1.1.1.1.2, hk.1.1.1.2⟩)⟩, ⟨bB_⟩⟩
       ·
        replace c26 := Bool.eq_false_iff.mpr c26
        subst c26
        have H1 : (laws_FnMerges.j0 k l1 t398 t401 t404 true) = some r := by rw [if_neg (show ¬ (false = true) by decide)] at H; exact H
        clear H
        have H := H1
        clear H1
        have H' := Aside0.mk H
        clear H
        obtain ⟨Ao31, co31, eo31⟩ := Kd.R_slice HO409.out
        subst eo31
        as_aux_lemma =>
         go_wp2_with (first | (go_at_call 36; (with_reducible refine (spec_SameState.calls k _ _ t407 _ _ t401 true _ ?side1 ?side2 ?side3 ?side4 A23.out).mono ?_); (case side1 => repeat (first | exact (Kd.R_reads' HO409.out).2.2 | (with_reducible refine Kd.C_alloc ?_ _) | (with_reducible refine Kd.C_drewN ?_ _) | (with_reducible refine Kd.C_drew ?_))); (case side2 => exact (Kd.R_reads' HO409.out).2.1); (case side3 => repeat (first | exact (Kd.R_reads' HO403.out).2.2 | (with_reducible refine Kd.C_alloc ?_ _) | (with_reducible refine Kd.C_drewN ?_ _) | (with_reducible refine Kd.C_drew ?_))); (case side4 => exact (Kd.R_reads' HO403.out).2.1); rintro e w' ⟨rfl, ⟨nd, rfl⟩⟩; obtain ⟨Ao32, co32, eo32⟩ := Kd.R_slice HO413.out; subst eo32) | (go_at_call 36; (with_reducible refine (spec_SameState.calls k _ _ t411 _ _ t401 false _ ?side1 ?side2 ?side3 ?side4 A25.out).mono ?_); (case side1 => repeat (first | exact (Kd.R_reads' HO413.out).2.2 | (with_reducible refine Kd.C_alloc ?_ _) | (with_reducible refine Kd.C_drewN ?_ _) | (with_reducible refine Kd.C_drew ?_))); (case side2 => exact (Kd.R_reads' HO413.out).2.1); (case side3 => repeat (first | exact (Kd.R_reads' HO403.out).2.2 | (with_reducible refine Kd.C_alloc ?_ _) | (with_reducible refine Kd.C_drewN ?_ _) | (with_reducible refine Kd.C_drew ?_))); (case side4 => exact (Kd.R_reads' HO403.out).2.1); rintro e w' ⟨rfl, ⟨nd, rfl⟩⟩))
         go_meet
         case rel => exact ⟨_, (true), rs_, H', ⟨by first | omega | exact Nat.le_refl _⟩, ⟨by (with_reducible repeat (first | apply Kd.R_alloc | apply Kd.R_drewN | apply Kd.R_drew)); exact Kd.R_mono HO400.out (fun _ hk => ⟨hk.1.1.1.1.2, hk.1.1.1.2⟩)⟩, ⟨by (with_reducible repeat (first | apply Kd.R_alloc | apply Kd.R_drewN | apply Kd.R_drew)); exact Kd.R_mono HO403.out (fun _ hk => ⟨hk.1.1.1.1.2, hk.1.1.1.2⟩)⟩, ⟨by (with_reducible repeat (first | apply Kd.R_alloc | apply Kd.R_drewN | apply Kd.R_drew)); exact Kd.R_mono HO406.out (fun _ hk => ⟨hk.1.1.1.1.2, hk.1.1.1.2⟩)⟩, ⟨bB_⟩⟩
      ·
       replace c24 := Bool.eq_false_iff.mpr c24
       subst c24
       have H1 : (laws_FnMerges.j0 k l1 t398 t401 t404 true) = some r := by rw [if_neg (show ¬ (false = true) by decide)] at H; exact H
       clear H
       have H := H1
       clear H1
       have H' := Aside0.mk H
       clear H
       obtain ⟨Ao33, co33, eo33⟩ := Kd.R_slice HO409.out
       subst eo33
       as_aux_lemma =>
        go_wp2_with (first | (go_at_call 36; (with_reducible refine (spec_SameState.calls k _ _ t407 _ _ t401 false _ ?side1 ?side2 ?side3 ?side4 A23.out).mono ?_); (case side1 => repeat (first | exact (Kd.R_reads' HO409.out).2.2 | (with_reducible refine Kd.C_alloc ?_ _) | (with_reducible refine Kd.C_drewN ?_ _) | (with_reducible refine Kd.C_drew ?_))); (case side2 => exact (Kd.R_reads' HO409.out).2.1); (case side3 => repeat (first | exact (Kd.R_reads' HO403.out).2.2 | (with_reducible refine Kd.C_alloc ?_ _) | (with_reducible refine Kd.C_drewN ?_ _) | (with_reducible refine Kd.C_drew ?_))); (case side4 => exact (Kd.R_reads' HO403.out).2.1); rintro e w' ⟨rfl, ⟨nd, rfl⟩⟩))
        go_meet
        case rel => exact ⟨_, (true), rs_, H', ⟨by first | omega | exact Nat.le_refl _⟩, ⟨by (with_reducible repeat (first | apply Kd.R_alloc | apply Kd.R_drewN | apply Kd.R_drew)); exact Kd.R_mono HO400.out (fun _ hk => ⟨hk.1.1.1.1.2, hk.1.1.1.2⟩)⟩, ⟨by (with_reducible repeat (first | apply Kd.R_alloc | apply Kd.R_drewN | apply Kd.R_drew)); exact Kd.R_mono HO403.out (fun _ hk => ⟨hk.1.1.1.1.2, hk.1.1.1.2⟩)⟩, ⟨by (with_reducible repeat (first | apply Kd.R_alloc | apply Kd.R_drewN | apply Kd.R_drew)); exact Kd.R_mono HO406.out (fun _ hk => ⟨hk.1.1.1.1.2, hk.1.1.1.2⟩)⟩, ⟨bB_⟩⟩
     ·
      rw [if_neg c22] at H
      have c22b0 : (t418 == 0) = false := beq_eq_false_iff_ne.mpr c22
      have c22b1 : (t418 != 0) = true := bne_iff_ne.mpr c22
      have H' := Aside0.mk H
      clear H
      as_aux_lemma =>
       go_wp2
       go_meet
       case rel => exact ⟨_, (true), rs_, H', ⟨by first | omega | exact Nat.le_refl _⟩, ⟨by (with_reducible repeat (first | apply Kd.R_alloc | apply Kd.R_drewN | apply Kd.R_drew)); exact Kd.R_mono HO400.out (fun _ hk => ⟨hk.1.1.1.1.2, hk.1.1.1.2⟩)⟩, ⟨by (with_reducible repeat (first | apply Kd.R_alloc | apply Kd.R_drewN | apply Kd.R_drew)); exact Kd.R_mono HO403.out (fun _ hk => ⟨hk.1.1.1.1.2, hk.1.1.1.2⟩)⟩, ⟨by (with_reducible repeat (first | apply Kd.R_alloc | apply Kd.R_drewN | apply Kd.R_drew)); exact Kd.R_mono HO406.out (fun _ hk => ⟨hk.1.1.1.1.2, hk.1.1.1.2⟩)⟩, ⟨bB_⟩⟩
    ·
     rw [if_neg c21] at H
     have c21b0 : (t414 == 0) = false := beq_eq_false_iff_ne.mpr c21
     have c21b1 : (t414 != 0) = true := bne_iff_ne.mpr c21
     have H' := Aside0.mk H
     clear H
     as_aux_lemma =>
      go_wp2
      go_meet
      case rel => exact ⟨_, (true), rs_, H', ⟨by first | omega | exact Nat.le_refl _⟩, ⟨by (with_reducible repeat (first | apply Kd.R_alloc | apply Kd.R_drewN | apply Kd.R_drew)); exact Kd.R_mono HO400.out (fun _ hk => ⟨hk.1.1.1.1.2, hk.1.1.1.2⟩)⟩, ⟨by (with_reducible repeat (first | apply Kd.R_alloc | apply Kd.R_drewN | apply Kd.R_drew)); exact Kd.R_mono HO403.out (fun _ hk => ⟨hk.1.1.1.1.2, hk.1.1.1.2⟩)⟩, ⟨by (with_reducible repeat (first | apply Kd.R_alloc | apply Kd.R_drewN | apply Kd.R_drew)); exact Kd.R_mono HO406.out (fun _ hk => ⟨hk.1.1.1.1.2, hk.1.1.1.2⟩)⟩, ⟨bB_⟩⟩
   ·
    rw [if_neg c20] at H
    have c20b0 : (t410 == 0) = false := beq_eq_false_iff_ne.mpr c20
    have c20b1 : (t410 != 0) = true := bne_iff_ne.mpr c20
    (first | rw [c20b0] | (simp only [i64_w, i32_w]; rw [c20b0]) | skip)
    have H' := Aside0.mk H
    clear H
    as_aux_lemma =>
     go_wp2
     go_meet
     case rel => exact ⟨_, (true), rs_, H', ⟨by first | omega | exact Nat.le_refl _⟩, ⟨by (with_reducible repeat (first | apply Kd.R_alloc | apply Kd.R_drewN | apply Kd.R_drew)); exact Kd.R_mono HO400.out (fun _ hk => ⟨hk.1.1.1.1.2, hk.1.1.1.2⟩)⟩, ⟨by (with_reducible repeat (first | apply Kd.R_alloc | apply Kd.R_drewN | apply Kd.R_drew)); exact Kd.R_mono HO403.out (fun _ hk => ⟨hk.1.1.1.1.2, hk.1.1.1.2⟩)⟩, ⟨by (with_reducible repeat (first | apply Kd.R_alloc | apply Kd.R_drewN | apply Kd.R_drew)); exact Kd.R_mono HO406.out (fun _ hk => ⟨hk.1.1.1.1.2, hk.1.1.1.2⟩)⟩, ⟨bB_⟩⟩
  case rest =>
   clear HC11
   try clear c1
   try clear c2
   try clear p2
   try clear c3
   try clear c4
   try clear c7
   try clear c20
   try clear c20b0
   try clear c20b1
   try clear c21
   try clear c21b0
   try clear c21b1
   try clear c22
   try clear c22b0
   try clear c22b1
   try clear c24
   try clear c25
   try clear c26
   try clear c33
   obtain ⟨kq, x91_10, rfl, HA, HJ10, HO_5, HO_6, HO_7, HB⟩ := hcut
   cases kq with
   | zero => exact absurd HA.out (by simp [laws_FnMerges.j0])
   | succ kj10 =>
    have H := HA.out
    clear HA
    simp only [laws_FnMerges.j0] at H
    by_cases c34 : x91_10 = true
    ·
     subst c34
     have H1 : (some false) = some r := by rw [if_pos rfl] at H; exact H
     clear H
     have H := H1
     clear H1
     obtain rfl := Option.some.inj H
     as_aux_lemma =>
      go_wp2
      go_ret
      exact ⟨er_, bB_⟩
    ·
     replace c34 := Bool.eq_false_iff.mpr c34
     subst c34
     have H1 : ((impl_ConflictsOf.f kj10 t398 t401 t404).bind fun bt422 => ((impl_ConflictsOf.f kj10 t398 t404 t401).bind fun bt426 => ((impl_MergeStates.f kj10 t398 t401 t404).bind fun bt430 => ((impl_MergeStates.f kj10 t398 t404 t401).bind fun bt434 => (if bt422.2 = 0 then (if bt426.2 = 0 then (if (bt422.1.length : Int) = (bt426.1.length : Int) then (if bt430.2 = bt434.2 then (if ((bt430.2 == 6) != (decide ((bt422.1.length : Int) > 0))) = true then (laws_FnMerges.j1 kj10 l1 true) else (if bt430.2 = 0 then ((spec_SameState.f kj10 bt430.1 bt434.1).bind fun t438 => (if t438 = true then ((spec_ValidState.f kj10 bt430.1).bind fun t439 => (laws_FnMerges.j1 kj10 l1 (!t439))) else (laws_FnMerges.j1 kj10 l1 true))) else (laws_FnMerges.j1 kj10 l1 false))) else (laws_FnMerges.j1 kj10 l1 true)) else (laws_FnMerges.j1 kj10 l1 true)) else (laws_FnMerges.j1 kj10 l1 true)) else (laws_FnMerges.j1 kj10 l1 true)))))) = some r := by rw [if_neg (show ¬ (false = true) by decide)] at H; exact H
     clear H
     have H := H1
     clear H1
     replace H := Option.bind_eq_some_iff.mp H
     obtain ⟨⟨t422, t423⟩, A350, H⟩ := H
     replace H : ((impl_ConflictsOf.f kj10 t398 t404 t401).bind fun bt426 => ((impl_MergeStates.f kj10 t398 t401 t404).bind fun bt430 => ((impl_MergeStates.f kj10 t398 t404 t401).bind fun bt434 => (if t423 = 0 then (if bt426.2 = 0 then (if (t422.length : Int) = (bt426.1.length : Int) then (if bt430.2 = bt434.2 then (if ((bt430.2 == 6) != (decide ((t422.length : Int) > 0))) = true then (laws_FnMerges.j1 kj10 l1 true) else (if bt430.2 = 0 then ((spec_SameState.f kj10 bt430.1 bt434.1).bind fun t438 => (if t438 = true then ((spec_ValidState.f kj10 bt430.1).bind fun t439 => (laws_FnMerges.j1 kj10 l1 (!t439))) else (laws_FnMerges.j1 kj10 l1 true))) else (laws_FnMerges.j1 kj10 l1 false))) else (laws_FnMerges.j1 kj10 l1 true)) else (laws_FnMerges.j1 kj10 l1 true)) else (laws_FnMerges.j1 kj10 l1 true)) else (laws_FnMerges.j1 kj10 l1 true))))) = some r := H
     have A35 := Aside0.mk A350
     clear A350
     replace H := Option.bind_eq_some_iff.mp H
     obtain ⟨⟨t426, t427⟩, A360, H⟩ := H
     replace H : ((impl_MergeStates.f kj10 t398 t401 t404).bind fun bt430 => ((impl_MergeStates.f kj10 t398 t404 t401).bind fun bt434 => (if t423 = 0 then (if t427 = 0 then (if (t422.length : Int) = (t426.length : Int) then (if bt430.2 = bt434.2 then (if ((bt430.2 == 6) != (decide ((t422.length : Int) > 0))) = true then (laws_FnMerges.j1 kj10 l1 true) else (if bt430.2 = 0 then ((spec_SameState.f kj10 bt430.1 bt434.1).bind fun t438 => (if t438 = true then ((spec_ValidState.f kj10 bt430.1).bind fun t439 => (laws_FnMerges.j1 kj10 l1 (!t439))) else (laws_FnMerges.j1 kj10 l1 true))) else (laws_FnMerges.j1 kj10 l1 false))) else (laws_FnMerges.j1 kj10 l1 true)) else (laws_FnMerges.j1 kj10 l1 true)) else (laws_FnMerges.j1 kj10 l1 true)) else (laws_FnMerges.j1 kj10 l1 true)))) = some r := H
     have A36 := Aside0.mk A360
     clear A360
     replace H := Option.bind_eq_some_iff.mp H
     obtain ⟨⟨t430, t433⟩, A370, H⟩ := H
     replace H : ((impl_MergeStates.f kj10 t398 t404 t401).bind fun bt434 => (if t423 = 0 then (if t427 = 0 then (if (t422.length : Int) = (t426.length : Int) then (if t433 = bt434.2 then (if ((t433 == 6) != (decide ((t422.length : Int) > 0))) = true then (laws_FnMerges.j1 kj10 l1 true) else (if t433 = 0 then ((spec_SameState.f kj10 t430 bt434.1).bind fun t438 => (if t438 = true then ((spec_ValidState.f kj10 t430).bind fun t439 => (laws_FnMerges.j1 kj10 l1 (!t439))) else (laws_FnMerges.j1 kj10 l1 true))) else (laws_FnMerges.j1 kj10 l1 false))) else (laws_FnMerges.j1 kj10 l1 true)) else (laws_FnMerges.j1 kj10 l1 true)) else (laws_FnMerges.j1 kj10 l1 true)) else (laws_FnMerges.j1 kj10 l1 true))) = some r := H
     have A37 := Aside0.mk A370
     clear A370
     replace H := Option.bind_eq_some_iff.mp H
     obtain ⟨⟨t434, t437⟩, A380, H⟩ := H
     replace H : (if t423 = 0 then (if t427 = 0 then (if (t422.length : Int) = (t426.length : Int) then (if t433 = t437 then (if ((t433 == 6) != (decide ((t422.length : Int) > 0))) = true then (laws_FnMerges.j1 kj10 l1 true) else (if t433 = 0 then ((spec_SameState.f kj10 t430 t434).bind fun t438 => (if t438 = true then ((spec_ValidState.f kj10 t430).bind fun t439 => (laws_FnMerges.j1 kj10 l1 (!t439))) else (laws_FnMerges.j1 kj10 l1 true))) else (laws_FnMerges.j1 kj10 l1 false))) else (laws_FnMerges.j1 kj10 l1 true)) else (laws_FnMerges.j1 kj10 l1 true)) else (laws_FnMerges.j1 kj10 l1 true)) else (laws_FnMerges.j1 kj10 l1 true)) = some r := H
     have A38 := Aside0.mk A380
     clear A380
     have HC39 := Aside0.mk H
     clear H
     obtain ⟨Ao40, co40, eo40⟩ := Kd.R_slice HO_7.out
     subst eo40
     go_upto_region 15 with (first | ((with_reducible refine gate_callee (f := 20) rfl ?_); refine goesL_ (some 96) rfl rfl Try.func20 (by kernel_rfl) rfl #[.slice Ao13 t398.length co13, .slice Ao16 t401.length co16, .slice Ao40 t404.length co40] rfl mT_ ?_; (with_reducible refine (impl_ConflictsOf.calls kj10 _ _ t398 _ _ t401 _ _ t404 t422 t423 _ ?side1 ?side2 ?side3 ?side4 ?side5 ?side6 A35.out).mono ?_); (case side1 => repeat (first | exact (Kd.R_reads' HO_5.out).2.2 | (with_reducible refine Kd.C_alloc ?_ _) | (with_reducible refine Kd.C_drewN ?_ _) | (with_reducible refine Kd.C_drew ?_))); (case side2 => exact (Kd.R_reads' HO_5.out).2.1); (case side3 => repeat (first | exact (Kd.R_reads' HO_6.out).2.2 | (with_reducible refine Kd.C_alloc ?_ _) | (with_reducible refine Kd.C_drewN ?_ _) | (with_reducible refine Kd.C_drew ?_))); (case side4 => exact (Kd.R_reads' HO_6.out).2.1); (case side5 => repeat (first | exact (Kd.R_reads' HO_7.out).2.2 | (with_reducible refine Kd.C_alloc ?_ _) | (with_reducible refine Kd.C_drewN ?_ _) | (with_reducible refine Kd.C_drew ?_))); (case side6 => exact (Kd.R_reads' HO_7.out).2.1); rintro e w41 ⟨v424, rfl, ho0, hb⟩; refine ⟨_, rfl, ?_⟩; have n0_ := Aside0.mk (Kd.R_below (rA_ HO_5.out) hb); have n1_ := Aside0.mk (Kd.R_below (rA_ HO_6.out) hb); have n2_ := Aside0.mk (Kd.R_below (rA_ HO_7.out) hb); have n3_ := Aside0.mk (Kd.R_lower ho0 (below_size bB_)); have n4_ := Aside0.mk (below_step bB_ hb); clear HO_5; clear HO_6; clear HO_7; clear HB; have HO_5 := n0_; have HO_6 := n1_; have HO_7 := n2_; have HO425 := n3_; have HB := n4_; clear n0_ n1_ n2_ n3_ n4_; (try clear hb); (try clear hb2); (try clear hk); (try clear hi); (try clear ho0)) | ((with_reducible refine gate_callee (f := 20) rfl ?_); refine goesL_ (some 103) rfl rfl Try.func20 (by kernel_rfl) rfl #[.slice Ao13 t398.length co13, .slice Ao40 t404.length co40, .slice Ao16 t401.length co16] rfl mT_ ?_; (with_reducible refine (impl_ConflictsOf.calls kj10 _ _ t398 _ _ t404 _ _ t401 t426 t427 _ ?side1 ?side2 ?side3 ?side4 ?side5 ?side6 A36.out).mono ?_); (case side1 => repeat (first | exact (Kd.R_reads' HO_5.out).2.2 | (with_reducible refine Kd.C_alloc ?_ _) | (with_reducible refine Kd.C_drewN ?_ _) | (with_reducible refine Kd.C_drew ?_))); (case side2 => exact (Kd.R_reads' HO_5.out).2.1); (case side3 => repeat (first | exact (Kd.R_reads' HO_7.out).2.2 | (with_reducible refine Kd.C_alloc ?_ _) | (with_reducible refine Kd.C_drewN ?_ _) | (with_reducible refine Kd.C_drew ?_))); (case side4 => exact (Kd.R_reads' HO_7.out).2.1); (case side5 => repeat (first | exact (Kd.R_reads' HO_6.out).2.2 | (with_reducible refine Kd.C_alloc ?_ _) | (with_reducible refine Kd.C_drewN ?_ _) | (with_reducible refine Kd.C_drew ?_))); (case side6 => exact (Kd.R_reads' HO_6.out).2.1); rintro e w42 ⟨v428, rfl, ho0, hb⟩; refine ⟨_, rfl, ?_⟩; have n0_ := Aside0.mk (Kd.R_below (rA_ HO_5.out) hb); have n1_ := Aside0.mk (Kd.R_below (rA_ HO_6.out) hb); have n2_ := Aside0.mk (Kd.R_below (rA_ HO_7.out) hb); have n3_ := Aside0.mk (Kd.R_elder' (rA_ HO425.out) (Kd.R_base ho0) hb); have n4_ := Aside0.mk (Kd.R_lower (Kd.R_new' ho0 (Kd.R_lt (rA_ HO425.out))) (below_size bB_)); have n5_ := Aside0.mk (below_step bB_ hb); clear HO_5; clear HO_6; clear HO_7; clear HO425; clear HB; have HO_5 := n0_; have HO_6 := n1_; have HO_7 := n2_; have HO425 := n3_; have HO429 := n4_; have HB := n5_; clear n0_ n1_ n2_ n3_ n4_ n5_; (try clear hb); (try clear hb2); (try clear hk); (try clear hi); (try clear ho0)) | ((with_reducible refine gate_callee (f := 25) rfl ?_); refine goesL_ (some 110) rfl rfl Try.func25 (by kernel_rfl) rfl #[.slice Ao13 t398.length co13, .slice Ao16 t401.length co16, .slice Ao40 t404.length co40] rfl mT_ ?_; (with_reducible refine (impl_MergeStates.calls kj10 (fun k_ => some k_ = (.slice Ao13 t398.length co13 : Value).ownBlock) _ _ t398 (fun k_ => some k_ = (.slice Ao16 t401.length co16 : Value).ownBlock) _ _ t401 (fun k_ => some k_ = (.slice Ao40 t404.length co40 : Value).ownBlock) _ _ t404 t430 t433 _ ?side1 ?side2 ?side3 A37.out).mono ?_); (case side1 => exact Kd.R_V (Kd.R_tight rfl (Kd.R_apart' (Kd.R_apart' (HO_5.out) (Kd.R_typed HO425.out) (by decide)) (Kd.R_typed HO429.out) (by decide)))); (case side2 => exact Kd.R_V (Kd.R_tight rfl (Kd.R_apart' (Kd.R_apart' (HO_6.out) (Kd.R_typed HO425.out) (by decide)) (Kd.R_typed HO429.out) (by decide)))); (case side3 => exact Kd.R_V (Kd.R_tight rfl (Kd.R_apart' (Kd.R_apart' (HO_7.out) (Kd.R_typed HO425.out) (by decide)) (Kd.R_typed HO429.out) (by decide)))); rintro e w43 ⟨v431, rfl, ho0, hb⟩; refine ⟨_, rfl, ?_⟩; have n0_ := Aside0.mk (Kd.R_elder' (rA_ HO_5.out) (Kd.R_base ho0) hb); have n1_ := Aside0.mk (Kd.R_elder' (rA_ HO_6.out) (Kd.R_base ho0) hb); have n2_ := Aside0.mk (Kd.R_elder' (rA_ HO_7.out) (Kd.R_base ho0) hb); have n3_ := Aside0.mk (Kd.R_below (rA_ HO425.out) hb); have n4_ := Aside0.mk (Kd.R_below (rA_ HO429.out) hb); have n5_ := Aside0.mk (Kd.R_lower (Kd.R_new' (Kd.R_new' (Kd.R_new' (Kd.R_mono (ok' := fun k_ => True) ho0 (fun _ hk_ => trivial)) (Kd.R_lt (rA_ HO_5.out))) (Kd.R_lt (rA_ HO_6.out))) (Kd.R_lt (rA_ HO_7.out))) (below_size bB_)); have n6_ := Aside0.mk (below_step bB_ hb); clear HO_5; clear HO_6; clear HO_7; clear HO425; clear HO429; clear HB; have HO_5 := n0_; have HO_6 := n1_; have HO_7 := n2_; have HO425 := n3_; have HO429 := n4_; have HO432 := n5_; have HB := n6_; clear n0_ n1_ n2_ n3_ n4_ n5_ n6_; (try clear hb); (try clear hb2); (try clear hk); (try clear hi); (try clear ho0)) | ((with_reducible refine gate_callee (f := 25) rfl ?_); refine goesL_ (some 117) rfl rfl Try.func25 (by kernel_rfl) rfl #[.slice Ao13 t398.length co13, .slice Ao40 t404.length co40, .slice Ao16 t401.length co16] rfl mT_ ?_; (with_reducible refine (impl_MergeStates.calls kj10 (fun k_ => some k_ = (.slice Ao13 t398.length co13 : Value).ownBlock) _ _ t398 (fun k_ => some k_ = (.slice Ao40 t404.length co40 : Value).ownBlock) _ _ t404 (fun k_ => some k_ = (.slice Ao16 t401.length co16 : Value).ownBlock) _ _ t401 t434 t437 _ ?side1 ?side2 ?side3 A38.out).mono ?_); (case side1 => exact Kd.R_V (Kd.R_tight rfl (Kd.R_apart' (Kd.R_apart' (HO_5.out) (Kd.R_typed HO425.out) (by decide)) (Kd.R_typed HO429.out) (by decide)))); (case side2 => exact Kd.R_V (Kd.R_tight rfl (Kd.R_apart' (Kd.R_apart' (HO_7.out) (Kd.R_typed HO425.out) (by decide)) (Kd.R_typed HO429.out) (by decide)))); (case side3 => exact Kd.R_V (Kd.R_tight rfl (Kd.R_apart' (Kd.R_apart' (HO_6.out) (Kd.R_typed HO425.out) (by decide)) (Kd.R_typed HO429.out) (by decide)))); rintro e w44 ⟨v435, rfl, ho0, hb⟩; refine ⟨_, rfl, ?_⟩; have n0_ := Aside0.mk (Kd.R_elder' (rA_ HO_5.out) (Kd.R_base ho0) hb); have n1_ := Aside0.mk (Kd.R_elder' (rA_ HO_6.out) (Kd.R_base ho0) hb); have n2_ := Aside0.mk (Kd.R_elder' (rA_ HO_7.out) (Kd.R_base ho0) hb); have n3_ := Aside0.mk (Kd.R_below (rA_ HO425.out) hb); have n4_ := Aside0.mk (Kd.R_below (rA_ HO429.out) hb); have n5_ := Aside0.mk (Kd.R_elder' (rA_ HO432.out) (Kd.R_base ho0) hb); have n6_ := Aside0.mk (Kd.R_lower (Kd.R_new' (Kd.R_new' (Kd.R_new' (Kd.R_new' (Kd.R_mono (ok' := fun k_ => True) ho0 (fun _ hk_ => trivial)) (Kd.R_lt (rA_ HO_5.out))) (Kd.R_lt (rA_ HO_6.out))) (Kd.R_lt (rA_ HO_7.out))) (Kd.R_lt (rA_ HO432.out))) (below_size bB_)); have n7_ := Aside0.mk (below_step bB_ hb); clear HO_5; clear HO_6; clear HO_7; clear HO425; clear HO429; clear HO432; clear HB; have HO_5 := n0_; have HO_6 := n1_; have HO_7 := n2_; have HO425 := n3_; have HO429 := n4_; have HO432 := n5_; have HO436 := n6_; have HB := n7_; clear n0_ n1_ n2_ n3_ n4_ n5_ n6_ n7_; (try clear hb); (try clear hb2); (try clear hk); (try clear hi); (try clear ho0)))
     (try simp only [Act.put, List.setIfInBounds_toArray, List.set_cons_zero, List.set_cons_succ])
     go_cut [160] (fun v160 wc => ∃ (kq : Nat) (x160_38 : Bool), v160 = .bool x160_38 ∧ Aside0 (laws_FnMerges.j1 kq l1 x160_38 = some r) ∧ Aside0 (kq ≤ kj10) ∧ Aside0 (Below w.heap.size w wc))
     case first =>
      have H := HC39.out
      clear HC39
      by_cases c45 : t423 = 0
      ·
       rw [if_pos c45] at H
       have c45b0 : (t423 == 0) = true := beq_iff_eq.mpr c45
       have c45b1 : (t423 != 0) = false := bne_eq_false_iff_eq.mpr c45
       clear c45
       (first | rw [c45b0] | (simp only [i64_w, i32_w]; rw [c45b0]) | skip)
       by_cases c46 : t427 = 0
       ·
        rw [if_pos c46] at H
        have c46b0 : (t427 == 0) = true := beq_iff_eq.mpr c46
        have c46b1 : (t427 != 0) = false := bne_eq_false_iff_eq.mpr c46
        clear c46
        by_cases c47 : (t422.length : Int) = (t426.length : Int)
        ·
         rw [if_pos c47] at H
         have c47b0 : ((t422.length : Int) == (t426.length : Int)) = true := beq_iff_eq.mpr c47
         have c47b1 : ((t422.length : Int) != (t426.length : Int)) = false := bne_eq_false_iff_eq.mpr c47
         have c47b2 : (t422.length == t426.length) = true := by first | simpa using c47 | (simp at c47 ⊢; omega)
         clear c47
         by_cases c48 : t433 = t437
         ·
          rw [if_pos c48] at H
          have c48b0 : (t433 == t437) = true := beq_iff_eq.mpr c48
          have c48b1 : (t433 != t437) = false := bne_eq_false_iff_eq.mpr c48
          clear c48
          by_cases c49 : ((t433 == 6) != (decide ((t422.length : Int) > 0))) = true
          ·
           rw [if_pos c49] at H
           have c49b0 : ((t433 == 6) != (decide ((t422.length : Int) > 0))) = true := c49
           have c49b5 : ¬ ((t433 == 6) = decide (0 < t422.length)) := bne_iff_ne.mp (by rw [← (show (decide ((t422.length : Int) > 0)) = decide (0 < t422.length) from decide_eq_decide.2 (by omega))]; exact c49b0)
           have c49b4 : decide ((t433 == 6) = decide (0 < t422.length)) = false := decide_eq_false c49b5
           (try (have c49b1 : decide ((t433 == 6) = (decide ((t422.length : Int) > 0))) = false := by simpa using c49))
           (try (have c49b2 : ((t433 == 6) == (decide ((t422.length : Int) > 0))) = false := by simpa using c49))
           (try (have c49b3 : ¬ ((t433 == 6) = (decide ((t422.length : Int) > 0))) := by simpa using c49))
           clear c49
           have H' := Aside0.mk H
           clear H
           obtain ⟨Ao50, co50, eo50⟩ := Kd.R_slice HO425.out
           subst eo50
           obtain ⟨Ao51, co51, eo51⟩ := Kd.R_slice HO429.out
           subst eo51
           as_aux_lemma =>
            go_wp2
            go_meet
            case rel => exact ⟨_, (true), rs_, H', ⟨by have := HJ10.out; first | omega | exact Nat.le_refl _⟩, ⟨bB_⟩⟩
          ·
           rw [if_neg c49] at H
           have c49b0 : ((t433 == 6) != (decide ((t422.length : Int) > 0))) = false := by simpa using c49
           have c49b5 : ((t433 == 6) = decide (0 < t422.length)) = True := eq_true (bne_eq_false_iff_eq.mp (by rw [← (show (decide ((t422.length : Int) > 0)) = decide (0 < t422.length) from decide_eq_decide.2 (by omega))]; exact c49b0))
           have c49b4 : decide ((t433 == 6) = decide (0 < t422.length)) = true := decide_eq_true (of_eq_true c49b5)
           (try (have c49b1 : decide ((t433 == 6) = (decide ((t422.length : Int) > 0))) = true := by simpa using c49))
           (try (have c49b2 : ((t433 == 6) == (decide ((t422.length : Int) > 0))) = true := by simpa using c49))
           clear c49
           by_cases c52 : t433 = 0
           ·
            rw [if_pos c52] at H
            have c52b0 : (t433 == 0) = true := beq_iff_eq.mpr c52
            have c52b1 : (t433 != 0) = false := bne_eq_false_iff_eq.mpr c52
            clear c52
            replace H := Option.bind_eq_some_iff.mp H
            obtain ⟨t438, A530, H⟩ := H
            replace H : (if t438 = true then ((spec_ValidState.f kj10 t430).bind fun t439 => (laws_FnMerges.j1 kj10 l1 (!t439))) else (laws_FnMerges.j1 kj10 l1 true)) = some r := H
            have A53 := Aside0.mk A530
            clear A530
            by_cases c54 : t438 = true
            ·
             subst c54
             have H1 : ((spec_ValidState.f kj10 t430).bind fun t439 => (laws_FnMerges.j1 kj10 l1 (!t439))) = some r := by rw [if_pos rfl] at H; exact H
             clear H
             have H := H1
             clear H1
             replace H := Option.bind_eq_some_iff.mp H
             obtain ⟨t439, A550, H⟩ := H
             replace H : (laws_FnMerges.j1 kj10 l1 (!t439)) = some r := H
             have A55 := Aside0.mk A550
             clear A550
             have H' := Aside0.mk H
             clear H
             obtain ⟨Ao56, co56, eo56⟩ := Kd.R_slice HO425.out
             subst eo56
             obtain ⟨Ao57, co57, eo57⟩ := Kd.R_slice HO429.out
             subst eo57
             obtain ⟨Ao58, co58, eo58⟩ := Kd.R_slice HO432.out
             subst eo58
             obtain ⟨Ao59, co59, eo59⟩ := Kd.R_slice HO436.out
             subst eo59
             as_aux_lemma =>
              go_wp2_with (first | (go_at_call 36; (with_reducible refine (spec_SameState.calls kj10 _ _ t430 _ _ t434 true _ ?side1 ?side2 ?side3 ?side4 A53.out).mono ?_); (case side1 => repeat (first | exact (Kd.R_reads' HO432.out).2.2 | (with_reducible refine Kd.C_alloc ?_ _) | (with_reducible refine Kd.C_drewN ?_ _) | (with_reducible refine Kd.C_drew ?_))); (case side2 => exact (Kd.R_reads' HO432.out).2.1); (case side3 => repeat (first | exact (Kd.R_reads' HO436.out).2.2 | (with_reducible refine Kd.C_alloc ?_ _) | (with_reducible refine Kd.C_drewN ?_ _) | (with_reducible refine Kd.C_drew ?_))); (case side4 => exact (Kd.R_reads' HO436.out).2.1); rintro e w' ⟨rfl, ⟨nd, rfl⟩⟩) | (go_at_call 37; (with_reducible refine (spec_ValidState.calls kj10 _ _ t430 t439 _ ?side1 ?side2 A55.out).mono ?_); (case side1 => repeat (first | exact (Kd.R_reads' HO432.out).2.2 | (with_reducible refine Kd.C_alloc ?_ _) | (with_reducible refine Kd.C_drewN ?_ _) | (with_reducible refine Kd.C_drew ?_))); (case side2 => exact (Kd.R_reads' HO432.out).2.1); rintro e w' ⟨rfl, ⟨nd, rfl⟩⟩))
              go_meet
              case rel => exact ⟨_, (!t439), rs_, H', ⟨by have := HJ10.out; first | omega | exact Nat.le_refl _⟩, ⟨bB_⟩⟩
            ·
             replace c54 := Bool.eq_false_iff.mpr c54
             subst c54
             have H1 : (laws_FnMerges.j1 kj10 l1 true) = some r := by rw [if_neg (show ¬ (false = true) by decide)] at H; exact H
             clear H
             have H := H1
             clear H1
             have H' := Aside0.mk H
             clear H
             obtain ⟨Ao60, co60, eo60⟩ := Kd.R_slice HO425.out
             subst eo60
             obtain ⟨Ao61, co61, eo61⟩ := Kd.R_slice HO429.out
             subst eo61
             obtain ⟨Ao62, co62, eo62⟩ := Kd.R_slice HO432.out
             subst eo62
             obtain ⟨Ao63, co63, eo63⟩ := Kd.R_slice HO436.out
             subst eo63
             as_aux_lemma =>
              go_wp2_with (first | (go_at_call 36; (with_reducible refine (spec_SameState.calls kj10 _ _ t430 _ _ t434 false _ ?side1 ?side2 ?side3 ?side4 A53.out).mono ?_); (case side1 => repeat (first | exact (Kd.R_reads' HO432.out).2.2 | (with_reducible refine Kd.C_alloc ?_ _) | (with_reducible refine Kd.C_drewN ?_ _) | (with_reducible refine Kd.C_drew ?_))); (case side2 => exact (Kd.R_reads' HO432.out).2.1); (case side3 => repeat (first | exact (Kd.R_reads' HO436.out).2.2 | (with_reducible refine Kd.C_alloc ?_ _) | (with_reducible refine Kd.C_drewN ?_ _) | (with_reducible refine Kd.C_drew ?_))); (case side4 => exact (Kd.R_reads' HO436.out).2.1); rintro e w' ⟨rfl, ⟨nd, rfl⟩⟩))
              go_meet
              case rel => exact ⟨_, (true), rs_, H', ⟨by have := HJ10.out; first | omega | exact Nat.le_refl _⟩, ⟨bB_⟩⟩
           ·
            rw [if_neg c52] at H
            have c52b0 : (t433 == 0) = false := beq_eq_false_iff_ne.mpr c52
            have c52b1 : (t433 != 0) = true := bne_iff_ne.mpr c52
            have H' := Aside0.mk H
            clear H
            obtain ⟨Ao64, co64, eo64⟩ := Kd.R_slice HO425.out
            subst eo64
            obtain ⟨Ao65, co65, eo65⟩ := Kd.R_slice HO429.out
            subst eo65
            as_aux_lemma =>
             go_wp2
             go_meet
             case rel => exact ⟨_, (false), rs_, H', ⟨by have := HJ10.out; first | omega | exact Nat.le_refl _⟩, ⟨bB_⟩⟩
         ·
          rw [if_neg c48] at H
          have c48b0 : (t433 == t437) = false := beq_eq_false_iff_ne.mpr c48
          have c48b1 : (t433 != t437) = true := bne_iff_ne.mpr c48
          have H' := Aside0.mk H
          clear H
          obtain ⟨Ao66, co66, eo66⟩ := Kd.R_slice HO425.out
          subst eo66
          obtain ⟨Ao67, co67, eo67⟩ := Kd.R_slice HO429.out
          subst eo67
          as_aux_lemma =>
           go_wp2
           go_meet
           case rel => exact ⟨_, (true), rs_, H', ⟨by have := HJ10.out; first | omega | exact Nat.le_refl _⟩, ⟨bB_⟩⟩
        ·
         rw [if_neg c47] at H
         have c47b0 : ((t422.length : Int) == (t426.length : Int)) = false := beq_eq_false_iff_ne.mpr c47
         have c47b1 : ((t422.length : Int) != (t426.length : Int)) = true := bne_iff_ne.mpr c47
         have c47b2 : (t422.length == t426.length) = false := by first | simpa using c47 | (simp at c47 ⊢; omega)
         have H' := Aside0.mk H
         clear H
         obtain ⟨Ao68, co68, eo68⟩ := Kd.R_slice HO425.out
         subst eo68
         obtain ⟨Ao69, co69, eo69⟩ := Kd.R_slice HO429.out
         subst eo69
         as_aux_lemma =>
          go_wp2
          go_meet
          case rel => exact ⟨_, (true), rs_, H', ⟨by have := HJ10.out; first | omega | exact Nat.le_refl _⟩, ⟨bB_⟩⟩
       ·
        rw [if_neg c46] at H
        have c46b0 : (t427 == 0) = false := beq_eq_false_iff_ne.mpr c46
        have c46b1 : (t427 != 0) = true := bne_iff_ne.mpr c46
        have H' := Aside0.mk H
        clear H
        as_aux_lemma =>
         go_wp2
         go_meet
         case rel => exact ⟨_, (true), rs_, H', ⟨by have := HJ10.out; first | omega | exact Nat.le_refl _⟩, ⟨bB_⟩⟩
      ·
       rw [if_neg c45] at H
       have c45b0 : (t423 == 0) = false := beq_eq_false_iff_ne.mpr c45
       have c45b1 : (t423 != 0) = true := bne_iff_ne.mpr c45
       (first | rw [c45b0] | (simp only [i64_w, i32_w]; rw [c45b0]) | skip)
       have H' := Aside0.mk H
       clear H
       as_aux_lemma =>
        go_wp2
        go_meet
        case rel => exact ⟨_, (true), rs_, H', ⟨by have := HJ10.out; first | omega | exact Nat.le_refl _⟩, ⟨bB_⟩⟩
     case rest =>
      clear HC39
      try clear c1
      try clear c2
      try clear p2
      try clear c3
      try clear c4
      try clear c5
      try clear c7
      try clear c20
      try clear c20b0
      try clear c20b1
      try clear c21
      try clear c21b0
      try clear c21b1
      try clear c22
      try clear c22b0
      try clear c22b1
      try clear c24
      try clear c25
      try clear c26
      try clear c33
      try clear c34
      try clear c35
      try clear c45
      try clear c45b0
      try clear c45b1
      try clear c46
      try clear c46b0
      try clear c46b1
      try clear c47
      try clear c47b0
      try clear c47b1
      try clear c47b2
      try clear c48
      try clear c48b0
      try clear c48b1
      try clear c49
      try clear c49b0
      try clear c49b1
      try clear c49b2
      try clear c52
      try clear c52b0
      try clear c52b1
      try clear c54
      try clear p2
      obtain ⟨kq, x160_38, rfl, HA, HJ38, HB⟩ := hcut
      cases kq with
      | zero => exact absurd HA.out (by simp [laws_FnMerges.j1])
      | succ kj38 =>
       have H := HA.out
       clear HA
       simp only [laws_FnMerges.j1] at H
       by_cases c70 : x160_38 = true
       ·
        subst c70
        have H1 : (some false) = some r := by rw [if_pos rfl] at H; exact H
        clear H
        have H := H1
        clear H1
        obtain rfl := Option.some.inj H
        as_aux_lemma =>
         go_wp2
         go_ret
         exact ⟨er_, bB_⟩
       ·
        replace c70 := Bool.eq_false_iff.mpr c70
        subst c70
        have H1 : ((spec_R8History.f kj38 l1).bind fun t440 => (if (t440.length : Int) = 0 then (some true) else ((laws_r8At.f l1 0 (t440.length : Int)).bind fun t443 => ((laws_r8At.f l1 1 (t440.length : Int)).bind fun t444 => ((impl_CommonAncestor.f kj38 t440 (wrap64 (1 + t443)) (wrap64 (1 + t444))).bind fun bt445 => ((impl_CommonAncestor.f kj38 t440 (wrap64 (1 + t444)) (wrap64 (1 + t443))).bind fun bt447 => ((impl_MergeVersions.f kj38 t440 (wrap64 (1 + t443)) (wrap64 (1 + t444)) (⟨#[98, 111, 116, 104]⟩ : ByteArray)).bind fun bt449 => (if bt445.2 = 0 then (if bt447.2 = 0 then (if bt445.1 = bt447.1 then (if bt445.1 < 0 then (some false) else (if bt445.1 > (mn (wrap64 (1 + t443)) (wrap64 (1 + t444))) then (some false) else (if bt449.2 = 0 then (if (bt449.1.length : Int) = (wrap64 ((t440.length : Int) + 1)) then ((spec_ValidHistory.f kj38 bt449.1).bind fun t453 => (some t453)) else (some false)) else (some true)))) else (some false)) else (some false)) else (some false))))))))) = some r := by rw [if_neg (show ¬ (false = true) by decide)] at H; exact H
        clear H
        have H := H1
        clear H1
        replace H := Option.bind_eq_some_iff.mp H
        obtain ⟨t440, A710, H⟩ := H
        replace H : (if (t440.length : Int) = 0 then (some true) else ((laws_r8At.f l1 0 (t440.length : Int)).bind fun t443 => ((laws_r8At.f l1 1 (t440.length : Int)).bind fun t444 => ((impl_CommonAncestor.f kj38 t440 (wrap64 (1 + t443)) (wrap64 (1 + t444))).bind fun bt445 => ((impl_CommonAncestor.f kj38 t440 (wrap64 (1 + t444)) (wrap64 (1 + t443))).bind fun bt447 => ((impl_MergeVersions.f kj38 t440 (wrap64 (1 + t443)) (wrap64 (1 + t444)) (⟨#[98, 111, 116, 104]⟩ : ByteArray)).bind fun bt449 => (if bt445.2 = 0 then (if bt447.2 = 0 then (if bt445.1 = bt447.1 then (if bt445.1 < 0 then (some false) else (if bt445.1 > (mn (wrap64 (1 + t443)) (wrap64 (1 + t444))) then (some false) else (if bt449.2 = 0 then (if (bt449.1.length : Int) = (wrap64 ((t440.length : Int) + 1)) then ((spec_ValidHistory.f kj38 bt449.1).bind fun t453 => (some t453)) else (some false)) else (some true)))) else (some false)) else (some false)) else (some false)))))))) = some r := H
        have A71 := Aside0.mk A710
        clear A710
        by_cases c72 : (t440.length : Int) = 0
        ·
         rw [if_pos c72] at H
         have c72b0 : ((t440.length : Int) == 0) = true := beq_iff_eq.mpr c72
         have c72b1 : ((t440.length : Int) != 0) = false := bne_eq_false_iff_eq.mpr c72
         clear c72
         obtain rfl := Option.some.inj H
         as_aux_lemma =>
          go_wp2_with (first | ((with_reducible refine gate_callee (f := 38) rfl ?_); refine goesL_ (some 162) rfl rfl Try.func38 (by kernel_rfl) rfl #[.slice A1 l1.length c1] rfl mT_ ?_; (with_reducible refine (spec_R8History.calls kj38 _ _ l1 t440 _ ?side1 ?side2 A71.out).mono ?_); (case side1 => exact cA_ (Kd.C_below HR1.out HB.out)); (case side2 => exact HC1.out); rintro e w73 ⟨v441, rfl, ho0, hb⟩; refine ⟨_, rfl, ?_⟩; have n0_ := Aside0.mk (Kd.N_lower (Kd.N_mono (ok' := fun k_ => True) (Kd.S_N (Kd.S_bound ho0)) (fun k_ hk_ => trivial)) (below_size bB_)); have n1_ := Aside0.mk (below_step bB_ hb); clear HB; have HO442 := n0_; have HB := n1_; clear n0_ n1_; (try clear hb); (try clear hb2); (try clear hk); (try clear hi); (try clear ho0); obtain ⟨Ao74, co74, eo74⟩ := Kd.N_slice HO442.out; subst eo74))
          go_ret
          exact ⟨er_, bB_⟩
        ·
         rw [if_neg c72] at H
         have c72b0 : ((t440.length : Int) == 0) = false := beq_eq_false_iff_ne.mpr c72
         have c72b1 : ((t440.length : Int) != 0) = true := bne_iff_ne.mpr c72
         have c72b2 : ¬ (t440 = []) := fun h_ => c72 (by rw [h_]; rfl)
         replace H := Option.bind_eq_some_iff.mp H
         obtain ⟨t443, A750, H⟩ := H
         replace H : ((laws_r8At.f l1 1 (t440.length : Int)).bind fun t444 => ((impl_CommonAncestor.f kj38 t440 (wrap64 (1 + t443)) (wrap64 (1 + t444))).bind fun bt445 => ((impl_CommonAncestor.f kj38 t440 (wrap64 (1 + t444)) (wrap64 (1 + t443))).bind fun bt447 => ((impl_MergeVersions.f kj38 t440 (wrap64 (1 + t443)) (wrap64 (1 + t444)) (⟨#[98, 111, 116, 104]⟩ : ByteArray)).bind fun bt449 => (if bt445.2 = 0 then (if bt447.2 = 0 then (if bt445.1 = bt447.1 then (if bt445.1 < 0 then (some false) else (if bt445.1 > (mn (wrap64 (1 + t443)) (wrap64 (1 + t444))) then (some false) else (if bt449.2 = 0 then (if (bt449.1.length : Int) = (wrap64 ((t440.length : Int) + 1)) then ((spec_ValidHistory.f kj38 bt449.1).bind fun t453 => (some t453)) else (some false)) else (some true)))) else (some false)) else (some false)) else (some false)))))) = some r := H
         have A75 := Aside0.mk A750
         clear A750
         replace H := Option.bind_eq_some_iff.mp H
         obtain ⟨t444, A760, H⟩ := H
         replace H : ((impl_CommonAncestor.f kj38 t440 (wrap64 (1 + t443)) (wrap64 (1 + t444))).bind fun bt445 => ((impl_CommonAncestor.f kj38 t440 (wrap64 (1 + t444)) (wrap64 (1 + t443))).bind fun bt447 => ((impl_MergeVersions.f kj38 t440 (wrap64 (1 + t443)) (wrap64 (1 + t444)) (⟨#[98, 111, 116, 104]⟩ : ByteArray)).bind fun bt449 => (if bt445.2 = 0 then (if bt447.2 = 0 then (if bt445.1 = bt447.1 then (if bt445.1 < 0 then (some false) else (if bt445.1 > (mn (wrap64 (1 + t443)) (wrap64 (1 + t444))) then (some false) else (if bt449.2 = 0 then (if (bt449.1.length : Int) = (wrap64 ((t440.length : Int) + 1)) then ((spec_ValidHistory.f kj38 bt449.1).bind fun t453 => (some t453)) else (some false)) else (some true)))) else (some false)) else (some false)) else (some false))))) = some r := H
         have A76 := Aside0.mk A760
         clear A760
         replace H := Option.bind_eq_some_iff.mp H
         obtain ⟨⟨t445, t446⟩, A770, H⟩ := H
         replace H : ((impl_CommonAncestor.f kj38 t440 (wrap64 (1 + t444)) (wrap64 (1 + t443))).bind fun bt447 => ((impl_MergeVersions.f kj38 t440 (wrap64 (1 + t443)) (wrap64 (1 + t444)) (⟨#[98, 111, 116, 104]⟩ : ByteArray)).bind fun bt449 => (if t446 = 0 then (if bt447.2 = 0 then (if t445 = bt447.1 then (if t445 < 0 then (some false) else (if t445 > (mn (wrap64 (1 + t443)) (wrap64 (1 + t444))) then (some false) else (if bt449.2 = 0 then (if (bt449.1.length : Int) = (wrap64 ((t440.length : Int) + 1)) then ((spec_ValidHistory.f kj38 bt449.1).bind fun t453 => (some t453)) else (some false)) else (some true)))) else (some false)) else (some false)) else (some false)))) = some r := H
         have A77 := Aside0.mk A770
         clear A770
         replace H := Option.bind_eq_some_iff.mp H
         obtain ⟨⟨t447, t448⟩, A780, H⟩ := H
         replace H : ((impl_MergeVersions.f kj38 t440 (wrap64 (1 + t443)) (wrap64 (1 + t444)) (⟨#[98, 111, 116, 104]⟩ : ByteArray)).bind fun bt449 => (if t446 = 0 then (if t448 = 0 then (if t445 = t447 then (if t445 < 0 then (some false) else (if t445 > (mn (wrap64 (1 + t443)) (wrap64 (1 + t444))) then (some false) else (if bt449.2 = 0 then (if (bt449.1.length : Int) = (wrap64 ((t440.length : Int) + 1)) then ((spec_ValidHistory.f kj38 bt449.1).bind fun t453 => (some t453)) else (some false)) else (some true)))) else (some false)) else (some false)) else (some false))) = some r := H
         have A78 := Aside0.mk A780
         clear A780
         replace H := Option.bind_eq_some_iff.mp H
         obtain ⟨⟨t449, t452⟩, A790, H⟩ := H
         replace H : (if t446 = 0 then (if t448 = 0 then (if t445 = t447 then (if t445 < 0 then (some false) else (if t445 > (mn (wrap64 (1 + t443)) (wrap64 (1 + t444))) then (some false) else (if t452 = 0 then (if (t449.length : Int) = (wrap64 ((t440.length : Int) + 1)) then ((spec_ValidHistory.f kj38 t449).bind fun t453 => (some t453)) else (some false)) else (some true)))) else (some false)) else (some false)) else (some false)) = some r := H
         have A79 := Aside0.mk A790
         clear A790
         by_cases c80 : t446 = 0
         ·
          rw [if_pos c80] at H
          have c80b0 : (t446 == 0) = true := beq_iff_eq.mpr c80
          have c80b1 : (t446 != 0) = false := bne_eq_false_iff_eq.mpr c80
          clear c80
          by_cases c81 : t448 = 0
          ·
           rw [if_pos c81] at H
           have c81b0 : (t448 == 0) = true := beq_iff_eq.mpr c81
           have c81b1 : (t448 != 0) = false := bne_eq_false_iff_eq.mpr c81
           clear c81
           by_cases c82 : t445 = t447
           ·
            rw [if_pos c82] at H
            have c82b0 : (t445 == t447) = true := beq_iff_eq.mpr c82
            have c82b1 : (t445 != t447) = false := bne_eq_false_iff_eq.mpr c82
            clear c82
            by_cases c83 : t445 < 0
            ·
             rw [if_pos c83] at H
             have c83b0 : decide (t445 < 0) = true := decide_eq_true c83
             clear c83
             obtain rfl := Option.some.inj H
             as_aux_lemma =>
              go_wp2_with (first | ((with_reducible refine gate_callee (f := 38) rfl ?_); refine goesL_ (some 162) rfl rfl Try.func38 (by kernel_rfl) rfl #[.slice A1 l1.length c1] rfl mT_ ?_; (with_reducible refine (spec_R8History.calls kj38 _ _ l1 t440 _ ?side1 ?side2 A71.out).mono ?_); (case side1 => exact cA_ (Kd.C_below HR1.out HB.out)); (case side2 => exact HC1.out); rintro e w84 ⟨v441, rfl, ho0, hb⟩; refine ⟨_, rfl, ?_⟩; have n0_ := Aside0.mk (Kd.N_lower (Kd.N_mono (ok' := fun k_ => True) (Kd.S_N (Kd.S_bound ho0)) (fun k_ hk_ => trivial)) (below_size bB_)); have n1_ := Aside0.mk (below_step bB_ hb); clear HB; have HO442 := n0_; have HB := n1_; clear n0_ n1_; (try clear hb); (try clear hb2); (try clear hk); (try clear hi); (try clear ho0); obtain ⟨Ao85, co85, eo85⟩ := Kd.N_slice HO442.out; subst eo85) | ((with_reducible refine gate_callee (f := 39) rfl ?_); refine goesL_ (some 169) rfl rfl Try.func39 (by kernel_rfl) rfl #[.slice A1 l1.length c1, .int .i64 0, .int .i64 (t440.length : Int)] rfl mT_ ?_; (with_reducible refine (laws_r8At.calls _ _ l1 0 (t440.length : Int) t443 _ ?side1 ?side2 A75.out).mono ?_); (case side1 => exact cA_ (Kd.C_below HR1.out HB.out)); (case side2 => exact HC1.out); rintro e w' ⟨rfl, ⟨nd, rfl⟩⟩; refine ⟨_, rfl, ?_⟩) | ((with_reducible refine gate_callee (f := 39) rfl ?_); refine goesL_ (some 173) rfl rfl Try.func39 (by kernel_rfl) rfl #[.slice A1 l1.length c1, .int .i64 1, .int .i64 (t440.length : Int)] rfl mT_ ?_; (with_reducible refine (laws_r8At.calls _ _ l1 1 (t440.length : Int) t444 _ ?side1 ?side2 A76.out).mono ?_); (case side1 => exact cA_ (Kd.C_below HR1.out bB_)); (case side2 => exact HC1.out); rintro e w' ⟨rfl, ⟨nd, rfl⟩⟩; refine ⟨_, rfl, ?_⟩) | ((with_reducible refine gate_callee (f := 40) rfl ?_); refine goesL_ (some 179) rfl rfl Try.func40 (by kernel_rfl) rfl #[.slice Ao85 t440.length co85, .int .i64 (wrap64 (1 + t443)), .int .i64 (wrap64 (1 + t444))] rfl mT_ ?_; (with_reducible refine (impl_CommonAncestor.calls kj38 _ _ t440 (wrap64 (1 + t443)) (wrap64 (1 + t444)) t445 t446 _ ?side1 ?side2 A77.out).mono ?_); (case side1 => repeat (first | exact (Kd.N_reads' HO442.out).2.2 | (with_reducible refine Kd.C_alloc ?_ _) | (with_reducible refine Kd.C_drewN ?_ _) | (with_reducible refine Kd.C_drew ?_))); (case side2 => exact (Kd.N_reads' HO442.out).2.1); rintro e w86 ⟨rfl, hb⟩; refine ⟨_, rfl, ?_⟩; have n0_ := Aside0.mk (Kd.N_below (nA_ HO442.out) hb); have n1_ := Aside0.mk (below_step bB_ hb); clear HO442; clear HB; have HO442 := n0_; have HB := n1_; clear n0_ n1_; (try clear hb); (try clear hb2); (try clear hk); (try clear hi)) | ((with_reducible refine gate_callee (f := 40) rfl ?_); refine goesL_ (some 186) rfl rfl Try.func40 (by kernel_rfl) rfl #[.slice Ao85 t440.length co85, .int .i64 (wrap64 (1 + t444)), .int .i64 (wrap64 (1 + t443))] rfl mT_ ?_; (with_reducible refine (impl_CommonAncestor.calls kj38 _ _ t440 (wrap64 (1 + t444)) (wrap64 (1 + t443)) t447 t448 _ ?side1 ?side2 A78.out).mono ?_); (case side1 => repeat (first | exact (Kd.N_reads' HO442.out).2.2 | (with_reducible refine Kd.C_alloc ?_ _) | (with_reducible refine Kd.C_drewN ?_ _) | (with_reducible refine Kd.C_drew ?_))); (case side2 => exact (Kd.N_reads' HO442.out).2.1); rintro e w87 ⟨rfl, hb⟩; refine ⟨_, rfl, ?_⟩; have n0_ := Aside0.mk (Kd.N_below (nA_ HO442.out) hb); have n1_ := Aside0.mk (below_step bB_ hb); clear HO442; clear HB; have HO442 := n0_; have HB := n1_; clear n0_ n1_; (try clear hb); (try clear hb2); (try clear hk); (try clear hi)) | ((with_reducible refine gate_callee (f := 29) rfl ?_); refine goesL_ (some 193) rfl rfl Try.func29 (by kernel_rfl) rfl #[.slice Ao85 t440.length co85, .int .i64 (wrap64 (1 + t443)), .int .i64 (wrap64 (1 + t444)), .string (⟨#[98, 111, 116, 104]⟩ : ByteArray)] rfl mT_ ?_; (with_reducible refine (impl_MergeVersions.calls kj38 (fun k_ => True) _ _ t440 (wrap64 (1 + t443)) (wrap64 (1 + t444)) (⟨#[98, 111, 116, 104]⟩ : ByteArray) t449 t452 _ ?side1 A79.out).mono ?_); (case side1 => exact Kd.N_V (HO442.out)); rintro e w88 ⟨v450, rfl, ho0, hb⟩; refine ⟨_, rfl, ?_⟩; have n0_ := Aside0.mk (Kd.N_elder' (nA_ HO442.out) (Kd.N_base ho0) hb); have n1_ := Aside0.mk (Kd.N_lower (Kd.N_mono (ok' := fun k_ => True) ho0 (fun k_ hk_ => trivial)) (below_size bB_)); have n2_ := Aside0.mk (below_step bB_ hb); clear HO442; clear HB; have HO442 := n0_; have HO451 := n1_; have HB := n2_; clear n0_ n1_ n2_; (try clear hb); (try clear hb2); (try clear hk); (try clear hi); (try clear ho0)))
              go_ret
              exact ⟨er_, bB_⟩
            ·
             rw [if_neg c83] at H
             have c83b0 : decide (t445 < 0) = false := decide_eq_false c83
             clear c83
             obtain ⟨ji89, hji89⟩ : ∃ j_ : Int, (mn (wrap64 (1 + t443)) (wrap64 (1 + t444))) = j_ := ⟨_, rfl⟩
             replace H : (if t445 > (ji89) then (some false) else (if t452 = 0 then (if (t449.length : Int) = (wrap64 ((t440.length : Int) + 1)) then ((spec_ValidHistory.f kj38 t449).bind fun t453 => (some t453)) else (some false)) else (some true))) = some r := by first | (rw [hji89] at H; exact H) | (simp only [hji89] at H ⊢; exact H)
             (try rw [hji89] at A71)
             (try rw [hji89] at A75)
             (try rw [hji89] at A76)
             (try rw [hji89] at A77)
             (try rw [hji89] at A78)
             (try rw [hji89] at A79)
             have hji89_ : (if (wrap64 (1 + t444)) < (wrap64 (1 + t443)) then (wrap64 (1 + t444)) else (wrap64 (1 + t443))) = ji89 := hji89
             by_cases c90 : t445 > (ji89)
             ·
              rw [if_pos c90] at H
              have c90b0 : decide ((ji89) < t445) = true := decide_eq_true c90
              clear c90
              obtain rfl := Option.some.inj H
              as_aux_lemma =>
               go_wp2_with (first | ((with_reducible refine gate_callee (f := 38) rfl ?_); refine goesL_ (some 162) rfl rfl Try.func38 (by kernel_rfl) rfl #[.slice A1 l1.length c1] rfl mT_ ?_; (with_reducible refine (spec_R8History.calls kj38 _ _ l1 t440 _ ?side1 ?side2 A71.out).mono ?_); (case side1 => exact cA_ (Kd.C_below HR1.out HB.out)); (case side2 => exact HC1.out); rintro e w91 ⟨v441, rfl, ho0, hb⟩; refine ⟨_, rfl, ?_⟩; have n0_ := Aside0.mk (Kd.N_lower (Kd.N_mono (ok' := fun k_ => True) (Kd.S_N (Kd.S_bound ho0)) (fun k_ hk_ => trivial)) (below_size bB_)); have n1_ := Aside0.mk (below_step bB_ hb); clear HB; have HO442 := n0_; have HB := n1_; clear n0_ n1_; (try clear hb); (try clear hb2); (try clear hk); (try clear hi); (try clear ho0); obtain ⟨Ao92, co92, eo92⟩ := Kd.N_slice HO442.out; subst eo92) | ((with_reducible refine gate_callee (f := 39) rfl ?_); refine goesL_ (some 169) rfl rfl Try.func39 (by kernel_rfl) rfl #[.slice A1 l1.length c1, .int .i64 0, .int .i64 (t440.length : Int)] rfl mT_ ?_; (with_reducible refine (laws_r8At.calls _ _ l1 0 (t440.length : Int) t443 _ ?side1 ?side2 A75.out).mono ?_); (case side1 => exact cA_ (Kd.C_below HR1.out HB.out)); (case side2 => exact HC1.out); rintro e w' ⟨rfl, ⟨nd, rfl⟩⟩; refine ⟨_, rfl, ?_⟩) | ((with_reducible refine gate_callee (f := 39) rfl ?_); refine goesL_ (some 173) rfl rfl Try.func39 (by kernel_rfl) rfl #[.slice A1 l1.length c1, .int .i64 1, .int .i64 (t440.length : Int)] rfl mT_ ?_; (with_reducible refine (laws_r8At.calls _ _ l1 1 (t440.length : Int) t444 _ ?side1 ?side2 A76.out).mono ?_); (case side1 => exact cA_ (Kd.C_below HR1.out bB_)); (case side2 => exact HC1.out); rintro e w' ⟨rfl, ⟨nd, rfl⟩⟩; refine ⟨_, rfl, ?_⟩) | ((with_reducible refine gate_callee (f := 40) rfl ?_); refine goesL_ (some 179) rfl rfl Try.func40 (by kernel_rfl) rfl #[.slice Ao92 t440.length co92, .int .i64 (wrap64 (1 + t443)), .int .i64 (wrap64 (1 + t444))] rfl mT_ ?_; (with_reducible refine (impl_CommonAncestor.calls kj38 _ _ t440 (wrap64 (1 + t443)) (wrap64 (1 + t444)) t445 t446 _ ?side1 ?side2 A77.out).mono ?_); (case side1 => repeat (first | exact (Kd.N_reads' HO442.out).2.2 | (with_reducible refine Kd.C_alloc ?_ _) | (with_reducible refine Kd.C_drewN ?_ _) | (with_reducible refine Kd.C_drew ?_))); (case side2 => exact (Kd.N_reads' HO442.out).2.1); rintro e w93 ⟨rfl, hb⟩; refine ⟨_, rfl, ?_⟩; have n0_ := Aside0.mk (Kd.N_below (nA_ HO442.out) hb); have n1_ := Aside0.mk (below_step bB_ hb); clear HO442; clear HB; have HO442 := n0_; have HB := n1_; clear n0_ n1_; (try clear hb); (try clear hb2); (try clear hk); (try clear hi)) | ((with_reducible refine gate_callee (f := 40) rfl ?_); refine goesL_ (some 186) rfl rfl Try.func40 (by kernel_rfl) rfl #[.slice Ao92 t440.length co92, .int .i64 (wrap64 (1 + t444)), .int .i64 (wrap64 (1 + t443))] rfl mT_ ?_; (with_reducible refine (impl_CommonAncestor.calls kj38 _ _ t440 (wrap64 (1 + t444)) (wrap64 (1 + t443)) t447 t448 _ ?side1 ?side2 A78.out).mono ?_); (case side1 => repeat (first | exact (Kd.N_reads' HO442.out).2.2 | (with_reducible refine Kd.C_alloc ?_ _) | (with_reducible refine Kd.C_drewN ?_ _) | (with_reducible refine Kd.C_drew ?_))); (case side2 => exact (Kd.N_reads' HO442.out).2.1); rintro e w94 ⟨rfl, hb⟩; refine ⟨_, rfl, ?_⟩; have n0_ := Aside0.mk (Kd.N_below (nA_ HO442.out) hb); have n1_ := Aside0.mk (below_step bB_ hb); clear HO442; clear HB; have HO442 := n0_; have HB := n1_; clear n0_ n1_; (try clear hb); (try clear hb2); (try clear hk); (try clear hi)) | ((with_reducible refine gate_callee (f := 29) rfl ?_); refine goesL_ (some 193) rfl rfl Try.func29 (by kernel_rfl) rfl #[.slice Ao92 t440.length co92, .int .i64 (wrap64 (1 + t443)), .int .i64 (wrap64 (1 + t444)), .string (⟨#[98, 111, 116, 104]⟩ : ByteArray)] rfl mT_ ?_; (with_reducible refine (impl_MergeVersions.calls kj38 (fun k_ => True) _ _ t440 (wrap64 (1 + t443)) (wrap64 (1 + t444)) (⟨#[98, 111, 116, 104]⟩ : ByteArray) t449 t452 _ ?side1 A79.out).mono ?_); (case side1 => exact Kd.N_V (HO442.out)); rintro e w95 ⟨v450, rfl, ho0, hb⟩; refine ⟨_, rfl, ?_⟩; have n0_ := Aside0.mk (Kd.N_elder' (nA_ HO442.out) (Kd.N_base ho0) hb); have n1_ := Aside0.mk (Kd.N_lower (Kd.N_mono (ok' := fun k_ => True) ho0 (fun k_ hk_ => trivial)) (below_size bB_)); have n2_ := Aside0.mk (below_step bB_ hb); clear HO442; clear HB; have HO442 := n0_; have HO451 := n1_; have HB := n2_; clear n0_ n1_ n2_; (try clear hb); (try clear hb2); (try clear hk); (try clear hi); (try clear ho0)))
               go_ret
               exact ⟨by first | rfl | (simp [errW_none, errW_some] <;> rfl) | (simp only [← hji89]; first | rfl | (simp [errW_none, errW_some] <;> rfl)) | (simp [*, errW_none, errW_some] <;> rfl), bB_⟩
             ·
              rw [if_neg c90] at H
              have c90b0 : decide ((ji89) < t445) = false := decide_eq_false c90
              clear c90
              by_cases c96 : t452 = 0
              ·
               rw [if_pos c96] at H
               have c96b0 : (t452 == 0) = true := beq_iff_eq.mpr c96
               have c96b1 : (t452 != 0) = false := bne_eq_false_iff_eq.mpr c96
               clear c96
               by_cases c97 : (t449.length : Int) = (wrap64 ((t440.length : Int) + 1))
               ·
                rw [if_pos c97] at H
                have c97b0 : ((t449.length : Int) == (wrap64 ((t440.length : Int) + 1))) = true := beq_iff_eq.mpr c97
                have c97b1 : ((t449.length : Int) != (wrap64 ((t440.length : Int) + 1))) = false := bne_eq_false_iff_eq.mpr c97
                clear c97
                replace H := Option.bind_eq_some_iff.mp H
                obtain ⟨t453, A980, H⟩ := H
                replace H : (some t453) = some r := H
                have A98 := Aside0.mk A980
                clear A980
                obtain rfl := Option.some.inj H
                as_aux_lemma =>
                 go_wp2_with (first | ((with_reducible refine gate_callee (f := 38) rfl ?_); refine goesL_ (some 162) rfl rfl Try.func38 (by kernel_rfl) rfl #[.slice A1 l1.length c1] rfl mT_ ?_; (with_reducible refine (spec_R8History.calls kj38 _ _ l1 t440 _ ?side1 ?side2 A71.out).mono ?_); (case side1 => exact cA_ (Kd.C_below HR1.out HB.out)); (case side2 => exact HC1.out); rintro e w99 ⟨v441, rfl, ho0, hb⟩; refine ⟨_, rfl, ?_⟩; have n0_ := Aside0.mk (Kd.N_lower (Kd.N_mono (ok' := fun k_ => True) (Kd.S_N (Kd.S_bound ho0)) (fun k_ hk_ => trivial)) (below_size bB_)); have n1_ := Aside0.mk (below_step bB_ hb); clear HB; have HO442 := n0_; have HB := n1_; clear n0_ n1_; (try clear hb); (try clear hb2); (try clear hk); (try clear hi); (try clear ho0); obtain ⟨Ao100, co100, eo100⟩ := Kd.N_slice HO442.out; subst eo100) | ((with_reducible refine gate_callee (f := 39) rfl ?_); refine goesL_ (some 169) rfl rfl Try.func39 (by kernel_rfl) rfl #[.slice A1 l1.length c1, .int .i64 0, .int .i64 (t440.length : Int)] rfl mT_ ?_; (with_reducible refine (laws_r8At.calls _ _ l1 0 (t440.length : Int) t443 _ ?side1 ?side2 A75.out).mono ?_); (case side1 => exact cA_ (Kd.C_below HR1.out HB.out)); (case side2 => exact HC1.out); rintro e w' ⟨rfl, ⟨nd, rfl⟩⟩; refine ⟨_, rfl, ?_⟩) | ((with_reducible refine gate_callee (f := 39) rfl ?_); refine goesL_ (some 173) rfl rfl Try.func39 (by kernel_rfl) rfl #[.slice A1 l1.length c1, .int .i64 1, .int .i64 (t440.length : Int)] rfl mT_ ?_; (with_reducible refine (laws_r8At.calls _ _ l1 1 (t440.length : Int) t444 _ ?side1 ?side2 A76.out).mono ?_); (case side1 => exact cA_ (Kd.C_below HR1.out bB_)); (case side2 => exact HC1.out); rintro e w' ⟨rfl, ⟨nd, rfl⟩⟩; refine ⟨_, rfl, ?_⟩) | ((with_reducible refine gate_callee (f := 40) rfl ?_); refine goesL_ (some 179) rfl rfl Try.func40 (by kernel_rfl) rfl #[.slice Ao100 t440.length co100, .int .i64 (wrap64 (1 + t443)), .int .i64 (wrap64 (1 + t444))] rfl mT_ ?_; (with_reducible refine (impl_CommonAncestor.calls kj38 _ _ t440 (wrap64 (1 + t443)) (wrap64 (1 + t444)) t445 t446 _ ?side1 ?side2 A77.out).mono ?_); (case side1 => repeat (first | exact (Kd.N_reads' HO442.out).2.2 | (with_reducible refine Kd.C_alloc ?_ _) | (with_reducible refine Kd.C_drewN ?_ _) | (with_reducible refine Kd.C_drew ?_))); (case side2 => exact (Kd.N_reads' HO442.out).2.1); rintro e w101 ⟨rfl, hb⟩; refine ⟨_, rfl, ?_⟩; have n0_ := Aside0.mk (Kd.N_below (nA_ HO442.out) hb); have n1_ := Aside0.mk (below_step bB_ hb); clear HO442; clear HB; have HO442 := n0_; have HB := n1_; clear n0_ n1_; (try clear hb); (try clear hb2); (try clear hk); (try clear hi)) | ((with_reducible refine gate_callee (f := 40) rfl ?_); refine goesL_ (some 186) rfl rfl Try.func40 (by kernel_rfl) rfl #[.slice Ao100 t440.length co100, .int .i64 (wrap64 (1 + t444)), .int .i64 (wrap64 (1 + t443))] rfl mT_ ?_; (with_reducible refine (impl_CommonAncestor.calls kj38 _ _ t440 (wrap64 (1 + t444)) (wrap64 (1 + t443)) t447 t448 _ ?side1 ?side2 A78.out).mono ?_); (case side1 => repeat (first | exact (Kd.N_reads' HO442.out).2.2 | (with_reducible refine Kd.C_alloc ?_ _) | (with_reducible refine Kd.C_drewN ?_ _) | (with_reducible refine Kd.C_drew ?_))); (case side2 => exact (Kd.N_reads' HO442.out).2.1); rintro e w102 ⟨rfl, hb⟩; refine ⟨_, rfl, ?_⟩; have n0_ := Aside0.mk (Kd.N_below (nA_ HO442.out) hb); have n1_ := Aside0.mk (below_step bB_ hb); clear HO442; clear HB; have HO442 := n0_; have HB := n1_; clear n0_ n1_; (try clear hb); (try clear hb2); (try clear hk); (try clear hi)) | ((with_reducible refine gate_callee (f := 29) rfl ?_); refine goesL_ (some 193) rfl rfl Try.func29 (by kernel_rfl) rfl #[.slice Ao100 t440.length co100, .int .i64 (wrap64 (1 + t443)), .int .i64 (wrap64 (1 + t444)), .string (⟨#[98, 111, 116, 104]⟩ : ByteArray)] rfl mT_ ?_; (with_reducible refine (impl_MergeVersions.calls kj38 (fun k_ => True) _ _ t440 (wrap64 (1 + t443)) (wrap64 (1 + t444)) (⟨#[98, 111, 116, 104]⟩ : ByteArray) t449 t452 _ ?side1 A79.out).mono ?_); (case side1 => exact Kd.N_V (HO442.out)); rintro e w103 ⟨v450, rfl, ho0, hb⟩; refine ⟨_, rfl, ?_⟩; have n0_ := Aside0.mk (Kd.N_elder' (nA_ HO442.out) (Kd.N_base ho0) hb); have n1_ := Aside0.mk (Kd.N_lower (Kd.N_mono (ok' := fun k_ => True) ho0 (fun k_ hk_ => trivial)) (below_size bB_)); have n2_ := Aside0.mk (below_step bB_ hb); clear HO442; clear HB; have HO442 := n0_; have HO451 := n1_; have HB := n2_; clear n0_ n1_ n2_; (try clear hb); (try clear hb2); (try clear hk); (try clear hi); (try clear ho0); obtain ⟨Ao104, co104, eo104⟩ := Kd.N_slice HO451.out; subst eo104) | (go_at_call 41; (with_reducible refine (spec_ValidHistory.calls kj38 _ _ t449 t453 _ ?side1 ?side2 A98.out).mono ?_); (case side1 => repeat (first | exact (Kd.N_reads' HO451.out).2.2 | (with_reducible refine Kd.C_alloc ?_ _) | (with_reducible refine Kd.C_drewN ?_ _) | (with_reducible refine Kd.C_drew ?_))); (case side2 => exact (Kd.N_reads' HO451.out).2.1); rintro e w105 ⟨rfl, hb⟩; have n0_ := Aside0.mk (Kd.N_below (nA_ HO442.out) hb); have n1_ := Aside0.mk (Kd.N_below (nA_ HO451.out) hb); have n2_ := Aside0.mk (below_step bB_ hb); clear HO442; clear HO451; clear HB; have HO442 := n0_; have HO451 := n1_; have HB := n2_; clear n0_ n1_ n2_; (try clear hb); (try clear hb2); (try clear hk); (try clear hi)))
                 go_ret
                 exact ⟨by first | rfl | (simp [errW_none, errW_some] <;> rfl) | (simp only [← hji89]; first | rfl | (simp [errW_none, errW_some] <;> rfl)) | (simp [*, errW_none, errW_some] <;> rfl), bB_⟩
               ·
                rw [if_neg c97] at H
                have c97b0 : ((t449.length : Int) == (wrap64 ((t440.length : Int) + 1))) = false := beq_eq_false_iff_ne.mpr c97
                have c97b1 : ((t449.length : Int) != (wrap64 ((t440.length : Int) + 1))) = true := bne_iff_ne.mpr c97
                obtain rfl := Option.some.inj H
                as_aux_lemma =>
                 go_wp2_with (first | ((with_reducible refine gate_callee (f := 38) rfl ?_); refine goesL_ (some 162) rfl rfl Try.func38 (by kernel_rfl) rfl #[.slice A1 l1.length c1] rfl mT_ ?_; (with_reducible refine (spec_R8History.calls kj38 _ _ l1 t440 _ ?side1 ?side2 A71.out).mono ?_); (case side1 => exact cA_ (Kd.C_below HR1.out HB.out)); (case side2 => exact HC1.out); rintro e w106 ⟨v441, rfl, ho0, hb⟩; refine ⟨_, rfl, ?_⟩; have n0_ := Aside0.mk (Kd.N_lower (Kd.N_mono (ok' := fun k_ => True) (Kd.S_N (Kd.S_bound ho0)) (fun k_ hk_ => trivial)) (below_size bB_)); have n1_ := Aside0.mk (below_step bB_ hb); clear HB; have HO442 := n0_; have HB := n1_; clear n0_ n1_; (try clear hb); (try clear hb2); (try clear hk); (try clear hi); (try clear ho0); obtain ⟨Ao107, co107, eo107⟩ := Kd.N_slice HO442.out; subst eo107) | ((with_reducible refine gate_callee (f := 39) rfl ?_); refine goesL_ (some 169) rfl rfl Try.func39 (by kernel_rfl) rfl #[.slice A1 l1.length c1, .int .i64 0, .int .i64 (t440.length : Int)] rfl mT_ ?_; (with_reducible refine (laws_r8At.calls _ _ l1 0 (t440.length : Int) t443 _ ?side1 ?side2 A75.out).mono ?_); (case side1 => exact cA_ (Kd.C_below HR1.out HB.out)); (case side2 => exact HC1.out); rintro e w' ⟨rfl, ⟨nd, rfl⟩⟩; refine ⟨_, rfl, ?_⟩) | ((with_reducible refine gate_callee (f := 39) rfl ?_); refine goesL_ (some 173) rfl rfl Try.func39 (by kernel_rfl) rfl #[.slice A1 l1.length c1, .int .i64 1, .int .i64 (t440.length : Int)] rfl mT_ ?_; (with_reducible refine (laws_r8At.calls _ _ l1 1 (t440.length : Int) t444 _ ?side1 ?side2 A76.out).mono ?_); (case side1 => exact cA_ (Kd.C_below HR1.out bB_)); (case side2 => exact HC1.out); rintro e w' ⟨rfl, ⟨nd, rfl⟩⟩; refine ⟨_, rfl, ?_⟩) | ((with_reducible refine gate_callee (f := 40) rfl ?_); refine goesL_ (some 179) rfl rfl Try.func40 (by kernel_rfl) rfl #[.slice Ao107 t440.length co107, .int .i64 (wrap64 (1 + t443)), .int .i64 (wrap64 (1 + t444))] rfl mT_ ?_; (with_reducible refine (impl_CommonAncestor.calls kj38 _ _ t440 (wrap64 (1 + t443)) (wrap64 (1 + t444)) t445 t446 _ ?side1 ?side2 A77.out).mono ?_); (case side1 => repeat (first | exact (Kd.N_reads' HO442.out).2.2 | (with_reducible refine Kd.C_alloc ?_ _) | (with_reducible refine Kd.C_drewN ?_ _) | (with_reducible refine Kd.C_drew ?_))); (case side2 => exact (Kd.N_reads' HO442.out).2.1); rintro e w108 ⟨rfl, hb⟩; refine ⟨_, rfl, ?_⟩; have n0_ := Aside0.mk (Kd.N_below (nA_ HO442.out) hb); have n1_ := Aside0.mk (below_step bB_ hb); clear HO442; clear HB; have HO442 := n0_; have HB := n1_; clear n0_ n1_; (try clear hb); (try clear hb2); (try clear hk); (try clear hi)) | ((with_reducible refine gate_callee (f := 40) rfl ?_); refine goesL_ (some 186) rfl rfl Try.func40 (by kernel_rfl) rfl #[.slice Ao107 t440.length co107, .int .i64 (wrap64 (1 + t444)), .int .i64 (wrap64 (1 + t443))] rfl mT_ ?_; (with_reducible refine (impl_CommonAncestor.calls kj38 _ _ t440 (wrap64 (1 + t444)) (wrap64 (1 + t443)) t447 t448 _ ?side1 ?side2 A78.out).mono ?_); (case side1 => repeat (first | exact (Kd.N_reads' HO442.out).2.2 | (with_reducible refine Kd.C_alloc ?_ _) | (with_reducible refine Kd.C_drewN ?_ _) | (with_reducible refine Kd.C_drew ?_))); (case side2 => exact (Kd.N_reads' HO442.out).2.1); rintro e w109 ⟨rfl, hb⟩; refine ⟨_, rfl, ?_⟩; have n0_ := Aside0.mk (Kd.N_below (nA_ HO442.out) hb); have n1_ := Aside0.mk (below_step bB_ hb); clear HO442; clear HB; have HO442 := n0_; have HB := n1_; clear n0_ n1_; (try clear hb); (try clear hb2); (try clear hk); (try clear hi)) | ((with_reducible refine gate_callee (f := 29) rfl ?_); refine goesL_ (some 193) rfl rfl Try.func29 (by kernel_rfl) rfl #[.slice Ao107 t440.length co107, .int .i64 (wrap64 (1 + t443)), .int .i64 (wrap64 (1 + t444)), .string (⟨#[98, 111, 116, 104]⟩ : ByteArray)] rfl mT_ ?_; (with_reducible refine (impl_MergeVersions.calls kj38 (fun k_ => True) _ _ t440 (wrap64 (1 + t443)) (wrap64 (1 + t444)) (⟨#[98, 111, 116, 104]⟩ : ByteArray) t449 t452 _ ?side1 A79.out).mono ?_); (case side1 => exact Kd.N_V (HO442.out)); rintro e w110 ⟨v450, rfl, ho0, hb⟩; refine ⟨_, rfl, ?_⟩; have n0_ := Aside0.mk (Kd.N_elder' (nA_ HO442.out) (Kd.N_base ho0) hb); have n1_ := Aside0.mk (Kd.N_lower (Kd.N_mono (ok' := fun k_ => True) ho0 (fun k_ hk_ => trivial)) (below_size bB_)); have n2_ := Aside0.mk (below_step bB_ hb); clear HO442; clear HB; have HO442 := n0_; have HO451 := n1_; have HB := n2_; clear n0_ n1_ n2_; (try clear hb); (try clear hb2); (try clear hk); (try clear hi); (try clear ho0); obtain ⟨Ao111, co111, eo111⟩ := Kd.N_slice HO451.out; subst eo111))
                 go_ret
                 exact ⟨by first | rfl | (simp [errW_none, errW_some] <;> rfl) | (simp only [← hji89]; first | rfl | (simp [errW_none, errW_some] <;> rfl)) | (simp [*, errW_none, errW_some] <;> rfl), bB_⟩
              ·
               rw [if_neg c96] at H
               have c96b0 : (t452 == 0) = false := beq_eq_false_iff_ne.mpr c96
               have c96b1 : (t452 != 0) = true := bne_iff_ne.mpr c96
               obtain rfl := Option.some.inj H
               as_aux_lemma =>
                go_wp2_with (first | ((with_reducible refine gate_callee (f := 38) rfl ?_); refine goesL_ (some 162) rfl rfl Try.func38 (by kernel_rfl) rfl #[.slice A1 l1.length c1] rfl mT_ ?_; (with_reducible refine (spec_R8History.calls kj38 _ _ l1 t440 _ ?side1 ?side2 A71.out).mono ?_); (case side1 => exact cA_ (Kd.C_below HR1.out HB.out)); (case side2 => exact HC1.out); rintro e w112 ⟨v441, rfl, ho0, hb⟩; refine ⟨_, rfl, ?_⟩; have n0_ := Aside0.mk (Kd.N_lower (Kd.N_mono (ok' := fun k_ => True) (Kd.S_N (Kd.S_bound ho0)) (fun k_ hk_ => trivial)) (below_size bB_)); have n1_ := Aside0.mk (below_step bB_ hb); clear HB; have HO442 := n0_; have HB := n1_; clear n0_ n1_; (try clear hb); (try clear hb2); (try clear hk); (try clear hi); (try clear ho0); obtain ⟨Ao113, co113, eo113⟩ := Kd.N_slice HO442.out; subst eo113) | ((with_reducible refine gate_callee (f := 39) rfl ?_); refine goesL_ (some 169) rfl rfl Try.func39 (by kernel_rfl) rfl #[.slice A1 l1.length c1, .int .i64 0, .int .i64 (t440.length : Int)] rfl mT_ ?_; (with_reducible refine (laws_r8At.calls _ _ l1 0 (t440.length : Int) t443 _ ?side1 ?side2 A75.out).mono ?_); (case side1 => exact cA_ (Kd.C_below HR1.out HB.out)); (case side2 => exact HC1.out); rintro e w' ⟨rfl, ⟨nd, rfl⟩⟩; refine ⟨_, rfl, ?_⟩) | ((with_reducible refine gate_callee (f := 39) rfl ?_); refine goesL_ (some 173) rfl rfl Try.func39 (by kernel_rfl) rfl #[.slice A1 l1.length c1, .int .i64 1, .int .i64 (t440.length : Int)] rfl mT_ ?_; (with_reducible refine (laws_r8At.calls _ _ l1 1 (t440.length : Int) t444 _ ?side1 ?side2 A76.out).mono ?_); (case side1 => exact cA_ (Kd.C_below HR1.out bB_)); (case side2 => exact HC1.out); rintro e w' ⟨rfl, ⟨nd, rfl⟩⟩; refine ⟨_, rfl, ?_⟩) | ((with_reducible refine gate_callee (f := 40) rfl ?_); refine goesL_ (some 179) rfl rfl Try.func40 (by kernel_rfl) rfl #[.slice Ao113 t440.length co113, .int .i64 (wrap64 (1 + t443)), .int .i64 (wrap64 (1 + t444))] rfl mT_ ?_; (with_reducible refine (impl_CommonAncestor.calls kj38 _ _ t440 (wrap64 (1 + t443)) (wrap64 (1 + t444)) t445 t446 _ ?side1 ?side2 A77.out).mono ?_); (case side1 => repeat (first | exact (Kd.N_reads' HO442.out).2.2 | (with_reducible refine Kd.C_alloc ?_ _) | (with_reducible refine Kd.C_drewN ?_ _) | (with_reducible refine Kd.C_drew ?_))); (case side2 => exact (Kd.N_reads' HO442.out).2.1); rintro e w114 ⟨rfl, hb⟩; refine ⟨_, rfl, ?_⟩; have n0_ := Aside0.mk (Kd.N_below (nA_ HO442.out) hb); have n1_ := Aside0.mk (below_step bB_ hb); clear HO442; clear HB; have HO442 := n0_; have HB := n1_; clear n0_ n1_; (try clear hb); (try clear hb2); (try clear hk); (try clear hi)) | ((with_reducible refine gate_callee (f := 40) rfl ?_); refine goesL_ (some 186) rfl rfl Try.func40 (by kernel_rfl) rfl #[.slice Ao113 t440.length co113, .int .i64 (wrap64 (1 + t444)), .int .i64 (wrap64 (1 + t443))] rfl mT_ ?_; (with_reducible refine (impl_CommonAncestor.calls kj38 _ _ t440 (wrap64 (1 + t444)) (wrap64 (1 + t443)) t447 t448 _ ?side1 ?side2 A78.out).mono ?_); (case side1 => repeat (first | exact (Kd.N_reads' HO442.out).2.2 | (with_reducible refine Kd.C_alloc ?_ _) | (with_reducible refine Kd.C_drewN ?_ _) | (with_reducible refine Kd.C_drew ?_))); (case side2 => exact (Kd.N_reads' HO442.out).2.1); rintro e w115 ⟨rfl, hb⟩; refine ⟨_, rfl, ?_⟩; have n0_ := Aside0.mk (Kd.N_below (nA_ HO442.out) hb); have n1_ := Aside0.mk (below_step bB_ hb); clear HO442; clear HB; have HO442 := n0_; have HB := n1_; clear n0_ n1_; (try clear hb); (try clear hb2); (try clear hk); (try clear hi)) | ((with_reducible refine gate_callee (f := 29) rfl ?_); refine goesL_ (some 193) rfl rfl Try.func29 (by kernel_rfl) rfl #[.slice Ao113 t440.length co113, .int .i64 (wrap64 (1 + t443)), .int .i64 (wrap64 (1 + t444)), .string (⟨#[98, 111, 116, 104]⟩ : ByteArray)] rfl mT_ ?_; (with_reducible refine (impl_MergeVersions.calls kj38 (fun k_ => True) _ _ t440 (wrap64 (1 + t443)) (wrap64 (1 + t444)) (⟨#[98, 111, 116, 104]⟩ : ByteArray) t449 t452 _ ?side1 A79.out).mono ?_); (case side1 => exact Kd.N_V (HO442.out)); rintro e w116 ⟨v450, rfl, ho0, hb⟩; refine ⟨_, rfl, ?_⟩; have n0_ := Aside0.mk (Kd.N_elder' (nA_ HO442.out) (Kd.N_base ho0) hb); have n1_ := Aside0.mk (Kd.N_lower (Kd.N_mono (ok' := fun k_ => True) ho0 (fun k_ hk_ => trivial)) (below_size bB_)); have n2_ := Aside0.mk (below_step bB_ hb); clear HO442; clear HB; have HO442 := n0_; have HO451 := n1_; have HB := n2_; clear n0_ n1_ n2_; (try clear hb); (try clear hb2); (try clear hk); (try clear hi); (try clear ho0)))
                go_ret
                exact ⟨by first | rfl | (simp [errW_none, errW_some] <;> rfl) | (simp only [← hji89]; first | rfl | (simp [errW_none, errW_some] <;> rfl)) | (simp [*, errW_none, errW_some] <;> rfl), bB_⟩
           ·
            rw [if_neg c82] at H
            have c82b0 : (t445 == t447) = false := beq_eq_false_iff_ne.mpr c82
            have c82b1 : (t445 != t447) = true := bne_iff_ne.mpr c82
            obtain rfl := Option.some.inj H
            as_aux_lemma =>
             go_wp2_with (first | ((with_reducible refine gate_callee (f := 38) rfl ?_); refine goesL_ (some 162) rfl rfl Try.func38 (by kernel_rfl) rfl #[.slice A1 l1.length c1] rfl mT_ ?_; (with_reducible refine (spec_R8History.calls kj38 _ _ l1 t440 _ ?side1 ?side2 A71.out).mono ?_); (case side1 => exact cA_ (Kd.C_below HR1.out HB.out)); (case side2 => exact HC1.out); rintro e w117 ⟨v441, rfl, ho0, hb⟩; refine ⟨_, rfl, ?_⟩; have n0_ := Aside0.mk (Kd.N_lower (Kd.N_mono (ok' := fun k_ => True) (Kd.S_N (Kd.S_bound ho0)) (fun k_ hk_ => trivial)) (below_size bB_)); have n1_ := Aside0.mk (below_step bB_ hb); clear HB; have HO442 := n0_; have HB := n1_; clear n0_ n1_; (try clear hb); (try clear hb2); (try clear hk); (try clear hi); (try clear ho0); obtain ⟨Ao118, co118, eo118⟩ := Kd.N_slice HO442.out; subst eo118) | ((with_reducible refine gate_callee (f := 39) rfl ?_); refine goesL_ (some 169) rfl rfl Try.func39 (by kernel_rfl) rfl #[.slice A1 l1.length c1, .int .i64 0, .int .i64 (t440.length : Int)] rfl mT_ ?_; (with_reducible refine (laws_r8At.calls _ _ l1 0 (t440.length : Int) t443 _ ?side1 ?side2 A75.out).mono ?_); (case side1 => exact cA_ (Kd.C_below HR1.out HB.out)); (case side2 => exact HC1.out); rintro e w' ⟨rfl, ⟨nd, rfl⟩⟩; refine ⟨_, rfl, ?_⟩) | ((with_reducible refine gate_callee (f := 39) rfl ?_); refine goesL_ (some 173) rfl rfl Try.func39 (by kernel_rfl) rfl #[.slice A1 l1.length c1, .int .i64 1, .int .i64 (t440.length : Int)] rfl mT_ ?_; (with_reducible refine (laws_r8At.calls _ _ l1 1 (t440.length : Int) t444 _ ?side1 ?side2 A76.out).mono ?_); (case side1 => exact cA_ (Kd.C_below HR1.out bB_)); (case side2 => exact HC1.out); rintro e w' ⟨rfl, ⟨nd, rfl⟩⟩; refine ⟨_, rfl, ?_⟩) | ((with_reducible refine gate_callee (f := 40) rfl ?_); refine goesL_ (some 179) rfl rfl Try.func40 (by kernel_rfl) rfl #[.slice Ao118 t440.length co118, .int .i64 (wrap64 (1 + t443)), .int .i64 (wrap64 (1 + t444))] rfl mT_ ?_; (with_reducible refine (impl_CommonAncestor.calls kj38 _ _ t440 (wrap64 (1 + t443)) (wrap64 (1 + t444)) t445 t446 _ ?side1 ?side2 A77.out).mono ?_); (case side1 => repeat (first | exact (Kd.N_reads' HO442.out).2.2 | (with_reducible refine Kd.C_alloc ?_ _) | (with_reducible refine Kd.C_drewN ?_ _) | (with_reducible refine Kd.C_drew ?_))); (case side2 => exact (Kd.N_reads' HO442.out).2.1); rintro e w119 ⟨rfl, hb⟩; refine ⟨_, rfl, ?_⟩; have n0_ := Aside0.mk (Kd.N_below (nA_ HO442.out) hb); have n1_ := Aside0.mk (below_step bB_ hb); clear HO442; clear HB; have HO442 := n0_; have HB := n1_; clear n0_ n1_; (try clear hb); (try clear hb2); (try clear hk); (try clear hi)) | ((with_reducible refine gate_callee (f := 40) rfl ?_); refine goesL_ (some 186) rfl rfl Try.func40 (by kernel_rfl) rfl #[.slice Ao118 t440.length co118, .int .i64 (wrap64 (1 + t444)), .int .i64 (wrap64 (1 + t443))] rfl mT_ ?_; (with_reducible refine (impl_CommonAncestor.calls kj38 _ _ t440 (wrap64 (1 + t444)) (wrap64 (1 + t443)) t447 t448 _ ?side1 ?side2 A78.out).mono ?_); (case side1 => repeat (first | exact (Kd.N_reads' HO442.out).2.2 | (with_reducible refine Kd.C_alloc ?_ _) | (with_reducible refine Kd.C_drewN ?_ _) | (with_reducible refine Kd.C_drew ?_))); (case side2 => exact (Kd.N_reads' HO442.out).2.1); rintro e w120 ⟨rfl, hb⟩; refine ⟨_, rfl, ?_⟩; have n0_ := Aside0.mk (Kd.N_below (nA_ HO442.out) hb); have n1_ := Aside0.mk (below_step bB_ hb); clear HO442; clear HB; have HO442 := n0_; have HB := n1_; clear n0_ n1_; (try clear hb); (try clear hb2); (try clear hk); (try clear hi)) | ((with_reducible refine gate_callee (f := 29) rfl ?_); refine goesL_ (some 193) rfl rfl Try.func29 (by kernel_rfl) rfl #[.slice Ao118 t440.length co118, .int .i64 (wrap64 (1 + t443)), .int .i64 (wrap64 (1 + t444)), .string (⟨#[98, 111, 116, 104]⟩ : ByteArray)] rfl mT_ ?_; (with_reducible refine (impl_MergeVersions.calls kj38 (fun k_ => True) _ _ t440 (wrap64 (1 + t443)) (wrap64 (1 + t444)) (⟨#[98, 111, 116, 104]⟩ : ByteArray) t449 t452 _ ?side1 A79.out).mono ?_); (case side1 => exact Kd.N_V (HO442.out)); rintro e w121 ⟨v450, rfl, ho0, hb⟩; refine ⟨_, rfl, ?_⟩; have n0_ := Aside0.mk (Kd.N_elder' (nA_ HO442.out) (Kd.N_base ho0) hb); have n1_ := Aside0.mk (Kd.N_lower (Kd.N_mono (ok' := fun k_ => True) ho0 (fun k_ hk_ => trivial)) (below_size bB_)); have n2_ := Aside0.mk (below_step bB_ hb); clear HO442; clear HB; have HO442 := n0_; have HO451 := n1_; have HB := n2_; clear n0_ n1_ n2_; (try clear hb); (try clear hb2); (try clear hk); (try clear hi); (try clear ho0)))
             go_ret
             exact ⟨er_, bB_⟩
          ·
           rw [if_neg c81] at H
           have c81b0 : (t448 == 0) = false := beq_eq_false_iff_ne.mpr c81
           have c81b1 : (t448 != 0) = true := bne_iff_ne.mpr c81
           obtain rfl := Option.some.inj H
           as_aux_lemma =>
            go_wp2_with (first | ((with_reducible refine gate_callee (f := 38) rfl ?_); refine goesL_ (some 162) rfl rfl Try.func38 (by kernel_rfl) rfl #[.slice A1 l1.length c1] rfl mT_ ?_; (with_reducible refine (spec_R8History.calls kj38 _ _ l1 t440 _ ?side1 ?side2 A71.out).mono ?_); (case side1 => exact cA_ (Kd.C_below HR1.out HB.out)); (case side2 => exact HC1.out); rintro e w122 ⟨v441, rfl, ho0, hb⟩; refine ⟨_, rfl, ?_⟩; have n0_ := Aside0.mk (Kd.N_lower (Kd.N_mono (ok' := fun k_ => True) (Kd.S_N (Kd.S_bound ho0)) (fun k_ hk_ => trivial)) (below_size bB_)); have n1_ := Aside0.mk (below_step bB_ hb); clear HB; have HO442 := n0_; have HB := n1_; clear n0_ n1_; (try clear hb); (try clear hb2); (try clear hk); (try clear hi); (try clear ho0); obtain ⟨Ao123, co123, eo123⟩ := Kd.N_slice HO442.out; subst eo123) | ((with_reducible refine gate_callee (f := 39) rfl ?_); refine goesL_ (some 169) rfl rfl Try.func39 (by kernel_rfl) rfl #[.slice A1 l1.length c1, .int .i64 0, .int .i64 (t440.length : Int)] rfl mT_ ?_; (with_reducible refine (laws_r8At.calls _ _ l1 0 (t440.length : Int) t443 _ ?side1 ?side2 A75.out).mono ?_); (case side1 => exact cA_ (Kd.C_below HR1.out HB.out)); (case side2 => exact HC1.out); rintro e w' ⟨rfl, ⟨nd, rfl⟩⟩; refine ⟨_, rfl, ?_⟩) | ((with_reducible refine gate_callee (f := 39) rfl ?_); refine goesL_ (some 173) rfl rfl Try.func39 (by kernel_rfl) rfl #[.slice A1 l1.length c1, .int .i64 1, .int .i64 (t440.length : Int)] rfl mT_ ?_; (with_reducible refine (laws_r8At.calls _ _ l1 1 (t440.length : Int) t444 _ ?side1 ?side2 A76.out).mono ?_); (case side1 => exact cA_ (Kd.C_below HR1.out bB_)); (case side2 => exact HC1.out); rintro e w' ⟨rfl, ⟨nd, rfl⟩⟩; refine ⟨_, rfl, ?_⟩) | ((with_reducible refine gate_callee (f := 40) rfl ?_); refine goesL_ (some 179) rfl rfl Try.func40 (by kernel_rfl) rfl #[.slice Ao123 t440.length co123, .int .i64 (wrap64 (1 + t443)), .int .i64 (wrap64 (1 + t444))] rfl mT_ ?_; (with_reducible refine (impl_CommonAncestor.calls kj38 _ _ t440 (wrap64 (1 + t443)) (wrap64 (1 + t444)) t445 t446 _ ?side1 ?side2 A77.out).mono ?_); (case side1 => repeat (first | exact (Kd.N_reads' HO442.out).2.2 | (with_reducible refine Kd.C_alloc ?_ _) | (with_reducible refine Kd.C_drewN ?_ _) | (with_reducible refine Kd.C_drew ?_))); (case side2 => exact (Kd.N_reads' HO442.out).2.1); rintro e w124 ⟨rfl, hb⟩; refine ⟨_, rfl, ?_⟩; have n0_ := Aside0.mk (Kd.N_below (nA_ HO442.out) hb); have n1_ := Aside0.mk (below_step bB_ hb); clear HO442; clear HB; have HO442 := n0_; have HB := n1_; clear n0_ n1_; (try clear hb); (try clear hb2); (try clear hk); (try clear hi)) | ((with_reducible refine gate_callee (f := 40) rfl ?_); refine goesL_ (some 186) rfl rfl Try.func40 (by kernel_rfl) rfl #[.slice Ao123 t440.length co123, .int .i64 (wrap64 (1 + t444)), .int .i64 (wrap64 (1 + t443))] rfl mT_ ?_; (with_reducible refine (impl_CommonAncestor.calls kj38 _ _ t440 (wrap64 (1 + t444)) (wrap64 (1 + t443)) t447 t448 _ ?side1 ?side2 A78.out).mono ?_); (case side1 => repeat (first | exact (Kd.N_reads' HO442.out).2.2 | (with_reducible refine Kd.C_alloc ?_ _) | (with_reducible refine Kd.C_drewN ?_ _) | (with_reducible refine Kd.C_drew ?_))); (case side2 => exact (Kd.N_reads' HO442.out).2.1); rintro e w125 ⟨rfl, hb⟩; refine ⟨_, rfl, ?_⟩; have n0_ := Aside0.mk (Kd.N_below (nA_ HO442.out) hb); have n1_ := Aside0.mk (below_step bB_ hb); clear HO442; clear HB; have HO442 := n0_; have HB := n1_; clear n0_ n1_; (try clear hb); (try clear hb2); (try clear hk); (try clear hi)) | ((with_reducible refine gate_callee (f := 29) rfl ?_); refine goesL_ (some 193) rfl rfl Try.func29 (by kernel_rfl) rfl #[.slice Ao123 t440.length co123, .int .i64 (wrap64 (1 + t443)), .int .i64 (wrap64 (1 + t444)), .string (⟨#[98, 111, 116, 104]⟩ : ByteArray)] rfl mT_ ?_; (with_reducible refine (impl_MergeVersions.calls kj38 (fun k_ => True) _ _ t440 (wrap64 (1 + t443)) (wrap64 (1 + t444)) (⟨#[98, 111, 116, 104]⟩ : ByteArray) t449 t452 _ ?side1 A79.out).mono ?_); (case side1 => exact Kd.N_V (HO442.out)); rintro e w126 ⟨v450, rfl, ho0, hb⟩; refine ⟨_, rfl, ?_⟩; have n0_ := Aside0.mk (Kd.N_elder' (nA_ HO442.out) (Kd.N_base ho0) hb); have n1_ := Aside0.mk (Kd.N_lower (Kd.N_mono (ok' := fun k_ => True) ho0 (fun k_ hk_ => trivial)) (below_size bB_)); have n2_ := Aside0.mk (below_step bB_ hb); clear HO442; clear HB; have HO442 := n0_; have HO451 := n1_; have HB := n2_; clear n0_ n1_ n2_; (try clear hb); (try clear hb2); (try clear hk); (try clear hi); (try clear ho0)))
            go_ret
            exact ⟨er_, bB_⟩
         ·
          rw [if_neg c80] at H
          have c80b0 : (t446 == 0) = false := beq_eq_false_iff_ne.mpr c80
          have c80b1 : (t446 != 0) = true := bne_iff_ne.mpr c80
          obtain rfl := Option.some.inj H
          as_aux_lemma =>
           go_wp2_with (first | ((with_reducible refine gate_callee (f := 38) rfl ?_); refine goesL_ (some 162) rfl rfl Try.func38 (by kernel_rfl) rfl #[.slice A1 l1.length c1] rfl mT_ ?_; (with_reducible refine (spec_R8History.calls kj38 _ _ l1 t440 _ ?side1 ?side2 A71.out).mono ?_); (case side1 => exact cA_ (Kd.C_below HR1.out HB.out)); (case side2 => exact HC1.out); rintro e w127 ⟨v441, rfl, ho0, hb⟩; refine ⟨_, rfl, ?_⟩; have n0_ := Aside0.mk (Kd.N_lower (Kd.N_mono (ok' := fun k_ => True) (Kd.S_N (Kd.S_bound ho0)) (fun k_ hk_ => trivial)) (below_size bB_)); have n1_ := Aside0.mk (below_step bB_ hb); clear HB; have HO442 := n0_; have HB := n1_; clear n0_ n1_; (try clear hb); (try clear hb2); (try clear hk); (try clear hi); (try clear ho0); obtain ⟨Ao128, co128, eo128⟩ := Kd.N_slice HO442.out; subst eo128) | ((with_reducible refine gate_callee (f := 39) rfl ?_); refine goesL_ (some 169) rfl rfl Try.func39 (by kernel_rfl) rfl #[.slice A1 l1.length c1, .int .i64 0, .int .i64 (t440.length : Int)] rfl mT_ ?_; (with_reducible refine (laws_r8At.calls _ _ l1 0 (t440.length : Int) t443 _ ?side1 ?side2 A75.out).mono ?_); (case side1 => exact cA_ (Kd.C_below HR1.out HB.out)); (case side2 => exact HC1.out); rintro e w' ⟨rfl, ⟨nd, rfl⟩⟩; refine ⟨_, rfl, ?_⟩) | ((with_reducible refine gate_callee (f := 39) rfl ?_); refine goesL_ (some 173) rfl rfl Try.func39 (by kernel_rfl) rfl #[.slice A1 l1.length c1, .int .i64 1, .int .i64 (t440.length : Int)] rfl mT_ ?_; (with_reducible refine (laws_r8At.calls _ _ l1 1 (t440.length : Int) t444 _ ?side1 ?side2 A76.out).mono ?_); (case side1 => exact cA_ (Kd.C_below HR1.out bB_)); (case side2 => exact HC1.out); rintro e w' ⟨rfl, ⟨nd, rfl⟩⟩; refine ⟨_, rfl, ?_⟩) | ((with_reducible refine gate_callee (f := 40) rfl ?_); refine goesL_ (some 179) rfl rfl Try.func40 (by kernel_rfl) rfl #[.slice Ao128 t440.length co128, .int .i64 (wrap64 (1 + t443)), .int .i64 (wrap64 (1 + t444))] rfl mT_ ?_; (with_reducible refine (impl_CommonAncestor.calls kj38 _ _ t440 (wrap64 (1 + t443)) (wrap64 (1 + t444)) t445 t446 _ ?side1 ?side2 A77.out).mono ?_); (case side1 => repeat (first | exact (Kd.N_reads' HO442.out).2.2 | (with_reducible refine Kd.C_alloc ?_ _) | (with_reducible refine Kd.C_drewN ?_ _) | (with_reducible refine Kd.C_drew ?_))); (case side2 => exact (Kd.N_reads' HO442.out).2.1); rintro e w129 ⟨rfl, hb⟩; refine ⟨_, rfl, ?_⟩; have n0_ := Aside0.mk (Kd.N_below (nA_ HO442.out) hb); have n1_ := Aside0.mk (below_step bB_ hb); clear HO442; clear HB; have HO442 := n0_; have HB := n1_; clear n0_ n1_; (try clear hb); (try clear hb2); (try clear hk); (try clear hi)) | ((with_reducible refine gate_callee (f := 40) rfl ?_); refine goesL_ (some 186) rfl rfl Try.func40 (by kernel_rfl) rfl #[.slice Ao128 t440.length co128, .int .i64 (wrap64 (1 + t444)), .int .i64 (wrap64 (1 + t443))] rfl mT_ ?_; (with_reducible refine (impl_CommonAncestor.calls kj38 _ _ t440 (wrap64 (1 + t444)) (wrap64 (1 + t443)) t447 t448 _ ?side1 ?side2 A78.out).mono ?_); (case side1 => repeat (first | exact (Kd.N_reads' HO442.out).2.2 | (with_reducible refine Kd.C_alloc ?_ _) | (with_reducible refine Kd.C_drewN ?_ _) | (with_reducible refine Kd.C_drew ?_))); (case side2 => exact (Kd.N_reads' HO442.out).2.1); rintro e w130 ⟨rfl, hb⟩; refine ⟨_, rfl, ?_⟩; have n0_ := Aside0.mk (Kd.N_below (nA_ HO442.out) hb); have n1_ := Aside0.mk (below_step bB_ hb); clear HO442; clear HB; have HO442 := n0_; have HB := n1_; clear n0_ n1_; (try clear hb); (try clear hb2); (try clear hk); (try clear hi)) | ((with_reducible refine gate_callee (f := 29) rfl ?_); refine goesL_ (some 193) rfl rfl Try.func29 (by kernel_rfl) rfl #[.slice Ao128 t440.length co128, .int .i64 (wrap64 (1 + t443)), .int .i64 (wrap64 (1 + t444)), .string (⟨#[98, 111, 116, 104]⟩ : ByteArray)] rfl mT_ ?_; (with_reducible refine (impl_MergeVersions.calls kj38 (fun k_ => True) _ _ t440 (wrap64 (1 + t443)) (wrap64 (1 + t444)) (⟨#[98, 111, 116, 104]⟩ : ByteArray) t449 t452 _ ?side1 A79.out).mono ?_); (case side1 => exact Kd.N_V (HO442.out)); rintro e w131 ⟨v450, rfl, ho0, hb⟩; refine ⟨_, rfl, ?_⟩; have n0_ := Aside0.mk (Kd.N_elder' (nA_ HO442.out) (Kd.N_base ho0) hb); have n1_ := Aside0.mk (Kd.N_lower (Kd.N_mono (ok' := fun k_ => True) ho0 (fun k_ hk_ => trivial)) (below_size bB_)); have n2_ := Aside0.mk (below_step bB_ hb); clear HO442; clear HB; have HO442 := n0_; have HO451 := n1_; have HB := n2_; clear n0_ n1_ n2_; (try clear hb); (try clear hb2); (try clear hk); (try clear hi); (try clear ho0)))
           go_ret
           exact ⟨er_, bB_⟩

/-- THE ONE PURE STATEMENT of laws_FnMerges: yours. -/
def laws_FnMerges.Pure : Prop := ∀ (l0 : List Int) (l1 : List Int), l0.length ≤ maxLen → l0.length * 1 ≤ 140737488351232 → (∀ x ∈ l0, (Lit.int .u8 x).wf = true) → l1.length ≤ maxLen → l1.length * 1 ≤ 140737488351232 → (∀ x ∈ l1, (Lit.int .u8 x).wf = true) → ∃ k, laws_FnMerges.f k l0 l1 = some true
theorem laws_FnMerges.walk (P : laws_FnMerges.Pure) (a0 : Option Addr) (len0 cap0 : Nat) (z0 : List Int) (a1 : Option Addr) (len1 cap1 : Nat) (z1 : List Int) (w : World) (w0 : (a0 = none ∧ len0 = 0 ∧ cap0 = 0 ∧ z0 = []) ∨ ∃ x, a0 = some x ∧ len0 ≤ cap0 ∧ cap0 ≤ maxLen ∧ z0.length = cap0 ∧ (∀ i, i < z0.length → w.cell? (x.add i) = some (.int .u8 (z0.getD i 0))) ∧ ∀ n ∈ z0, (Lit.int .u8 n).wf = true) (y0 : len0 * 1 ≤ 140737488351232) (w1 : (a1 = none ∧ len1 = 0 ∧ cap1 = 0 ∧ z1 = []) ∨ ∃ x, a1 = some x ∧ len1 ≤ cap1 ∧ cap1 ≤ maxLen ∧ z1.length = cap1 ∧ (∀ i, i < z1.length → w.cell? (x.add i) = some (.int .u8 (z1.getD i 0))) ∧ ∀ n ∈ z1, (Lit.int .u8 n).wf = true) (y1 : len1 * 1 ≤ 140737488351232) :
  Calls Try.prog 7 #[.slice a0 len0 cap0, .slice a1 len1 cap1] w fun e w' => e = .returned (.bool true) ∧ Below w.heap.size w w' := by
 obtain ⟨l0, rfl, hr0, hm0, hw0, hc0⟩ := ReadsInt.ofRowC w0
 obtain ⟨l1, rfl, hr1, hm1, hw1, hc1⟩ := ReadsInt.ofRowC w1
 obtain ⟨k, h⟩ := P l0 l1 hm0 y0 hw0 hm1 y1 hw1
 refine (laws_FnMerges.calls k _ _ l0 _ _ l1 true w (Kd.C_of_reads (d := (0 : Int)) (h1 := fun _ => rfl) hr0) hc0 (Kd.C_of_reads (d := (0 : Int)) (h1 := fun _ => rfl) hr1) hc1 h).mono ?_
 rintro e w' ⟨rfl, hd⟩
 exact ⟨rfl, hd⟩

end Go.Proofs.Ytenjhbkpcelidaa.PFnMerges
