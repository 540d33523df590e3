-- PRINTED by print.py (a twelfth state) out of the translation. Not trusted: Lean checks it.
import Derived.Test.YtmeimhakaieagaaDoorPFnLeaksx0
import Derived.Test.YtmeimhakaieagaaDoorPFnLeaksx1
import Derived.Test.YtmeimhakaieagaaDoorPFnLeaksx2
import Derived.Test.YtmeimhakaieagaaDoorPFnLeaksx3
import Derived.Test.YtmeimhakaieagaaDoorPFnLeaksx4
import Derived.Test.YtmeimhakaieagaaDoorPFnLeaksx5
import Derived.Test.YtmeimhakaieagaaDoorPFnLeaksx6
namespace Go.Proofs.YtmeimhakaieagaaDoor.PFnLeaks
open Go.RowKit Go.Proofs.YtmeimhakaieagaaDoorW.PrintWords Go.Proofs.YtmeimhakaieagaaDoorW.PrintLast Go.Proofs.YtmeimhakaieagaaDoorW.PrintMore
attribute [local go_sem] max2_int min2_int max_two min_two max_three min_three max_four min_four   -- for this text's walks alone
set_option linter.unusedVariables false
set_option linter.unusedSimpArgs false

attribute [local go_sem high] eqA28
/-! ### laws_FnLeaks: function 3 -/
mutual
def laws_FnLeaks.l0 : Nat → List Int → List Int → List (S28) → List (S28) → Int → Int → Option (Bool)
 | 0, _, _, _, _, _, _ => none
 | k + 1, x0, x1, x5, x6, x7, x8 => if x8 < (x5.length : Int) then (if 0 ≤ x8 then ((laws_r8At.f x0 (wrap64 (20 + x8)) (wrap64 ((wrap64 (2 * ((rd_T28 x5 x8).f2))) + 1))).bind fun t232 => (laws_FnLeaks.l0 k x0 x1 x5 x6 (wrap64 (x7 + (mx 0 (wrap64 (((rd_T28 x5 x8).f1) + (wrap64 (t232 - ((rd_T28 x5 x8).f2)))))))) (wrap64 (x8 + 1)))) else (none)) else (laws_FnLeaks.l1 k x1 x5 x6 x7 0)
def laws_FnLeaks.l1 : Nat → List Int → List (S28) → List (S28) → Int → Int → Option (Bool)
 | 0, _, _, _, _, _ => none
 | k + 1, x1, x5, x6, x7, x10 => if x10 < (x6.length : Int) then (if 0 ≤ x10 then ((laws_r8At.f x1 (wrap64 (20 + x10)) (wrap64 ((wrap64 (2 * ((rd_T28 x6 x10).f2))) + 1))).bind fun t236 => (laws_FnLeaks.l1 k x1 x5 x6 (wrap64 (x7 - (mx 0 (wrap64 (((rd_T28 x6 x10).f1) + (wrap64 (t236 - ((rd_T28 x6 x10).f2)))))))) (wrap64 (x10 + 1)))) else (none)) else ((impl_LeakBounds.f k x5 x6).bind fun bt239 => (if x7 ≥ 0 then (if bt239.2.2 = 0 then (if x7 < bt239.1 then (laws_FnLeaks.j2 k x5 true) else (if x7 > bt239.2.1 then (laws_FnLeaks.j2 k x5 true) else ((impl_IsLeaking.f k x5 x6).bind fun t242 => (laws_FnLeaks.j2 k x5 (t242 != (decide (bt239.1 > 0))))))) else (laws_FnLeaks.j2 k x5 true)) else (if bt239.2.2 = 0 then ((impl_IsLeaking.f k x5 x6).bind fun t243 => (laws_FnLeaks.j2 k x5 (t243 != (decide (bt239.1 > 0))))) else (if bt239.2.2 = 6 then ((impl_IsLeaking.f k x5 x6).bind fun t244 => (laws_FnLeaks.j2 k x5 (t244 != false))) else (laws_FnLeaks.j2 k x5 true)))))
def laws_FnLeaks.j2 : Nat → List (S28) → Bool → Option (Bool)
 | 0, _, _ => none
 | k + 1, x5, x139 => if x139 = true then (some false) else ((impl_ZoneBounds.f k x5).bind fun bt245 => ((impl_WorstZone.f k x5).bind fun bt249 => (if bt245.2 = 0 then (if (bt245.1.length : Int) = (mx 0 (wrap64 ((x5.length : Int) - 1))) then (if bt249.2.2 = 0 then (if bt249.1 < 0 then (laws_FnLeaks.j3 k x5 bt245.1 bt249.1 bt249.2.1 bt249.2.2 true) else (laws_FnLeaks.j3 k x5 bt245.1 bt249.1 bt249.2.1 bt249.2.2 (decide (bt249.1 ≥ (bt245.1.length : Int))))) else (if bt249.2.2 = 3 then (laws_FnLeaks.j3 k x5 bt245.1 bt249.1 bt249.2.1 bt249.2.2 false) else (laws_FnLeaks.j3 k x5 bt245.1 bt249.1 bt249.2.1 bt249.2.2 true))) else (laws_FnLeaks.j3 k x5 bt245.1 bt249.1 bt249.2.1 bt249.2.2 true)) else (if bt245.2 = 6 then (some (bt249.2.2 == bt245.2)) else (some false)))))
def laws_FnLeaks.j3 : Nat → List (S28) → List (List Int) → Int → Int → Int → Bool → Option (Bool)
 | 0, _, _, _, _, _, _ => none
 | k + 1, x5, x15, x17, x18, x19, x188 => if x188 = true then (some false) else (laws_FnLeaks.l2 k x5 x15 x17 x18 x19 0)
def laws_FnLeaks.l2 : Nat → List (S28) → List (List Int) → Int → Int → Int → Int → Option (Bool)
 | 0, _, _, _, _, _, _ => none
 | k + 1, x5, x15, x17, x18, x19, x20 => if x20 < (x15.length : Int) then (if 0 ≤ x20 then (if ((rd_L6 x15 x20).length : Int) = 2 then (if 0 < ((rd_L6 x15 x20).length : Int) then (if (rd (rd_L6 x15 x20) 0) < 0 then (some false) else (if 1 < ((rd_L6 x15 x20).length : Int) then (if (rd (rd_L6 x15 x20) 1) < (rd (rd_L6 x15 x20) 0) then (some false) else (if x19 = 0 then (if (rd (rd_L6 x15 x20) 0) > x18 then (some false) else (if x20 = x17 then (if (rd (rd_L6 x15 x20) 0) = x18 then (laws_FnLeaks.l2 k x5 x15 x17 x18 x19 (wrap64 (x20 + 1))) else (some false)) else (laws_FnLeaks.l2 k x5 x15 x17 x18 x19 (wrap64 (x20 + 1))))) else (if (rd (rd_L6 x15 x20) 0) = 0 then (laws_FnLeaks.l2 k x5 x15 x17 x18 x19 (wrap64 (x20 + 1))) else (some false)))) else (none))) else (none)) else (some false)) else (none)) else (laws_FnLeaks.l3 k x5 0)
def laws_FnLeaks.l3 : Nat → List (S28) → Int → Option (Bool)
 | 0, _, _ => none
 | k + 1, x5, x21 => if x21 < (x5.length : Int) then (if 0 ≤ x21 then ((impl_MeterText.f k ((rd_T28 x5 x21).f0) ((rd_T28 x5 x21).f1) ((rd_T28 x5 x21).f2)).bind fun t267 => ((impl_ReadMeter.f k t267).bind fun bt268 => (if bt268.2.2.2 = true then (if (!(bt268.1.toList == (((rd_T28 x5 x21).f0).toList)) || (!(bt268.2.1 == ((rd_T28 x5 x21).f1)) || (!(bt268.2.2.1 == ((rd_T28 x5 x21).f2))))) = true then (some false) else (laws_FnLeaks.l3 k x5 (wrap64 (x21 + 1)))) else (some false)))) else (none)) else ((impl_ValidMeters.f k x5).bind fun t265 => (some t265))
end
def laws_FnLeaks.f (k : Nat) (l0 : List Int) (l1 : List Int) : Option (Bool) := (laws_r8Long.f l0 l1).bind fun t224 => (if t224 = true then (some true) else ((spec_R8Meters.f k l0).bind fun t225 => ((spec_R8Meters.f k l1).bind fun t228 => (laws_FnLeaks.l0 k l0 l1 t225 t228 0 0))))
theorem laws_FnLeaks.mono_l : ∀ k, (∀ y0 y1 y2 y3 y4 y5, LeO (laws_FnLeaks.l0 k y0 y1 y2 y3 y4 y5) (laws_FnLeaks.l0 (k + 1) y0 y1 y2 y3 y4 y5)) ∧ (∀ y0 y1 y2 y3 y4, LeO (laws_FnLeaks.l1 k y0 y1 y2 y3 y4) (laws_FnLeaks.l1 (k + 1) y0 y1 y2 y3 y4)) ∧ (∀ y0 y1, LeO (laws_FnLeaks.j2 k y0 y1) (laws_FnLeaks.j2 (k + 1) y0 y1)) ∧ (∀ y0 y1 y2 y3 y4 y5, LeO (laws_FnLeaks.j3 k y0 y1 y2 y3 y4 y5) (laws_FnLeaks.j3 (k + 1) y0 y1 y2 y3 y4 y5)) ∧ (∀ y0 y1 y2 y3 y4 y5, LeO (laws_FnLeaks.l2 k y0 y1 y2 y3 y4 y5) (laws_FnLeaks.l2 (k + 1) y0 y1 y2 y3 y4 y5)) ∧ (∀ y0 y1, LeO (laws_FnLeaks.l3 k y0 y1) (laws_FnLeaks.l3 (k + 1) y0 y1))
 | 0 => ⟨fun _ _ _ _ _ _ r h => by simp [laws_FnLeaks.l0] at h, fun _ _ _ _ _ r h => by simp [laws_FnLeaks.l1] at h, fun _ _ r h => by simp [laws_FnLeaks.j2] at h, fun _ _ _ _ _ _ r h => by simp [laws_FnLeaks.j3] at h, fun _ _ _ _ _ _ r h => by simp [laws_FnLeaks.l2] at h, fun _ _ r h => by simp [laws_FnLeaks.l3] at h⟩
 | k + 1 => by
  obtain ⟨ih0, ih1, ih2, ih3, ih4, ih5⟩ := laws_FnLeaks.mono_l k
  refine ⟨?_, ?_, ?_, ?_, ?_, ?_⟩
  ·
   intro y0 y1 y2 y3 y4 y5
   unfold laws_FnLeaks.l0
   repeat' first
   | (with_reducible exact ih0 _ _ _ _ _ _)
   | (with_reducible exact ih1 _ _ _ _ _)
   | (with_reducible exact ih2 _ _)
   | (with_reducible exact ih3 _ _ _ _ _ _)
   | (with_reducible exact ih4 _ _ _ _ _ _)
   | (with_reducible exact ih5 _ _)
   | (with_reducible exact impl_IsLeaking.mono _ _ _)
   | (with_reducible exact impl_LeakBounds.mono _ _ _)
   | (with_reducible exact impl_MeterText.mono _ _ _ _)
   | (with_reducible exact impl_ReadMeter.mono _ _)
   | (with_reducible exact impl_ValidMeters.mono _ _)
   | (with_reducible exact impl_WorstZone.mono _ _)
   | (with_reducible exact impl_ZoneBounds.mono _ _)
   | (with_reducible exact spec_R8Meters.mono _ _)
   | (with_reducible exact LeO.refl _)
   | (with_reducible exact LeO.none _)
   | (with_reducible refine LeO.ite ?_ ?_)
   | (with_reducible refine LeO.bind ?_ (fun _ => ?_))
   | exact ih0 _ _ _ _ _ _
   | exact ih1 _ _ _ _ _
   | exact ih2 _ _
   | exact ih3 _ _ _ _ _ _
   | exact ih4 _ _ _ _ _ _
   | exact ih5 _ _
   | exact impl_IsLeaking.mono _ _ _
   | exact impl_LeakBounds.mono _ _ _
   | exact impl_MeterText.mono _ _ _ _
   | exact impl_ReadMeter.mono _ _
   | exact impl_ValidMeters.mono _ _
   | exact impl_WorstZone.mono _ _
   | exact impl_ZoneBounds.mono _ _
   | exact spec_R8Meters.mono _ _
   | exact LeO.none _
   | refine LeO.ite ?_ ?_
   | refine LeO.bind ?_ (fun _ => ?_)
  ·
   intro y0 y1 y2 y3 y4
   unfold laws_FnLeaks.l1
   repeat' first
   | (with_reducible exact ih0 _ _ _ _ _ _)
   | (with_reducible exact ih1 _ _ _ _ _)
   | (with_reducible exact ih2 _ _)
   | (with_reducible exact ih3 _ _ _ _ _ _)
   | (with_reducible exact ih4 _ _ _ _ _ _)
   | (with_reducible exact ih5 _ _)
   | (with_reducible exact impl_IsLeaking.mono _ _ _)
   | (with_reducible exact impl_LeakBounds.mono _ _ _)
   | (with_reducible exact impl_MeterText.mono _ _ _ _)
   | (with_reducible exact impl_ReadMeter.mono _ _)
   | (with_reducible exact impl_ValidMeters.mono _ _)
   | (with_reducible exact impl_WorstZone.mono _ _)
   | (with_reducible exact impl_ZoneBounds.mono _ _)
   | (with_reducible exact spec_R8Meters.mono _ _)
   | (with_reducible exact LeO.refl _)
   | (with_reducible exact LeO.none _)
   | (with_reducible refine LeO.ite ?_ ?_)
   | (with_reducible refine LeO.bind ?_ (fun _ => ?_))
   | exact ih0 _ _ _ _ _ _
   | exact ih1 _ _ _ _ _
   | exact ih2 _ _
   | exact ih3 _ _ _ _ _ _
   | exact ih4 _ _ _ _ _ _
   | exact ih5 _ _
   | exact impl_IsLeaking.mono _ _ _
   | exact impl_LeakBounds.mono _ _ _
   | exact impl_MeterText.mono _ _ _ _
   | exact impl_ReadMeter.mono _ _
   | exact impl_ValidMeters.mono _ _
   | exact impl_WorstZone.mono _ _
   | exact impl_ZoneBounds.mono _ _
   | exact spec_R8Meters.mono _ _
   | exact LeO.none _
   | refine LeO.ite ?_ ?_
   | refine LeO.bind ?_ (fun _ => ?_)
  ·
   intro y0 y1
   unfold laws_FnLeaks.j2
   repeat' first
   | (with_reducible exact ih0 _ _ _ _ _ _)
   | (with_reducible exact ih1 _ _ _ _ _)
   | (with_reducible exact ih2 _ _)
   | (with_reducible exact ih3 _ _ _ _ _ _)
   | (with_reducible exact ih4 _ _ _ _ _ _)
   | (with_reducible exact ih5 _ _)
   | (with_reducible exact impl_IsLeaking.mono _ _ _)
   | (with_reducible exact impl_LeakBounds.mono _ _ _)
   | (with_reducible exact impl_MeterText.mono _ _ _ _)
   | (with_reducible exact impl_ReadMeter.mono _ _)
   | (with_reducible exact impl_ValidMeters.mono _ _)
   | (with_reducible exact impl_WorstZone.mono _ _)
   | (with_reducible exact impl_ZoneBounds.mono _ _)
   | (with_reducible exact spec_R8Meters.mono _ _)
   | (with_reducible exact LeO.refl _)
   | (with_reducible exact LeO.none _)
   | (with_reducible refine LeO.ite ?_ ?_)
   | (with_reducible refine LeO.bind ?_ (fun _ => ?_))
   | exact ih0 _ _ _ _ _ _
   | exact ih1 _ _ _ _ _
   | exact ih2 _ _
   | exact ih3 _ _ _ _ _ _
   | exact ih4 _ _ _ _ _ _
   | exact ih5 _ _
   | exact impl_IsLeaking.mono _ _ _
   | exact impl_LeakBounds.mono _ _ _
   | exact impl_MeterText.mono _ _ _ _
   | exact impl_ReadMeter.mono _ _
   | exact impl_ValidMeters.mono _ _
   | exact impl_WorstZone.mono _ _
   | exact impl_ZoneBounds.mono _ _
   | exact spec_R8Meters.mono _ _
   | exact LeO.none _
   | refine LeO.ite ?_ ?_
   | refine LeO.bind ?_ (fun _ => ?_)
  ·
   intro y0 y1 y2 y3 y4 y5
   unfold laws_FnLeaks.j3
   repeat' first
   | (with_reducible exact ih0 _ _ _ _ _ _)
   | (with_reducible exact ih1 _ _ _ _ _)
   | (with_reducible exact ih2 _ _)
   | (with_reducible exact ih3 _ _ _ _ _ _)
   | (with_reducible exact ih4 _ _ _ _ _ _)
   | (with_reducible exact ih5 _ _)
   | (with_reducible exact impl_IsLeaking.mono _ _ _)
   | (with_reducible exact impl_LeakBounds.mono _ _ _)
   | (with_reducible exact impl_MeterText.mono _ _ _ _)
   | (with_reducible exact impl_ReadMeter.mono _ _)
   | (with_reducible exact impl_ValidMeters.mono _ _)
   | (with_reducible exact impl_WorstZone.mono _ _)
   | (with_reducible exact impl_ZoneBounds.mono _ _)
   | (with_reducible exact spec_R8Meters.mono _ _)
   | (with_reducible exact LeO.refl _)
   | (with_reducible exact LeO.none _)
   | (with_reducible refine LeO.ite ?_ ?_)
   | (with_reducible refine LeO.bind ?_ (fun _ => ?_))
   | exact ih0 _ _ _ _ _ _
   | exact ih1 _ _ _ _ _
   | exact ih2 _ _
   | exact ih3 _ _ _ _ _ _
   | exact ih4 _ _ _ _ _ _
   | exact ih5 _ _
   | exact impl_IsLeaking.mono _ _ _
   | exact impl_LeakBounds.mono _ _ _
   | exact impl_MeterText.mono _ _ _ _
   | exact impl_ReadMeter.mono _ _
   | exact impl_ValidMeters.mono _ _
   | exact impl_WorstZone.mono _ _
   | exact impl_ZoneBounds.mono _ _
   | exact spec_R8Meters.mono _ _
   | exact LeO.none _
   | refine LeO.ite ?_ ?_
   | refine LeO.bind ?_ (fun _ => ?_)
  ·
   intro y0 y1 y2 y3 y4 y5
   unfold laws_FnLeaks.l2
   repeat' first
   | (with_reducible exact ih0 _ _ _ _ _ _)
   | (with_reducible exact ih1 _ _ _ _ _)
   | (with_reducible exact ih2 _ _)
   | (with_reducible exact ih3 _ _ _ _ _ _)
   | (with_reducible exact ih4 _ _ _ _ _ _)
   | (with_reducible exact ih5 _ _)
   | (with_reducible exact impl_IsLeaking.mono _ _ _)
   | (with_reducible exact impl_LeakBounds.mono _ _ _)
   | (with_reducible exact impl_MeterText.mono _ _ _ _)
   | (with_reducible exact impl_ReadMeter.mono _ _)
   | (with_reducible exact impl_ValidMeters.mono _ _)
   | (with_reducible exact impl_WorstZone.mono _ _)
   | (with_reducible exact impl_ZoneBounds.mono _ _)
   | (with_reducible exact spec_R8Meters.mono _ _)
   | (with_reducible exact LeO.refl _)
   | (with_reducible exact LeO.none _)
   | (with_reducible refine LeO.ite ?_ ?_)
   | (with_reducible refine LeO.bind ?_ (fun _ => ?_))
   | exact ih0 _ _ _ _ _ _
   | exact ih1 _ _ _ _ _
   | exact ih2 _ _
   | exact ih3 _ _ _ _ _ _
   | exact ih4 _ _ _ _ _ _
   | exact ih5 _ _
   | exact impl_IsLeaking.mono _ _ _
   | exact impl_LeakBounds.mono _ _ _
   | exact impl_MeterText.mono _ _ _ _
   | exact impl_ReadMeter.mono _ _
   | exact impl_ValidMeters.mono _ _
   | exact impl_WorstZone.mono _ _
   | exact impl_ZoneBounds.mono _ _
   | exact spec_R8Meters.mono _ _
   | exact LeO.none _
   | refine LeO.ite ?_ ?_
   | refine LeO.bind ?_ (fun _ => ?_)
  ·
   intro y0 y1
   unfold laws_FnLeaks.l3
   repeat' first
   | (with_reducible exact ih0 _ _ _ _ _ _)
   | (with_reducible exact ih1 _ _ _ _ _)
   | (with_reducible exact ih2 _ _)
   | (with_reducible exact ih3 _ _ _ _ _ _)
   | (with_reducible exact ih4 _ _ _ _ _ _)
   | (with_reducible exact ih5 _ _)
   | (with_reducible exact impl_IsLeaking.mono _ _ _)
   | (with_reducible exact impl_LeakBounds.mono _ _ _)
   | (with_reducible exact impl_MeterText.mono _ _ _ _)
   | (with_reducible exact impl_ReadMeter.mono _ _)
   | (with_reducible exact impl_ValidMeters.mono _ _)
   | (with_reducible exact impl_WorstZone.mono _ _)
   | (with_reducible exact impl_ZoneBounds.mono _ _)
   | (with_reducible exact spec_R8Meters.mono _ _)
   | (with_reducible exact LeO.refl _)
   | (with_reducible exact LeO.none _)
   | (with_reducible refine LeO.ite ?_ ?_)
   | (with_reducible refine LeO.bind ?_ (fun _ => ?_))
   | exact ih0 _ _ _ _ _ _
   | exact ih1 _ _ _ _ _
   | exact ih2 _ _
   | exact ih3 _ _ _ _ _ _
   | exact ih4 _ _ _ _ _ _
   | exact ih5 _ _
   | exact impl_IsLeaking.mono _ _ _
   | exact impl_LeakBounds.mono _ _ _
   | exact impl_MeterText.mono _ _ _ _
   | exact impl_ReadMeter.mono _ _
   | exact impl_ValidMeters.mono _ _
   | exact impl_WorstZone.mono _ _
   | exact impl_ZoneBounds.mono _ _
   | exact spec_R8Meters.mono _ _
   | exact LeO.none _
   | refine LeO.ite ?_ ?_
   | refine LeO.bind ?_ (fun _ => ?_)
theorem laws_FnLeaks.mono : ∀ a0 a1 k, LeO (laws_FnLeaks.f k a0 a1) (laws_FnLeaks.f (k + 1) a0 a1) := by
 intro a0 a1 k
 obtain ⟨ih0, ih1, ih2, ih3, ih4, ih5⟩ := laws_FnLeaks.mono_l k
 unfold laws_FnLeaks.f
 repeat' first
   | (with_reducible exact ih0 _ _ _ _ _ _)
   | (with_reducible exact ih1 _ _ _ _ _)
   | (with_reducible exact ih2 _ _)
   | (with_reducible exact ih3 _ _ _ _ _ _)
   | (with_reducible exact ih4 _ _ _ _ _ _)
   | (with_reducible exact ih5 _ _)
   | (with_reducible exact impl_IsLeaking.mono _ _ _)
   | (with_reducible exact impl_LeakBounds.mono _ _ _)
   | (with_reducible exact impl_MeterText.mono _ _ _ _)
   | (with_reducible exact impl_ReadMeter.mono _ _)
   | (with_reducible exact impl_ValidMeters.mono _ _)
   | (with_reducible exact impl_WorstZone.mono _ _)
   | (with_reducible exact impl_ZoneBounds.mono _ _)
   | (with_reducible exact spec_R8Meters.mono _ _)
   | (with_reducible exact LeO.refl _)
   | (with_reducible exact LeO.none _)
   | (with_reducible refine LeO.ite ?_ ?_)
   | (with_reducible refine LeO.bind ?_ (fun _ => ?_))
   | exact ih0 _ _ _ _ _ _
   | exact ih1 _ _ _ _ _
   | exact ih2 _ _
   | exact ih3 _ _ _ _ _ _
   | exact ih4 _ _ _ _ _ _
   | exact ih5 _ _
   | exact impl_IsLeaking.mono _ _ _
   | exact impl_LeakBounds.mono _ _ _
   | exact impl_MeterText.mono _ _ _ _
   | exact impl_ReadMeter.mono _ _
   | exact impl_ValidMeters.mono _ _
   | exact impl_WorstZone.mono _ _
   | exact impl_ZoneBounds.mono _ _
   | exact spec_R8Meters.mono _ _
   | exact LeO.none _
   | refine LeO.ite ?_ ?_
   | refine LeO.bind ?_ (fun _ => ?_)
set_option maxHeartbeats 8000000 in
set_option maxRecDepth 100000 in
theorem laws_FnLeaks.calls (k : Nat) (A0 : Option Addr) (c0 : Nat) (l0 : List Int) (A1 : Option Addr) (c1 : Nat) (l1 : List Int) (r : Bool) (w : World) (hr0 : Kd.C (Kd.int .u8) w A0 l0.length l0) (hc0 : l0.length ≤ c0) (hr1 : Kd.C (Kd.int .u8) w A1 l1.length l1) (hc1 : l1.length ≤ c1) (ht_ : WOK w) (h : laws_FnLeaks.f k l0 l1 = some r) :
  Calls Tryd.prog 3 #[.slice A0 l0.length c0, .slice A1 l1.length c1] w fun e w' => e = .returned (.bool r) ∧ Below w.heap.size w w' := by
 have HWOK_ := Aside0.mk ht_
 clear ht_
 have hu28 := Tryd.underlying28
 have HR0 := Aside0.mk hr0
 have HC0 := Aside0.mk hc0
 clear hr0 hc0
 have HR1 := Aside0.mk hr1
 have HC1 := Aside0.mk hc1
 clear hr1 hc1
 have HB := Aside0.mk (Below.refl w.heap.size w)
 have H : ((laws_r8Long.f l0 l1).bind fun t224 => (if t224 = true then (some true) else ((spec_R8Meters.f k l0).bind fun t225 => ((spec_R8Meters.f k l1).bind fun t228 => (laws_FnLeaks.l0 k l0 l1 t225 t228 0 0))))) = some r := h
 clear h
 replace H := Option.bind_eq_some_iff.mp H
 obtain ⟨t224, A30, H⟩ := H
 replace H : (if t224 = true then (some true) else ((spec_R8Meters.f k l0).bind fun t225 => ((spec_R8Meters.f k l1).bind fun t228 => (laws_FnLeaks.l0 k l0 l1 t225 t228 0 0)))) = some r := H
 have A3 := Aside0.mk A30
 clear A30
 by_cases c4 : t224 = true
 ·
  subst c4
  have H1 : (some true) = some r := by rw [if_pos rfl] at H; exact H
  clear H
  have H := H1
  clear H1
  obtain rfl := Option.some.inj H
  go_enter Tryd.func3, Tryd.ntmps3
  go_wp2_with (first | (go_at_call 5; (with_reducible refine (laws_r8Long.calls _ _ l0 _ _ l1 true _ ?side1 ?side2 ?side3 ?side4 A3.out).mono ?_); (case side1 => repeat (first | exact HR0.out | (with_reducible refine Kd.C_alloc ?_ _) | (with_reducible refine Kd.C_drewN ?_ _) | (with_reducible refine Kd.C_drew ?_))); (case side2 => exact HC0.out); (case side3 => repeat (first | exact HR1.out | (with_reducible refine Kd.C_alloc ?_ _) | (with_reducible refine Kd.C_drewN ?_ _) | (with_reducible refine Kd.C_drew ?_))); (case side4 => exact HC1.out); rintro e w' ⟨rfl, ⟨nd, rfl⟩⟩; (try first | exact ⟨rfl, _, World.drewN_drewN _ _ _⟩ | exact ⟨rfl, _, Eq.trans (World.drewN_drewN _ _ _) (congrArg (World.drewN _) (Nat.add_assoc _ _ _))⟩)))
  repeat (go_quiet (first | (go_at_call 5; (with_reducible refine (laws_r8Long.calls _ _ l0 _ _ l1 true _ ?side1 ?side2 ?side3 ?side4 A3.out).mono ?_); (case side1 => repeat (first | exact HR0.out | (with_reducible refine Kd.C_alloc ?_ _) | (with_reducible refine Kd.C_drewN ?_ _) | (with_reducible refine Kd.C_drew ?_))); (case side2 => exact HC0.out); (case side3 => repeat (first | exact HR1.out | (with_reducible refine Kd.C_alloc ?_ _) | (with_reducible refine Kd.C_drewN ?_ _) | (with_reducible refine Kd.C_drew ?_))); (case side4 => exact HC1.out); rintro e w' ⟨rfl, ⟨nd, rfl⟩⟩; (try first | exact ⟨rfl, _, World.drewN_drewN _ _ _⟩ | exact ⟨rfl, _, Eq.trans (World.drewN_drewN _ _ _) (congrArg (World.drewN _) (Nat.add_assoc _ _ _))⟩))); try go_wp2_with (first | (go_at_call 5; (with_reducible refine (laws_r8Long.calls _ _ l0 _ _ l1 true _ ?side1 ?side2 ?side3 ?side4 A3.out).mono ?_); (case side1 => repeat (first | exact HR0.out | (with_reducible refine Kd.C_alloc ?_ _) | (with_reducible refine Kd.C_drewN ?_ _) | (with_reducible refine Kd.C_drew ?_))); (case side2 => exact HC0.out); (case side3 => repeat (first | exact HR1.out | (with_reducible refine Kd.C_alloc ?_ _) | (with_reducible refine Kd.C_drewN ?_ _) | (with_reducible refine Kd.C_drew ?_))); (case side4 => exact HC1.out); rintro e w' ⟨rfl, ⟨nd, rfl⟩⟩; (try first | exact ⟨rfl, _, World.drewN_drewN _ _ _⟩ | exact ⟨rfl, _, Eq.trans (World.drewN_drewN _ _ _) (congrArg (World.drewN _) (Nat.add_assoc _ _ _))⟩))))
  go_ret
  exact ⟨by first | rfl | (simp [errW_none, errW_some] <;> rfl) | (simp [*, errW_none, errW_some] <;> rfl), by repeat (first | (with_reducible first | exact HB.out | apply below_alloc | apply pw_below_drewN | apply below_drew1) | exact HB.out)⟩
 ·
  replace c4 := Bool.eq_false_iff.mpr c4
  subst c4
  have H1 : ((spec_R8Meters.f k l0).bind fun t225 => ((spec_R8Meters.f k l1).bind fun t228 => (laws_FnLeaks.l0 k l0 l1 t225 t228 0 0))) = some r := by rw [if_neg (show ¬ (false = true) by decide)] at H; exact H
  clear H
  have H := H1
  clear H1
  replace H := Option.bind_eq_some_iff.mp H
  obtain ⟨t225, A50, H⟩ := H
  replace H : ((spec_R8Meters.f k l1).bind fun t228 => (laws_FnLeaks.l0 k l0 l1 t225 t228 0 0)) = some r := H
  have A5 := Aside0.mk A50
  clear A50
  replace H := Option.bind_eq_some_iff.mp H
  obtain ⟨t228, A60, H⟩ := H
  replace H : (laws_FnLeaks.l0 k l0 l1 t225 t228 0 0) = some r := H
  have A6 := Aside0.mk A60
  clear A60
  have H' := Aside0.mk H
  clear H
  go_enter Tryd.func3, Tryd.ntmps3
  go_wp2_with (first | (go_at_call 5; (with_reducible refine (laws_r8Long.calls _ _ l0 _ _ l1 false _ ?side1 ?side2 ?side3 ?side4 A3.out).mono ?_); (case side1 => repeat (first | exact HR0.out | (with_reducible refine Kd.C_alloc ?_ _) | (with_reducible refine Kd.C_drewN ?_ _) | (with_reducible refine Kd.C_drew ?_))); (case side2 => exact HC0.out); (case side3 => repeat (first | exact HR1.out | (with_reducible refine Kd.C_alloc ?_ _) | (with_reducible refine Kd.C_drewN ?_ _) | (with_reducible refine Kd.C_drew ?_))); (case side4 => exact HC1.out); rintro e w' ⟨rfl, ⟨nd, rfl⟩⟩; (try first | exact ⟨rfl, _, World.drewN_drewN _ _ _⟩ | exact ⟨rfl, _, Eq.trans (World.drewN_drewN _ _ _) (congrArg (World.drewN _) (Nat.add_assoc _ _ _))⟩)) | (go_at_call 6; (with_reducible refine (spec_R8Meters.calls k _ _ l0 t225 _ ?side1 ?side2 A5.out).mono ?_); (case side1 => repeat (first | exact HR0.out | (with_reducible refine Kd.C_alloc ?_ _) | (with_reducible refine Kd.C_drewN ?_ _) | (with_reducible refine Kd.C_drew ?_))); (case side2 => exact HC0.out); rintro e w7 ⟨v226, rfl, ho0, hb⟩; have n0_ := Aside0.mk (Kd.R_lower ho0 (below_size (by repeat (first | (with_reducible first | exact HB.out | apply below_alloc | apply pw_below_drewN | apply below_drew1) | exact HB.out)))); have n1_ := Aside0.mk (below_step (by repeat (first | (with_reducible first | exact HB.out | apply below_alloc | apply pw_below_drewN | apply below_drew1) | exact HB.out)) hb); clear HB; have HO227 := n0_; have HB := n1_; clear n0_ n1_; (try clear hb); (try clear hb2); (try clear hk); (try clear hi); (try clear ho0)) | (go_at_call 6; (with_reducible refine (spec_R8Meters.calls k _ _ l1 t228 _ ?side1 ?side2 A6.out).mono ?_); (case side1 => repeat (first | exact (Kd.C_below HR1.out HB.out) | (with_reducible refine Kd.C_alloc ?_ _) | (with_reducible refine Kd.C_drewN ?_ _) | (with_reducible refine Kd.C_drew ?_))); (case side2 => exact HC1.out); rintro e w8 ⟨v229, rfl, ho0, hb⟩; have n0_ := Aside0.mk (Kd.R_elder' (by (with_reducible repeat (first | apply Kd.R_alloc | apply Kd.R_drewN | apply Kd.R_drew)); exact HO227.out) (Kd.R_base ho0) hb); have n1_ := Aside0.mk (Kd.R_lower (Kd.R_new' ho0 (Kd.R_lt (by (with_reducible repeat (first | apply Kd.R_alloc | apply Kd.R_drewN | apply Kd.R_drew)); exact HO227.out))) (below_size (by repeat (first | (with_reducible first | exact HB.out | apply below_alloc | apply pw_below_drewN | apply below_drew1) | exact HB.out)))); have n2_ := Aside0.mk (below_step (by repeat (first | (with_reducible first | exact HB.out | apply below_alloc | apply pw_below_drewN | apply below_drew1) | exact HB.out)) hb); clear HO227; clear HB; have HO227 := n0_; have HO230 := n1_; have HB := n2_; clear n0_ n1_ n2_; (try clear hb); (try clear hb2); (try clear hk); (try clear hi); (try clear ho0)))
  repeat (go_quiet (first | (go_at_call 5; (with_reducible refine (laws_r8Long.calls _ _ l0 _ _ l1 false _ ?side1 ?side2 ?side3 ?side4 A3.out).mono ?_); (case side1 => repeat (first | exact HR0.out | (with_reducible refine Kd.C_alloc ?_ _) | (with_reducible refine Kd.C_drewN ?_ _) | (with_reducible refine Kd.C_drew ?_))); (case side2 => exact HC0.out); (case side3 => repeat (first | exact HR1.out | (with_reducible refine Kd.C_alloc ?_ _) | (with_reducible refine Kd.C_drewN ?_ _) | (with_reducible refine Kd.C_drew ?_))); (case side4 => exact HC1.out); rintro e w' ⟨rfl, ⟨nd, rfl⟩⟩; (try first | exact ⟨rfl, _, World.drewN_drewN _ _ _⟩ | exact ⟨rfl, _, Eq.trans (World.drewN_drewN _ _ _) (congrArg (World.drewN _) (Nat.add_assoc _ _ _))⟩)) | (go_at_call 6; (with_reducible refine (spec_R8Meters.calls k _ _ l0 t225 _ ?side1 ?side2 A5.out).mono ?_); (case side1 => repeat (first | exact HR0.out | (with_reducible refine Kd.C_alloc ?_ _) | (with_reducible refine Kd.C_drewN ?_ _) | (with_reducible refine Kd.C_drew ?_))); (case side2 => exact HC0.out); rintro e w7 ⟨v226, rfl, ho0, hb⟩; have n0_ := Aside0.mk (Kd.R_lower ho0 (below_size (by repeat (first | (with_reducible first | exact HB.out | apply below_alloc | apply pw_below_drewN | apply below_drew1) | exact HB.out)))); have n1_ := Aside0.mk (below_step (by repeat (first | (with_reducible first | exact HB.out | apply below_alloc | apply pw_below_drewN | apply below_drew1) | exact HB.out)) hb); clear HB; have HO227 := n0_; have HB := n1_; clear n0_ n1_; (try clear hb); (try clear hb2); (try clear hk); (try clear hi); (try clear ho0)) | (go_at_call 6; (with_reducible refine (spec_R8Meters.calls k _ _ l1 t228 _ ?side1 ?side2 A6.out).mono ?_); (case side1 => repeat (first | exact (Kd.C_below HR1.out HB.out) | (with_reducible refine Kd.C_alloc ?_ _) | (with_reducible refine Kd.C_drewN ?_ _) | (with_reducible refine Kd.C_drew ?_))); (case side2 => exact HC1.out); rintro e w8 ⟨v229, rfl, ho0, hb⟩; have n0_ := Aside0.mk (Kd.R_elder' (by (with_reducible repeat (first | apply Kd.R_alloc | apply Kd.R_drewN | apply Kd.R_drew)); exact HO227.out) (Kd.R_base ho0) hb); have n1_ := Aside0.mk (Kd.R_lower (Kd.R_new' ho0 (Kd.R_lt (by (with_reducible repeat (first | apply Kd.R_alloc | apply Kd.R_drewN | apply Kd.R_drew)); exact HO227.out))) (below_size (by repeat (first | (with_reducible first | exact HB.out | apply below_alloc | apply pw_below_drewN | apply below_drew1) | exact HB.out)))); have n2_ := Aside0.mk (below_step (by repeat (first | (with_reducible first | exact HB.out | apply below_alloc | apply pw_below_drewN | apply below_drew1) | exact HB.out)) hb); clear HO227; clear HB; have HO227 := n0_; have HO230 := n1_; have HB := n2_; clear n0_ n1_ n2_; (try clear hb); (try clear hb2); (try clear hk); (try clear hi); (try clear ho0))); try go_wp2_with (first | (go_at_call 5; (with_reducible refine (laws_r8Long.calls _ _ l0 _ _ l1 false _ ?side1 ?side2 ?side3 ?side4 A3.out).mono ?_); (case side1 => repeat (first | exact HR0.out | (with_reducible refine Kd.C_alloc ?_ _) | (with_reducible refine Kd.C_drewN ?_ _) | (with_reducible refine Kd.C_drew ?_))); (case side2 => exact HC0.out); (case side3 => repeat (first | exact HR1.out | (with_reducible refine Kd.C_alloc ?_ _) | (with_reducible refine Kd.C_drewN ?_ _) | (with_reducible refine Kd.C_drew ?_))); (case side4 => exact HC1.out); rintro e w' ⟨rfl, ⟨nd, rfl⟩⟩; (try first | exact ⟨rfl, _, World.drewN_drewN _ _ _⟩ | exact ⟨rfl, _, Eq.trans (World.drewN_drewN _ _ _) (congrArg (World.drewN _) (Nat.add_assoc _ _ _))⟩)) | (go_at_call 6; (with_reducible refine (spec_R8Meters.calls k _ _ l0 t225 _ ?side1 ?side2 A5.out).mono ?_); (case side1 => repeat (first | exact HR0.out | (with_reducible refine Kd.C_alloc ?_ _) | (with_reducible refine Kd.C_drewN ?_ _) | (with_reducible refine Kd.C_drew ?_))); (case side2 => exact HC0.out); rintro e w7 ⟨v226, rfl, ho0, hb⟩; have n0_ := Aside0.mk (Kd.R_lower ho0 (below_size (by repeat (first | (with_reducible first | exact HB.out | apply below_alloc | apply pw_below_drewN | apply below_drew1) | exact HB.out)))); have n1_ := Aside0.mk (below_step (by repeat (first | (with_reducible first | exact HB.out | apply below_alloc | apply pw_below_drewN | apply below_drew1) | exact HB.out)) hb); clear HB; have HO227 := n0_; have HB := n1_; clear n0_ n1_; (try clear hb); (try clear hb2); (try clear hk); (try clear hi); (try clear ho0)) | (go_at_call 6; (with_reducible refine (spec_R8Meters.calls k _ _ l1 t228 _ ?side1 ?side2 A6.out).mono ?_); (case side1 => repeat (first | exact (Kd.C_below HR1.out HB.out) | (with_reducible refine Kd.C_alloc ?_ _) | (with_reducible refine Kd.C_drewN ?_ _) | (with_reducible refine Kd.C_drew ?_))); (case side2 => exact HC1.out); rintro e w8 ⟨v229, rfl, ho0, hb⟩; have n0_ := Aside0.mk (Kd.R_elder' (by (with_reducible repeat (first | apply Kd.R_alloc | apply Kd.R_drewN | apply Kd.R_drew)); exact HO227.out) (Kd.R_base ho0) hb); have n1_ := Aside0.mk (Kd.R_lower (Kd.R_new' ho0 (Kd.R_lt (by (with_reducible repeat (first | apply Kd.R_alloc | apply Kd.R_drewN | apply Kd.R_drew)); exact HO227.out))) (below_size (by repeat (first | (with_reducible first | exact HB.out | apply below_alloc | apply pw_below_drewN | apply below_drew1) | exact HB.out)))); have n2_ := Aside0.mk (below_step (by repeat (first | (with_reducible first | exact HB.out | apply below_alloc | apply pw_below_drewN | apply below_drew1) | exact HB.out)) hb); clear HO227; clear HB; have HO227 := n0_; have HO230 := n1_; have HB := n2_; clear n0_ n1_ n2_; (try clear hb); (try clear hb2); (try clear hk); (try clear hi); (try clear ho0))))
  go_loopg [7, 8] k (fun kq v7 v8 w' => ∃ (x7_1 : Int) (x8_1 : Int), v7 = .int .i64 x7_1 ∧ v8 = .int .i64 x8_1 ∧ Aside0 (laws_FnLeaks.l0 kq l0 l1 t225 t228 x7_1 x8_1 = some r) ∧ Aside0 (kq ≤ k) ∧ Aside0 (Kd.R k28 28 w' w.heap.size (fun k_ => some k_ ≠ (v229 : Value).ownBlock) v226 t225) ∧ Aside0 (Kd.R k28 28 w' w.heap.size (fun k_ => some k_ ≠ (v226 : Value).ownBlock) v229 t228) ∧ Aside0 (Below w.heap.size w w'))
  case atStart => exact ⟨(0), (0), (by first | rfl | (simp; done) | (simp [*]; done)), (by first | rfl | (simp; done) | (simp [*]; done)), H', ⟨Nat.le_refl _⟩, ⟨by (with_reducible repeat (first | apply Kd.R_alloc | apply Kd.R_drewN | apply Kd.R_drew)); exact Kd.R_mono HO227.out (fun _ hk => hk.2)⟩, ⟨by (with_reducible repeat (first | apply Kd.R_alloc | apply Kd.R_drewN | apply Kd.R_drew)); exact Kd.R_mono HO230.out (fun _ hk => hk.2)⟩, ⟨by repeat (first | (with_reducible first | exact HB.out | apply below_alloc | apply pw_below_drewN | apply below_drew1) | exact HB.out)⟩⟩
  case round =>
   as_aux_lemma =>
    clear H'
    try clear c1
    try clear p2
    try clear c3
    try clear c4
    obtain ⟨x7_1, x8_1, rfl, rfl, HA, HK1, HO_5, HO_6, HB⟩ := hrel
    cases gk with
    | zero => exact absurd HA.out (by simp [laws_FnLeaks.l0])
    | succ k1 =>
     have H := HA.out
     clear HA
     simp only [laws_FnLeaks.l0] at H
     by_cases c9 : x8_1 < (t225.length : Int)
     ·
      rw [if_pos c9] at H
      have c9b0 : decide (x8_1 < (t225.length : Int)) = true := decide_eq_true c9
      clear c9
      by_cases c10 : 0 ≤ x8_1
      ·
       rw [if_pos c10] at H
       have c10b0 : decide (0 ≤ x8_1) = true := decide_eq_true c10
       clear c10
       replace H := Option.bind_eq_some_iff.mp H
       obtain ⟨t232, A110, H⟩ := H
       replace H : (laws_FnLeaks.l0 k1 l0 l1 t225 t228 (wrap64 (x7_1 + (mx 0 (wrap64 (((rd_T28 t225 x8_1).f1) + (wrap64 (t232 - ((rd_T28 t225 x8_1).f2)))))))) (wrap64 (x8_1 + 1))) = some r := H
       have A11 := Aside0.mk A110
       clear A110
       obtain ⟨ji12, hji12⟩ : ∃ j_ : Int, (mx 0 (wrap64 (((rd_T28 t225 x8_1).f1) + (wrap64 (t232 - ((rd_T28 t225 x8_1).f2)))))) = j_ := ⟨_, rfl⟩
       replace H : (laws_FnLeaks.l0 k1 l0 l1 t225 t228 (wrap64 (x7_1 + (ji12))) (wrap64 (x8_1 + 1))) = some r := by first | (rw [hji12] at H; exact H) | (simp only [hji12] at H ⊢; exact H)
       (try rw [hji12] at A11)
       have hji12_ : (if 0 < (wrap64 (((rd_T28 t225 x8_1).f1) + (wrap64 (t232 - ((rd_T28 t225 x8_1).f2))))) then (wrap64 (((rd_T28 t225 x8_1).f1) + (wrap64 (t232 - ((rd_T28 t225 x8_1).f2))))) else 0) = ji12 := hji12
       have H' := Aside0.mk H
       clear H
       obtain ⟨Ao13, co13, eo13⟩ := Kd.R_slice HO_5.out
       subst eo13
       have p231 : 0 ≤ (x8_1 : Int) := of_decide_eq_true (by first | (with_reducible assumption) | assumption)
       have q231 : x8_1 < (t225.length : Int) := of_decide_eq_true (by first | (with_reducible assumption) | assumption)
       obtain ⟨ad231, e231, hx231_0, hx231_1, hx231_2⟩ := at_T28 (Kd.R_reads' HO_5.out).2.2 x8_1 p231 q231
       cases e231
       replace p231 := eq_true p231
       replace q231 := eq_true q231
       go_wp2_with (first | (go_at_call 7; (with_reducible refine (laws_r8At.calls _ _ l0 (wrap64 (20 + x8_1)) (wrap64 ((wrap64 (2 * ((rd_T28 t225 x8_1).f2))) + 1)) t232 _ ?side1 ?side2 A11.out).mono ?_); (case side1 => repeat (first | exact (Kd.C_below HR0.out HB.out) | (with_reducible refine Kd.C_alloc ?_ _) | (with_reducible refine Kd.C_drewN ?_ _) | (with_reducible refine Kd.C_drew ?_))); (case side2 => exact HC0.out); rintro e w' ⟨rfl, ⟨nd, rfl⟩⟩; (try first | exact ⟨rfl, _, World.drewN_drewN _ _ _⟩ | exact ⟨rfl, _, Eq.trans (World.drewN_drewN _ _ _) (congrArg (World.drewN _) (Nat.add_assoc _ _ _))⟩); have p233 : 0 ≤ (x8_1 : Int) := of_decide_eq_true (by first | (with_reducible assumption) | assumption); have q233 : x8_1 < (t225.length : Int) := of_decide_eq_true (by first | (with_reducible assumption) | assumption); obtain ⟨ad233, e233, hx233_0, hx233_1, hx233_2⟩ := at_T28 (Kd.R_reads' HO_5.out).2.2 x8_1 p233 q233; obtain rfl : ad231 = ad233 := (by injection e233); replace p233 := eq_true p233; replace q233 := eq_true q233; have p234 : 0 ≤ (x8_1 : Int) := of_decide_eq_true (by first | (with_reducible assumption) | assumption); have q234 : x8_1 < (t225.length : Int) := of_decide_eq_true (by first | (with_reducible assumption) | assumption); obtain ⟨ad234, e234, hx234_0, hx234_1, hx234_2⟩ := at_T28 (Kd.R_reads' HO_5.out).2.2 x8_1 p234 q234; obtain rfl : ad231 = ad234 := (by injection e234); replace p234 := eq_true p234; replace q234 := eq_true q234))
       repeat (go_quiet (first | (go_at_call 7; (try simp only [i64_w]); (with_reducible refine (laws_r8At.calls _ _ l0 (wrap64 (20 + x8_1)) (wrap64 ((wrap64 (2 * ((rd_T28 t225 x8_1).f2))) + 1)) t232 _ ?side1 ?side2 A11.out).mono ?_); (case side1 => repeat (first | exact (Kd.C_below HR0.out HB.out) | (with_reducible refine Kd.C_alloc ?_ _) | (with_reducible refine Kd.C_drewN ?_ _) | (with_reducible refine Kd.C_drew ?_))); (case side2 => exact HC0.out); rintro e w' ⟨rfl, ⟨nd, rfl⟩⟩; (try first | exact ⟨rfl, _, World.drewN_drewN _ _ _⟩ | exact ⟨rfl, _, Eq.trans (World.drewN_drewN _ _ _) (congrArg (World.drewN _) (Nat.add_assoc _ _ _))⟩); have p233 : 0 ≤ (x8_1 : Int) := of_decide_eq_true (by first | (with_reducible assumption) | assumption); have q233 : x8_1 < (t225.length : Int) := of_decide_eq_true (by first | (with_reducible assumption) | assumption); obtain ⟨ad233, e233, hx233_0, hx233_1, hx233_2⟩ := at_T28 (Kd.R_reads' HO_5.out).2.2 x8_1 p233 q233; obtain rfl : ad231 = ad233 := (by injection e233); replace p233 := eq_true p233; replace q233 := eq_true q233; have p234 : 0 ≤ (x8_1 : Int) := of_decide_eq_true (by first | (with_reducible assumption) | assumption); have q234 : x8_1 < (t225.length : Int) := of_decide_eq_true (by first | (with_reducible assumption) | assumption); obtain ⟨ad234, e234, hx234_0, hx234_1, hx234_2⟩ := at_T28 (Kd.R_reads' HO_5.out).2.2 x8_1 p234 q234; obtain rfl : ad231 = ad234 := (by injection e234); replace p234 := eq_true p234; replace q234 := eq_true q234)); try go_wp2_with (first | (go_at_call 7; (try simp only [i64_w]); (with_reducible refine (laws_r8At.calls _ _ l0 (wrap64 (20 + x8_1)) (wrap64 ((wrap64 (2 * ((rd_T28 t225 x8_1).f2))) + 1)) t232 _ ?side1 ?side2 A11.out).mono ?_); (case side1 => repeat (first | exact (Kd.C_below HR0.out HB.out) | (with_reducible refine Kd.C_alloc ?_ _) | (with_reducible refine Kd.C_drewN ?_ _) | (with_reducible refine Kd.C_drew ?_))); (case side2 => exact HC0.out); rintro e w' ⟨rfl, ⟨nd, rfl⟩⟩; (try first | exact ⟨rfl, _, World.drewN_drewN _ _ _⟩ | exact ⟨rfl, _, Eq.trans (World.drewN_drewN _ _ _) (congrArg (World.drewN _) (Nat.add_assoc _ _ _))⟩); have p233 : 0 ≤ (x8_1 : Int) := of_decide_eq_true (by first | (with_reducible assumption) | assumption); have q233 : x8_1 < (t225.length : Int) := of_decide_eq_true (by first | (with_reducible assumption) | assumption); obtain ⟨ad233, e233, hx233_0, hx233_1, hx233_2⟩ := at_T28 (Kd.R_reads' HO_5.out).2.2 x8_1 p233 q233; obtain rfl : ad231 = ad233 := (by injection e233); replace p233 := eq_true p233; replace q233 := eq_true q233; have p234 : 0 ≤ (x8_1 : Int) := of_decide_eq_true (by first | (with_reducible assumption) | assumption); have q234 : x8_1 < (t225.length : Int) := of_decide_eq_true (by first | (with_reducible assumption) | assumption); obtain ⟨ad234, e234, hx234_0, hx234_1, hx234_2⟩ := at_T28 (Kd.R_reads' HO_5.out).2.2 x8_1 p234 q234; obtain rfl : ad231 = ad234 := (by injection e234); replace p234 := eq_true p234; replace q234 := eq_true q234)))
       go_roundg k1
       case measure => have := HK1.out; omega
       case rel => exact ⟨(wrap64 (x7_1 + (ji12))), (wrap64 (x8_1 + 1)), (by first | rfl | (simp; done) | (simp only [← hji12] <;> (first | rfl | simp)) | (simp [*]; done)), (by first | rfl | (simp; done) | (simp [*]; done)), H', ⟨by have := HK1.out; omega⟩, ⟨by (with_reducible repeat (first | apply Kd.R_alloc | apply Kd.R_drewN | apply Kd.R_drew)); exact HO_5.out⟩, ⟨by (with_reducible repeat (first | apply Kd.R_alloc | apply Kd.R_drewN | apply Kd.R_drew)); exact HO_6.out⟩, ⟨by repeat (first | (with_reducible first | exact HB.out | apply below_alloc | apply pw_below_drewN | apply below_drew1) | exact HB.out)⟩⟩
      ·
       rw [if_neg c10] at H
       exact absurd H (by simp)
     ·
      rw [if_neg c9] at H
      have c9b0 : decide (x8_1 < (t225.length : Int)) = false := decide_eq_false c9
      clear c9
      have H' := Aside0.mk H
      clear H
      obtain ⟨Ao14, co14, eo14⟩ := Kd.R_slice HO_5.out
      subst eo14
      go_wp2
      repeat (go_quiet (fail); try go_wp2)
      go_loopg [7, 10] k1 (fun kq v7 v10 w' => ∃ (x7_2 : Int) (x10_2 : Int), v7 = .int .i64 x7_2 ∧ v10 = .int .i64 x10_2 ∧ Aside0 (laws_FnLeaks.l1 kq l1 t225 t228 x7_2 x10_2 = some r) ∧ Aside0 (kq ≤ k1) ∧ Aside0 (Kd.R k28 28 w' w.heap.size (fun k_ => some k_ ≠ (v229 : Value).ownBlock) (.slice Ao14 t225.length co14) t225) ∧ Aside0 (Kd.R k28 28 w' w.heap.size (fun k_ => some k_ ≠ ((.slice Ao14 t225.length co14) : Value).ownBlock) v229 t228) ∧ Aside0 (Below w.heap.size w w'))
      case atStart => exact ⟨(x7_1), (0), (by first | rfl | (simp; done) | (simp [*]; done)), (by first | rfl | (simp; done) | (simp [*]; done)), H', ⟨Nat.le_refl _⟩, ⟨by (with_reducible repeat (first | apply Kd.R_alloc | apply Kd.R_drewN | apply Kd.R_drew)); exact HO_5.out⟩, ⟨by (with_reducible repeat (first | apply Kd.R_alloc | apply Kd.R_drewN | apply Kd.R_drew)); exact HO_6.out⟩, ⟨by repeat (first | (with_reducible first | exact HB.out | apply below_alloc | apply pw_below_drewN | apply below_drew1) | exact HB.out)⟩⟩
      case round =>
       as_aux_lemma =>
        clear H'
        try clear c1
        try clear p2
        try clear q2
        try clear hx2
        try clear c3
        try clear c4
        try clear p6
        try clear c9
        try clear c9b0
        try clear c10
        try clear c10b0
        try clear hx231_0
        try clear hx231_1
        try clear hx231_2
        try clear hx233_0
        try clear hx233_1
        try clear hx233_2
        try clear hx234_0
        try clear hx234_1
        try clear hx234_2
        try clear p2
        try clear p231
        try clear p233
        try clear p234
        try clear q231
        try clear q233
        try clear q234
        obtain ⟨x7_2, x10_2, rfl, rfl, HA, HK2, HO_5, HO_6, HB⟩ := hrel
        cases gk with
        | zero => exact absurd HA.out (by simp [laws_FnLeaks.l1])
        | succ k2 =>
         have H := HA.out
         clear HA
         simp only [laws_FnLeaks.l1] at H
         by_cases c15 : x10_2 < (t228.length : Int)
         ·
          rw [if_pos c15] at H
          have c15b0 : decide (x10_2 < (t228.length : Int)) = true := decide_eq_true c15
          clear c15
          by_cases c16 : 0 ≤ x10_2
          ·
           rw [if_pos c16] at H
           have c16b0 : decide (0 ≤ x10_2) = true := decide_eq_true c16
           clear c16
           replace H := Option.bind_eq_some_iff.mp H
           obtain ⟨t236, A170, H⟩ := H
           replace H : (laws_FnLeaks.l1 k2 l1 t225 t228 (wrap64 (x7_2 - (mx 0 (wrap64 (((rd_T28 t228 x10_2).f1) + (wrap64 (t236 - ((rd_T28 t228 x10_2).f2)))))))) (wrap64 (x10_2 + 1))) = some r := H
           have A17 := Aside0.mk A170
           clear A170
           obtain ⟨ji18, hji18⟩ : ∃ j_ : Int, (mx 0 (wrap64 (((rd_T28 t228 x10_2).f1) + (wrap64 (t236 - ((rd_T28 t228 x10_2).f2)))))) = j_ := ⟨_, rfl⟩
           replace H : (laws_FnLeaks.l1 k2 l1 t225 t228 (wrap64 (x7_2 - (ji18))) (wrap64 (x10_2 + 1))) = some r := by first | (rw [hji18] at H; exact H) | (simp only [hji18] at H ⊢; exact H)
           (try rw [hji18] at A17)
           have hji18_ : (if 0 < (wrap64 (((rd_T28 t228 x10_2).f1) + (wrap64 (t236 - ((rd_T28 t228 x10_2).f2))))) then (wrap64 (((rd_T28 t228 x10_2).f1) + (wrap64 (t236 - ((rd_T28 t228 x10_2).f2))))) else 0) = ji18 := hji18
           have H' := Aside0.mk H
           clear H
           obtain ⟨Ao19, co19, eo19⟩ := Kd.R_slice HO_6.out
           subst eo19
           have p235 : 0 ≤ (x10_2 : Int) := of_decide_eq_true (by first | (with_reducible assumption) | assumption)
           have q235 : x10_2 < (t228.length : Int) := of_decide_eq_true (by first | (with_reducible assumption) | assumption)
           obtain ⟨ad235, e235, hx235_0, hx235_1, hx235_2⟩ := at_T28 (Kd.R_reads' HO_6.out).2.2 x10_2 p235 q235
           cases e235
           replace p235 := eq_true p235
           replace q235 := eq_true q235
           go_wp2_with (first | (go_at_call 7; (with_reducible refine (laws_r8At.calls _ _ l1 (wrap64 (20 + x10_2)) (wrap64 ((wrap64 (2 * ((rd_T28 t228 x10_2).f2))) + 1)) t236 _ ?side1 ?side2 A17.out).mono ?_); (case side1 => repeat (first | exact (Kd.C_below HR1.out HB.out) | (with_reducible refine Kd.C_alloc ?_ _) | (with_reducible refine Kd.C_drewN ?_ _) | (with_reducible refine Kd.C_drew ?_))); (case side2 => exact HC1.out); rintro e w' ⟨rfl, ⟨nd, rfl⟩⟩; (try first | exact ⟨rfl, _, World.drewN_drewN _ _ _⟩ | exact ⟨rfl, _, Eq.trans (World.drewN_drewN _ _ _) (congrArg (World.drewN _) (Nat.add_assoc _ _ _))⟩); have p237 : 0 ≤ (x10_2 : Int) := of_decide_eq_true (by first | (with_reducible assumption) | assumption); have q237 : x10_2 < (t228.length : Int) := of_decide_eq_true (by first | (with_reducible assumption) | assumption); obtain ⟨ad237, e237, hx237_0, hx237_1, hx237_2⟩ := at_T28 (Kd.R_reads' HO_6.out).2.2 x10_2 p237 q237; obtain rfl : ad235 = ad237 := (by injection e237); replace p237 := eq_true p237; replace q237 := eq_true q237; have p238 : 0 ≤ (x10_2 : Int) := of_decide_eq_true (by first | (with_reducible assumption) | assumption); have q238 : x10_2 < (t228.length : Int) := of_decide_eq_true (by first | (with_reducible assumption) | assumption); obtain ⟨ad238, e238, hx238_0, hx238_1, hx238_2⟩ := at_T28 (Kd.R_reads' HO_6.out).2.2 x10_2 p238 q238; obtain rfl : ad235 = ad238 := (by injection e238); replace p238 := eq_true p238; replace q238 := eq_true q238))
           repeat (go_quiet (first | (go_at_call 7; (try simp only [i64_w]); (with_reducible refine (laws_r8At.calls _ _ l1 (wrap64 (20 + x10_2)) (wrap64 ((wrap64 (2 * ((rd_T28 t228 x10_2).f2))) + 1)) t236 _ ?side1 ?side2 A17.out).mono ?_); (case side1 => repeat (first | exact (Kd.C_below HR1.out HB.out) | (with_reducible refine Kd.C_alloc ?_ _) | (with_reducible refine Kd.C_drewN ?_ _) | (with_reducible refine Kd.C_drew ?_))); (case side2 => exact HC1.out); rintro e w' ⟨rfl, ⟨nd, rfl⟩⟩; (try first | exact ⟨rfl, _, World.drewN_drewN _ _ _⟩ | exact ⟨rfl, _, Eq.trans (World.drewN_drewN _ _ _) (congrArg (World.drewN _) (Nat.add_assoc _ _ _))⟩); have p237 : 0 ≤ (x10_2 : Int) := of_decide_eq_true (by first | (with_reducible assumption) | assumption); have q237 : x10_2 < (t228.length : Int) := of_decide_eq_true (by first | (with_reducible assumption) | assumption); obtain ⟨ad237, e237, hx237_0, hx237_1, hx237_2⟩ := at_T28 (Kd.R_reads' HO_6.out).2.2 x10_2 p237 q237; obtain rfl : ad235 = ad237 := (by injection e237); replace p237 := eq_true p237; replace q237 := eq_true q237; have p238 : 0 ≤ (x10_2 : Int) := of_decide_eq_true (by first | (with_reducible assumption) | assumption); have q238 : x10_2 < (t228.length : Int) := of_decide_eq_true (by first | (with_reducible assumption) | assumption); obtain ⟨ad238, e238, hx238_0, hx238_1, hx238_2⟩ := at_T28 (Kd.R_reads' HO_6.out).2.2 x10_2 p238 q238; obtain rfl : ad235 = ad238 := (by injection e238); replace p238 := eq_true p238; replace q238 := eq_true q238)); try go_wp2_with (first | (go_at_call 7; (try simp only [i64_w]); (with_reducible refine (laws_r8At.calls _ _ l1 (wrap64 (20 + x10_2)) (wrap64 ((wrap64 (2 * ((rd_T28 t228 x10_2).f2))) + 1)) t236 _ ?side1 ?side2 A17.out).mono ?_); (case side1 => repeat (first | exact (Kd.C_below HR1.out HB.out) | (with_reducible refine Kd.C_alloc ?_ _) | (with_reducible refine Kd.C_drewN ?_ _) | (with_reducible refine Kd.C_drew ?_))); (case side2 => exact HC1.out); rintro e w' ⟨rfl, ⟨nd, rfl⟩⟩; (try first | exact ⟨rfl, _, World.drewN_drewN _ _ _⟩ | exact ⟨rfl, _, Eq.trans (World.drewN_drewN _ _ _) (congrArg (World.drewN _) (Nat.add_assoc _ _ _))⟩); have p237 : 0 ≤ (x10_2 : Int) := of_decide_eq_true (by first | (with_reducible assumption) | assumption); have q237 : x10_2 < (t228.length : Int) := of_decide_eq_true (by first | (with_reducible assumption) | assumption); obtain ⟨ad237, e237, hx237_0, hx237_1, hx237_2⟩ := at_T28 (Kd.R_reads' HO_6.out).2.2 x10_2 p237 q237; obtain rfl : ad235 = ad237 := (by injection e237); replace p237 := eq_true p237; replace q237 := eq_true q237; have p238 : 0 ≤ (x10_2 : Int) := of_decide_eq_true (by first | (with_reducible assumption) | assumption); have q238 : x10_2 < (t228.length : Int) := of_decide_eq_true (by first | (with_reducible assumption) | assumption); obtain ⟨ad238, e238, hx238_0, hx238_1, hx238_2⟩ := at_T28 (Kd.R_reads' HO_6.out).2.2 x10_2 p238 q238; obtain rfl : ad235 = ad238 := (by injection e238); replace p238 := eq_true p238; replace q238 := eq_true q238)))
           go_roundg k2
           case measure => have := HK1.out; have := HK2.out; omega
           case rel => exact ⟨(wrap64 (x7_2 - (ji18))), (wrap64 (x10_2 + 1)), (by first | rfl | (simp; done) | (simp only [← hji18] <;> (first | rfl | simp)) | (simp [*]; done)), (by first | rfl | (simp; done) | (simp [*]; done)), H', ⟨by have := HK1.out; have := HK2.out; omega⟩, ⟨by (with_reducible repeat (first | apply Kd.R_alloc | apply Kd.R_drewN | apply Kd.R_drew)); exact HO_5.out⟩, ⟨by (with_reducible repeat (first | apply Kd.R_alloc | apply Kd.R_drewN | apply Kd.R_drew)); exact HO_6.out⟩, ⟨by repeat (first | (with_reducible first | exact HB.out | apply below_alloc | apply pw_below_drewN | apply below_drew1) | exact HB.out)⟩⟩
          ·
           rw [if_neg c16] at H
           exact absurd H (by simp)
         ·
          rw [if_neg c15] at H
          have c15b0 : decide (x10_2 < (t228.length : Int)) = false := decide_eq_false c15
          clear c15
          replace H := Option.bind_eq_some_iff.mp H
          obtain ⟨⟨t239, t240, t241⟩, A200, H⟩ := H
          replace H : (if x7_2 ≥ 0 then (if t241 = 0 then (if x7_2 < t239 then (laws_FnLeaks.j2 k2 t225 true) else (if x7_2 > t240 then (laws_FnLeaks.j2 k2 t225 true) else ((impl_IsLeaking.f k2 t225 t228).bind fun t242 => (laws_FnLeaks.j2 k2 t225 (t242 != (decide (t239 > 0))))))) else (laws_FnLeaks.j2 k2 t225 true)) else (if t241 = 0 then ((impl_IsLeaking.f k2 t225 t228).bind fun t243 => (laws_FnLeaks.j2 k2 t225 (t243 != (decide (t239 > 0))))) else (if t241 = 6 then ((impl_IsLeaking.f k2 t225 t228).bind fun t244 => (laws_FnLeaks.j2 k2 t225 (t244 != false))) else (laws_FnLeaks.j2 k2 t225 true)))) = some r := H
          have A20 := Aside0.mk A200
          clear A200
          have HC21 := Aside0.mk H
          clear H
          obtain ⟨Ao22, co22, eo22⟩ := Kd.R_slice HO_6.out
          subst eo22
          go_upto_region 17 with (first | (go_at_call 8; (with_reducible refine (impl_LeakBounds.calls k2 _ _ t225 _ _ t228 t239 t240 t241 _ ?side1 ?side2 ?side3 ?side4 A20.out).mono ?_); (case side1 => repeat (first | exact (Kd.R_reads' HO_5.out).2.2 | (with_reducible refine Kd.C_alloc ?_ _) | (with_reducible refine Kd.C_drewN ?_ _) | (with_reducible refine Kd.C_drew ?_))); (case side2 => exact (Kd.R_reads' HO_5.out).2.1); (case side3 => repeat (first | exact (Kd.R_reads' HO_6.out).2.2 | (with_reducible refine Kd.C_alloc ?_ _) | (with_reducible refine Kd.C_drewN ?_ _) | (with_reducible refine Kd.C_drew ?_))); (case side4 => exact (Kd.R_reads' HO_6.out).2.1); rintro e w23 ⟨rfl, hb⟩; have n0_ := Aside0.mk (Kd.R_below (by (with_reducible repeat (first | apply Kd.R_alloc | apply Kd.R_drewN | apply Kd.R_drew)); exact HO_5.out) hb); have n1_ := Aside0.mk (Kd.R_below (by (with_reducible repeat (first | apply Kd.R_alloc | apply Kd.R_drewN | apply Kd.R_drew)); exact HO_6.out) hb); have n2_ := Aside0.mk (below_step (by repeat (first | (with_reducible first | exact HB.out | apply below_alloc | apply pw_below_drewN | apply below_drew1) | exact HB.out)) hb); clear HO_5; clear HO_6; clear HB; have HO_5 := n0_; have HO_6 := n1_; have HB := n2_; clear n0_ n1_ n2_; (try clear hb); (try clear hb2); (try clear hk); (try clear hi)))
          repeat (go_quiet (first | (go_at_call 8; (with_reducible refine (impl_LeakBounds.calls k2 _ _ t225 _ _ t228 t239 t240 t241 _ ?side1 ?side2 ?side3 ?side4 A20.out).mono ?_); (case side1 => repeat (first | exact (Kd.R_reads' HO_5.out).2.2 | (with_reducible refine Kd.C_alloc ?_ _) | (with_reducible refine Kd.C_drewN ?_ _) | (with_reducible refine Kd.C_drew ?_))); (case side2 => exact (Kd.R_reads' HO_5.out).2.1); (case side3 => repeat (first | exact (Kd.R_reads' HO_6.out).2.2 | (with_reducible refine Kd.C_alloc ?_ _) | (with_reducible refine Kd.C_drewN ?_ _) | (with_reducible refine Kd.C_drew ?_))); (case side4 => exact (Kd.R_reads' HO_6.out).2.1); rintro e w23 ⟨rfl, hb⟩; have n0_ := Aside0.mk (Kd.R_below (by (with_reducible repeat (first | apply Kd.R_alloc | apply Kd.R_drewN | apply Kd.R_drew)); exact HO_5.out) hb); have n1_ := Aside0.mk (Kd.R_below (by (with_reducible repeat (first | apply Kd.R_alloc | apply Kd.R_drewN | apply Kd.R_drew)); exact HO_6.out) hb); have n2_ := Aside0.mk (below_step (by repeat (first | (with_reducible first | exact HB.out | apply below_alloc | apply pw_below_drewN | apply below_drew1) | exact HB.out)) hb); clear HO_5; clear HO_6; clear HB; have HO_5 := n0_; have HO_6 := n1_; have HB := n2_; clear n0_ n1_ n2_; (try clear hb); (try clear hb2); (try clear hk); (try clear hi))); go_upto_region 17 with (first | (go_at_call 8; (with_reducible refine (impl_LeakBounds.calls k2 _ _ t225 _ _ t228 t239 t240 t241 _ ?side1 ?side2 ?side3 ?side4 A20.out).mono ?_); (case side1 => repeat (first | exact (Kd.R_reads' HO_5.out).2.2 | (with_reducible refine Kd.C_alloc ?_ _) | (with_reducible refine Kd.C_drewN ?_ _) | (with_reducible refine Kd.C_drew ?_))); (case side2 => exact (Kd.R_reads' HO_5.out).2.1); (case side3 => repeat (first | exact (Kd.R_reads' HO_6.out).2.2 | (with_reducible refine Kd.C_alloc ?_ _) | (with_reducible refine Kd.C_drewN ?_ _) | (with_reducible refine Kd.C_drew ?_))); (case side4 => exact (Kd.R_reads' HO_6.out).2.1); rintro e w23 ⟨rfl, hb⟩; have n0_ := Aside0.mk (Kd.R_below (by (with_reducible repeat (first | apply Kd.R_alloc | apply Kd.R_drewN | apply Kd.R_drew)); exact HO_5.out) hb); have n1_ := Aside0.mk (Kd.R_below (by (with_reducible repeat (first | apply Kd.R_alloc | apply Kd.R_drewN | apply Kd.R_drew)); exact HO_6.out) hb); have n2_ := Aside0.mk (below_step (by repeat (first | (with_reducible first | exact HB.out | apply below_alloc | apply pw_below_drewN | apply below_drew1) | exact HB.out)) hb); clear HO_5; clear HO_6; clear HB; have HO_5 := n0_; have HO_6 := n1_; have HB := n2_; clear n0_ n1_ n2_; (try clear hb); (try clear hb2); (try clear hk); (try clear hi))))
          (try simp only [Act.put, List.setIfInBounds_toArray, List.set_cons_zero, List.set_cons_succ])
          go_cut [139] (fun v139 wc => ∃ (kq : Nat) (x139_20 : Bool), v139 = .bool x139_20 ∧ Aside0 (laws_FnLeaks.j2 kq t225 x139_20 = some r) ∧ Aside0 (kq ≤ k2) ∧ Aside0 (Kd.R k28 28 wc w.heap.size (fun _ => True) (.slice Ao14 t225.length co14) t225) ∧ Aside0 (Below w.heap.size w wc))
          case first =>
           as_aux_lemma =>
            have H := HC21.out
            clear HC21
            by_cases c24 : x7_2 ≥ 0
            ·
             rw [if_pos c24] at H
             have c24b0 : decide (0 ≤ x7_2) = true := decide_eq_true c24
             clear c24
             (first | rw [c24b0] | (simp only [i64_w, i32_w]; rw [c24b0]) | skip)
             by_cases c25 : t241 = 0
             ·
              rw [if_pos c25] at H
              have c25b0 : (t241 == 0) = true := beq_iff_eq.mpr c25
              have c25b1 : (t241 != 0) = false := bne_eq_false_iff_eq.mpr c25
              clear c25
              by_cases c26 : x7_2 < t239
              ·
               rw [if_pos c26] at H
               have c26b0 : decide (x7_2 < t239) = true := decide_eq_true c26
               clear c26
               have H' := Aside0.mk H
               clear H
               go_wp2
               repeat (go_quiet (fail); try go_wp2)
               go_meet
               case rel => exact ⟨_, (true), (by first | rfl | (simp; done) | (simp [*]; done)), H', ⟨by have := HK1.out; have := HK2.out; first | omega | exact Nat.le_refl _⟩, ⟨by (with_reducible repeat (first | apply Kd.R_alloc | apply Kd.R_drewN | apply Kd.R_drew)); exact Kd.R_mono HO_5.out (fun _ hk => trivial)⟩, ⟨by repeat (first | (with_reducible first | exact HB.out | apply below_alloc | apply pw_below_drewN | apply below_drew1) | exact HB.out)⟩⟩
              ·
               rw [if_neg c26] at H
               have c26b0 : decide (x7_2 < t239) = false := decide_eq_false c26
               clear c26
               by_cases c27 : x7_2 > t240
               ·
                rw [if_pos c27] at H
                have c27b0 : decide (t240 < x7_2) = true := decide_eq_true c27
                clear c27
                have H' := Aside0.mk H
                clear H
                go_wp2
                repeat (go_quiet (fail); try go_wp2)
                go_meet
                case rel => exact ⟨_, (true), (by first | rfl | (simp; done) | (simp [*]; done)), H', ⟨by have := HK1.out; have := HK2.out; first | omega | exact Nat.le_refl _⟩, ⟨by (with_reducible repeat (first | apply Kd.R_alloc | apply Kd.R_drewN | apply Kd.R_drew)); exact Kd.R_mono HO_5.out (fun _ hk => trivial)⟩, ⟨by repeat (first | (with_reducible first | exact HB.out | apply below_alloc | apply pw_below_drewN | apply below_drew1) | exact HB.out)⟩⟩
               ·
                rw [if_neg c27] at H
                have c27b0 : decide (t240 < x7_2) = false := decide_eq_false c27
                clear c27
                replace H := Option.bind_eq_some_iff.mp H
                obtain ⟨t242, A280, H⟩ := H
                replace H : (laws_FnLeaks.j2 k2 t225 (t242 != (decide (t239 > 0)))) = some r := H
                have A28 := Aside0.mk A280
                clear A280
                have H' := Aside0.mk H
                clear H
                go_wp2_with (first | (go_at_call 9; (with_reducible refine (impl_IsLeaking.calls k2 _ _ t225 _ _ t228 t242 _ ?side1 ?side2 ?side3 ?side4 A28.out).mono ?_); (case side1 => repeat (first | exact (Kd.R_reads' HO_5.out).2.2 | (with_reducible refine Kd.C_alloc ?_ _) | (with_reducible refine Kd.C_drewN ?_ _) | (with_reducible refine Kd.C_drew ?_))); (case side2 => exact (Kd.R_reads' HO_5.out).2.1); (case side3 => repeat (first | exact (Kd.R_reads' HO_6.out).2.2 | (with_reducible refine Kd.C_alloc ?_ _) | (with_reducible refine Kd.C_drewN ?_ _) | (with_reducible refine Kd.C_drew ?_))); (case side4 => exact (Kd.R_reads' HO_6.out).2.1); rintro e w29 ⟨rfl, hb⟩; have n0_ := Aside0.mk (Kd.R_below (by (with_reducible repeat (first | apply Kd.R_alloc | apply Kd.R_drewN | apply Kd.R_drew)); exact HO_5.out) hb); have n1_ := Aside0.mk (Kd.R_below (by (with_reducible repeat (first | apply Kd.R_alloc | apply Kd.R_drewN | apply Kd.R_drew)); exact HO_6.out) hb); have n2_ := Aside0.mk (below_step (by repeat (first | (with_reducible first | exact HB.out | apply below_alloc | apply pw_below_drewN | apply below_drew1) | exact HB.out)) hb); clear HO_5; clear HO_6; clear HB; have HO_5 := n0_; have HO_6 := n1_; have HB := n2_; clear n0_ n1_ n2_; (try clear hb); (try clear hb2); (try clear hk); (try clear hi)))
                repeat (go_quiet (first | (go_at_call 9; (with_reducible refine (impl_IsLeaking.calls k2 _ _ t225 _ _ t228 t242 _ ?side1 ?side2 ?side3 ?side4 A28.out).mono ?_); (case side1 => repeat (first | exact (Kd.R_reads' HO_5.out).2.2 | (with_reducible refine Kd.C_alloc ?_ _) | (with_reducible refine Kd.C_drewN ?_ _) | (with_reducible refine Kd.C_drew ?_))); (case side2 => exact (Kd.R_reads' HO_5.out).2.1); (case side3 => repeat (first | exact (Kd.R_reads' HO_6.out).2.2 | (with_reducible refine Kd.C_alloc ?_ _) | (with_reducible refine Kd.C_drewN ?_ _) | (with_reducible refine Kd.C_drew ?_))); (case side4 => exact (Kd.R_reads' HO_6.out).2.1); rintro e w29 ⟨rfl, hb⟩; have n0_ := Aside0.mk (Kd.R_below (by (with_reducible repeat (first | apply Kd.R_alloc | apply Kd.R_drewN | apply Kd.R_drew)); exact HO_5.out) hb); have n1_ := Aside0.mk (Kd.R_below (by (with_reducible repeat (first | apply Kd.R_alloc | apply Kd.R_drewN | apply Kd.R_drew)); exact HO_6.out) hb); have n2_ := Aside0.mk (below_step (by repeat (first | (with_reducible first | exact HB.out | apply below_alloc | apply pw_below_drewN | apply below_drew1) | exact HB.out)) hb); clear HO_5; clear HO_6; clear HB; have HO_5 := n0_; have HO_6 := n1_; have HB := n2_; clear n0_ n1_ n2_; (try clear hb); (try clear hb2); (try clear hk); (try clear hi))); try go_wp2_with (first | (go_at_call 9; (with_reducible refine (impl_IsLeaking.calls k2 _ _ t225 _ _ t228 t242 _ ?side1 ?side2 ?side3 ?side4 A28.out).mono ?_); (case side1 => repeat (first | exact (Kd.R_reads' HO_5.out).2.2 | (with_reducible refine Kd.C_alloc ?_ _) | (with_reducible refine Kd.C_drewN ?_ _) | (with_reducible refine Kd.C_drew ?_))); (case side2 => exact (Kd.R_reads' HO_5.out).2.1); (case side3 => repeat (first | exact (Kd.R_reads' HO_6.out).2.2 | (with_reducible refine Kd.C_alloc ?_ _) | (with_reducible refine Kd.C_drewN ?_ _) | (with_reducible refine Kd.C_drew ?_))); (case side4 => exact (Kd.R_reads' HO_6.out).2.1); rintro e w29 ⟨rfl, hb⟩; have n0_ := Aside0.mk (Kd.R_below (by (with_reducible repeat (first | apply Kd.R_alloc | apply Kd.R_drewN | apply Kd.R_drew)); exact HO_5.out) hb); have n1_ := Aside0.mk (Kd.R_below (by (with_reducible repeat (first | apply Kd.R_alloc | apply Kd.R_drewN | apply Kd.R_drew)); exact HO_6.out) hb); have n2_ := Aside0.mk (below_step (by repeat (first | (with_reducible first | exact HB.out | apply below_alloc | apply pw_below_drewN | apply below_drew1) | exact HB.out)) hb); clear HO_5; clear HO_6; clear HB; have HO_5 := n0_; have HO_6 := n1_; have HB := n2_; clear n0_ n1_ n2_; (try clear hb); (try clear hb2); (try clear hk); (try clear hi))))
                go_meet
                case rel => exact ⟨_, ((t242 != (decide (t239 > 0)))), (by first | rfl | (simp; done) | (simp [*]; done)), H', ⟨by have := HK1.out; have := HK2.out; first | omega | exact Nat.le_refl _⟩, ⟨by (with_reducible repeat (first | apply Kd.R_alloc | apply Kd.R_drewN | apply Kd.R_drew)); exact Kd.R_mono HO_5.out (fun _ hk => trivial)⟩, ⟨by repeat (first | (with_reducible first | exact HB.out | apply below_alloc | apply pw_below_drewN | apply below_drew1) | exact HB.out)⟩⟩
             ·
              rw [if_neg c25] at H
              have c25b0 : (t241 == 0) = false := beq_eq_false_iff_ne.mpr c25
              have c25b1 : (t241 != 0) = true := bne_iff_ne.mpr c25
              have H' := Aside0.mk H
              clear H
              go_wp2
              repeat (go_quiet (fail); try go_wp2)
              go_meet
              case rel => exact ⟨_, (true), (by first | rfl | (simp; done) | (simp [*]; done)), H', ⟨by have := HK1.out; have := HK2.out; first | omega | exact Nat.le_refl _⟩, ⟨by (with_reducible repeat (first | apply Kd.R_alloc | apply Kd.R_drewN | apply Kd.R_drew)); exact Kd.R_mono HO_5.out (fun _ hk => trivial)⟩, ⟨by repeat (first | (with_reducible first | exact HB.out | apply below_alloc | apply pw_below_drewN | apply below_drew1) | exact HB.out)⟩⟩
            ·
             rw [if_neg c24] at H
             have c24b0 : decide (0 ≤ x7_2) = false := decide_eq_false c24
             clear c24
             (first | rw [c24b0] | (simp only [i64_w, i32_w]; rw [c24b0]) | skip)
             by_cases c30 : t241 = 0
             ·
              rw [if_pos c30] at H
              have c30b0 : (t241 == 0) = true := beq_iff_eq.mpr c30
              have c30b1 : (t241 != 0) = false := bne_eq_false_iff_eq.mpr c30
              clear c30
              replace H := Option.bind_eq_some_iff.mp H
              obtain ⟨t243, A310, H⟩ := H
              replace H : (laws_FnLeaks.j2 k2 t225 (t243 != (decide (t239 > 0)))) = some r := H
              have A31 := Aside0.mk A310
              clear A310
              have H' := Aside0.mk H
              clear H
              go_wp2_with (first | (go_at_call 9; (with_reducible refine (impl_IsLeaking.calls k2 _ _ t225 _ _ t228 t243 _ ?side1 ?side2 ?side3 ?side4 A31.out).mono ?_); (case side1 => repeat (first | exact (Kd.R_reads' HO_5.out).2.2 | (with_reducible refine Kd.C_alloc ?_ _) | (with_reducible refine Kd.C_drewN ?_ _) | (with_reducible refine Kd.C_drew ?_))); (case side2 => exact (Kd.R_reads' HO_5.out).2.1); (case side3 => repeat (first | exact (Kd.R_reads' HO_6.out).2.2 | (with_reducible refine Kd.C_alloc ?_ _) | (with_reducible refine Kd.C_drewN ?_ _) | (with_reducible refine Kd.C_drew ?_))); (case side4 => exact (Kd.R_reads' HO_6.out).2.1); rintro e w32 ⟨rfl, hb⟩; have n0_ := Aside0.mk (Kd.R_below (by (with_reducible repeat (first | apply Kd.R_alloc | apply Kd.R_drewN | apply Kd.R_drew)); exact HO_5.out) hb); have n1_ := Aside0.mk (Kd.R_below (by (with_reducible repeat (first | apply Kd.R_alloc | apply Kd.R_drewN | apply Kd.R_drew)); exact HO_6.out) hb); have n2_ := Aside0.mk (below_step (by repeat (first | (with_reducible first | exact HB.out | apply below_alloc | apply pw_below_drewN | apply below_drew1) | exact HB.out)) hb); clear HO_5; clear HO_6; clear HB; have HO_5 := n0_; have HO_6 := n1_; have HB := n2_; clear n0_ n1_ n2_; (try clear hb); (try clear hb2); (try clear hk); (try clear hi)))
              repeat (go_quiet (first | (go_at_call 9; (with_reducible refine (impl_IsLeaking.calls k2 _ _ t225 _ _ t228 t243 _ ?side1 ?side2 ?side3 ?side4 A31.out).mono ?_); (case side1 => repeat (first | exact (Kd.R_reads' HO_5.out).2.2 | (with_reducible refine Kd.C_alloc ?_ _) | (with_reducible refine Kd.C_drewN ?_ _) | (with_reducible refine Kd.C_drew ?_))); (case side2 => exact (Kd.R_reads' HO_5.out).2.1); (case side3 => repeat (first | exact (Kd.R_reads' HO_6.out).2.2 | (with_reducible refine Kd.C_alloc ?_ _) | (with_reducible refine Kd.C_drewN ?_ _) | (with_reducible refine Kd.C_drew ?_))); (case side4 => exact (Kd.R_reads' HO_6.out).2.1); rintro e w32 ⟨rfl, hb⟩; have n0_ := Aside0.mk (Kd.R_below (by (with_reducible repeat (first | apply Kd.R_alloc | apply Kd.R_drewN | apply Kd.R_drew)); exact HO_5.out) hb); have n1_ := Aside0.mk (Kd.R_below (by (with_reducible repeat (first | apply Kd.R_alloc | apply Kd.R_drewN | apply Kd.R_drew)); exact HO_6.out) hb); have n2_ := Aside0.mk (below_step (by repeat (first | (with_reducible first | exact HB.out | apply below_alloc | apply pw_below_drewN | apply below_drew1) | exact HB.out)) hb); clear HO_5; clear HO_6; clear HB; have HO_5 := n0_; have HO_6 := n1_; have HB := n2_; clear n0_ n1_ n2_; (try clear hb); (try clear hb2); (try clear hk); (try clear hi))); try go_wp2_with (first | (go_at_call 9; (with_reducible refine (impl_IsLeaking.calls k2 _ _ t225 _ _ t228 t243 _ ?side1 ?side2 ?side3 ?side4 A31.out).mono ?_); (case side1 => repeat (first | exact (Kd.R_reads' HO_5.out).2.2 | (with_reducible refine Kd.C_alloc ?_ _) | (with_reducible refine Kd.C_drewN ?_ _) | (with_reducible refine Kd.C_drew ?_))); (case side2 => exact (Kd.R_reads' HO_5.out).2.1); (case side3 => repeat (first | exact (Kd.R_reads' HO_6.out).2.2 | (with_reducible refine Kd.C_alloc ?_ _) | (with_reducible refine Kd.C_drewN ?_ _) | (with_reducible refine Kd.C_drew ?_))); (case side4 => exact (Kd.R_reads' HO_6.out).2.1); rintro e w32 ⟨rfl, hb⟩; have n0_ := Aside0.mk (Kd.R_below (by (with_reducible repeat (first | apply Kd.R_alloc | apply Kd.R_drewN | apply Kd.R_drew)); exact HO_5.out) hb); have n1_ := Aside0.mk (Kd.R_below (by (with_reducible repeat (first | apply Kd.R_alloc | apply Kd.R_drewN | apply Kd.R_drew)); exact HO_6.out) hb); have n2_ := Aside0.mk (below_step (by repeat (first | (with_reducible first | exact HB.out | apply below_alloc | apply pw_below_drewN | apply below_drew1) | exact HB.out)) hb); clear HO_5; clear HO_6; clear HB; have HO_5 := n0_; have HO_6 := n1_; have HB := n2_; clear n0_ n1_ n2_; (try clear hb); (try clear hb2); (try clear hk); (try clear hi))))
              go_meet
              case rel => exact ⟨_, ((t243 != (decide (t239 > 0)))), (by first | rfl | (simp; done) | (simp [*]; done)), H', ⟨by have := HK1.out; have := HK2.out; first | omega | exact Nat.le_refl _⟩, ⟨by (with_reducible repeat (first | apply Kd.R_alloc | apply Kd.R_drewN | apply Kd.R_drew)); exact Kd.R_mono HO_5.out (fun _ hk => trivial)⟩, ⟨by repeat (first | (with_reducible first | exact HB.out | apply below_alloc | apply pw_below_drewN | apply below_drew1) | exact HB.out)⟩⟩
             ·
              rw [if_neg c30] at H
              have c30b0 : (t241 == 0) = false := beq_eq_false_iff_ne.mpr c30
              have c30b1 : (t241 != 0) = true := bne_iff_ne.mpr c30
              by_cases c33 : t241 = 6
              ·
               rw [if_pos c33] at H
               have c33b0 : (t241 == 6) = true := beq_iff_eq.mpr c33
               have c33b1 : (t241 != 6) = false := bne_eq_false_iff_eq.mpr c33
               clear c33
               replace H := Option.bind_eq_some_iff.mp H
               obtain ⟨t244, A340, H⟩ := H
               replace H : (laws_FnLeaks.j2 k2 t225 (t244 != false)) = some r := H
               have A34 := Aside0.mk A340
               clear A340
               have H' := Aside0.mk H
               clear H
               go_wp2_with (first | (go_at_call 9; (with_reducible refine (impl_IsLeaking.calls k2 _ _ t225 _ _ t228 t244 _ ?side1 ?side2 ?side3 ?side4 A34.out).mono ?_); (case side1 => repeat (first | exact (Kd.R_reads' HO_5.out).2.2 | (with_reducible refine Kd.C_alloc ?_ _) | (with_reducible refine Kd.C_drewN ?_ _) | (with_reducible refine Kd.C_drew ?_))); (case side2 => exact (Kd.R_reads' HO_5.out).2.1); (case side3 => repeat (first | exact (Kd.R_reads' HO_6.out).2.2 | (with_reducible refine Kd.C_alloc ?_ _) | (with_reducible refine Kd.C_drewN ?_ _) | (with_reducible refine Kd.C_drew ?_))); (case side4 => exact (Kd.R_reads' HO_6.out).2.1); rintro e w35 ⟨rfl, hb⟩; have n0_ := Aside0.mk (Kd.R_below (by (with_reducible repeat (first | apply Kd.R_alloc | apply Kd.R_drewN | apply Kd.R_drew)); exact HO_5.out) hb); have n1_ := Aside0.mk (Kd.R_below (by (with_reducible repeat (first | apply Kd.R_alloc | apply Kd.R_drewN | apply Kd.R_drew)); exact HO_6.out) hb); have n2_ := Aside0.mk (below_step (by repeat (first | (with_reducible first | exact HB.out | apply below_alloc | apply pw_below_drewN | apply below_drew1) | exact HB.out)) hb); clear HO_5; clear HO_6; clear HB; have HO_5 := n0_; have HO_6 := n1_; have HB := n2_; clear n0_ n1_ n2_; (try clear hb); (try clear hb2); (try clear hk); (try clear hi)))
               repeat (go_quiet (first | (go_at_call 9; (with_reducible refine (impl_IsLeaking.calls k2 _ _ t225 _ _ t228 t244 _ ?side1 ?side2 ?side3 ?side4 A34.out).mono ?_); (case side1 => repeat (first | exact (Kd.R_reads' HO_5.out).2.2 | (with_reducible refine Kd.C_alloc ?_ _) | (with_reducible refine Kd.C_drewN ?_ _) | (with_reducible refine Kd.C_drew ?_))); (case side2 => exact (Kd.R_reads' HO_5.out).2.1); (case side3 => repeat (first | exact (Kd.R_reads' HO_6.out).2.2 | (with_reducible refine Kd.C_alloc ?_ _) | (with_reducible refine Kd.C_drewN ?_ _) | (with_reducible refine Kd.C_drew ?_))); (case side4 => exact (Kd.R_reads' HO_6.out).2.1); rintro e w35 ⟨rfl, hb⟩; have n0_ := Aside0.mk (Kd.R_below (by (with_reducible repeat (first | apply Kd.R_alloc | apply Kd.R_drewN | apply Kd.R_drew)); exact HO_5.out) hb); have n1_ := Aside0.mk (Kd.R_below (by (with_reducible repeat (first | apply Kd.R_alloc | apply Kd.R_drewN | apply Kd.R_drew)); exact HO_6.out) hb); have n2_ := Aside0.mk (below_step (by repeat (first | (with_reducible first | exact HB.out | apply below_alloc | apply pw_below_drewN | apply below_drew1) | exact HB.out)) hb); clear HO_5; clear HO_6; clear HB; have HO_5 := n0_; have HO_6 := n1_; have HB := n2_; clear n0_ n1_ n2_; (try clear hb); (try clear hb2); (try clear hk); (try clear hi))); try go_wp2_with (first | (go_at_call 9; (with_reducible refine (impl_IsLeaking.calls k2 _ _ t225 _ _ t228 t244 _ ?side1 ?side2 ?side3 ?side4 A34.out).mono ?_); (case side1 => repeat (first | exact (Kd.R_reads' HO_5.out).2.2 | (with_reducible refine Kd.C_alloc ?_ _) | (with_reducible refine Kd.C_drewN ?_ _) | (with_reducible refine Kd.C_drew ?_))); (case side2 => exact (Kd.R_reads' HO_5.out).2.1); (case side3 => repeat (first | exact (Kd.R_reads' HO_6.out).2.2 | (with_reducible refine Kd.C_alloc ?_ _) | (with_reducible refine Kd.C_drewN ?_ _) | (with_reducible refine Kd.C_drew ?_))); (case side4 => exact (Kd.R_reads' HO_6.out).2.1); rintro e w35 ⟨rfl, hb⟩; have n0_ := Aside0.mk (Kd.R_below (by (with_reducible repeat (first | apply Kd.R_alloc | apply Kd.R_drewN | apply Kd.R_drew)); exact HO_5.out) hb); have n1_ := Aside0.mk (Kd.R_below (by (with_reducible repeat (first | apply Kd.R_alloc | apply Kd.R_drewN | apply Kd.R_drew)); exact HO_6.out) hb); have n2_ := Aside0.mk (below_step (by repeat (first | (with_reducible first | exact HB.out | apply below_alloc | apply pw_below_drewN | apply below_drew1) | exact HB.out)) hb); clear HO_5; clear HO_6; clear HB; have HO_5 := n0_; have HO_6 := n1_; have HB := n2_; clear n0_ n1_ n2_; (try clear hb); (try clear hb2); (try clear hk); (try clear hi))))
               go_meet
               case rel => exact ⟨_, ((t244 != false)), (by first | rfl | (simp; done) | (simp [*]; done)), H', ⟨by have := HK1.out; have := HK2.out; first | omega | exact Nat.le_refl _⟩, ⟨by (with_reducible repeat (first | apply Kd.R_alloc | apply Kd.R_drewN | apply Kd.R_drew)); exact Kd.R_mono HO_5.out (fun _ hk => trivial)⟩, ⟨by repeat (first | (with_reducible first | exact HB.out | apply below_alloc | apply pw_below_drewN | apply below_drew1) | exact HB.out)⟩⟩
              ·
               rw [if_neg c33] at H
               have c33b0 : (t241 == 6) = false := beq_eq_false_iff_ne.mpr c33
               have c33b1 : (t241 != 6) = true := bne_iff_ne.mpr c33
               have H' := Aside0.mk H
               clear H
               go_wp2
               repeat (go_quiet (fail); try go_wp2)
               go_meet
               case rel => exact ⟨_, (true), (by first | rfl | (simp; done) | (simp [*]; done)), H', ⟨by have := HK1.out; have := HK2.out; first | omega | exact Nat.le_refl _⟩, ⟨by (with_reducible repeat (first | apply Kd.R_alloc | apply Kd.R_drewN | apply Kd.R_drew)); exact Kd.R_mono HO_5.out (fun _ hk => trivial)⟩, ⟨by repeat (first | (with_reducible first | exact HB.out | apply below_alloc | apply pw_below_drewN | apply below_drew1) | exact HB.out)⟩⟩
          case rest =>
           clear HC21
           try clear c1
           try clear c2
           try clear p2
           try clear q2
           try clear hx2
           try clear c3
           try clear c4
           try clear p6
           try clear c9
           try clear c9b0
           try clear c10
           try clear c10b0
           try clear c15
           try clear c15b0
           try clear c16
           try clear c16b0
           try clear p23
           try clear q23
           try clear hx23
           try clear c24
           try clear c24b0
           try clear c25
           try clear c25b0
           try clear c25b1
           try clear c26
           try clear c26b0
           try clear c27
           try clear c27b0
           try clear c30
           try clear c30b0
           try clear c30b1
           try clear c33
           try clear c33b0
           try clear c33b1
           try clear hx231_0
           try clear hx231_1
           try clear hx231_2
           try clear hx233_0
           try clear hx233_1
           try clear hx233_2
           try clear hx234_0
           try clear hx234_1
           try clear hx234_2
           try clear hx235_0
           try clear hx235_1
           try clear hx235_2
           try clear hx237_0
           try clear hx237_1
           try clear hx237_2
           try clear hx238_0
           try clear hx238_1
           try clear hx238_2
           try clear p2
           try clear p231
           try clear p233
           try clear p234
           try clear p235
           try clear p237
           try clear p238
           try clear p6
           try clear q2
           try clear q231
           try clear q233
           try clear q234
           try clear q235
           try clear q237
           try clear q238
           obtain ⟨kq, x139_20, rfl, HA, HJ20, HO_5, HB⟩ := hcut
           cases kq with
           | zero => exact absurd HA.out (by simp [laws_FnLeaks.j2])
           | succ kj20 =>
            have H := HA.out
            clear HA
            simp only [laws_FnLeaks.j2] at H
            by_cases c36 : x139_20 = true
            ·
             subst c36
             have H1 : (some false) = some r := by rw [if_pos rfl] at H; exact H
             clear H
             have H := H1
             clear H1
             obtain rfl := Option.some.inj H
             go_wp2
             repeat (go_quiet (fail); try go_wp2)
             go_ret
             exact ⟨by first | rfl | (simp [errW_none, errW_some] <;> rfl) | (simp [*, errW_none, errW_some] <;> rfl), by repeat (first | (with_reducible first | exact HB.out | apply below_alloc | apply pw_below_drewN | apply below_drew1) | exact HB.out)⟩
            ·
             replace c36 := Bool.eq_false_iff.mpr c36
             subst c36
             have H1 : ((impl_ZoneBounds.f kj20 t225).bind fun bt245 => ((impl_WorstZone.f kj20 t225).bind fun bt249 => (if bt245.2 = 0 then (if (bt245.1.length : Int) = (mx 0 (wrap64 ((t225.length : Int) - 1))) then (if bt249.2.2 = 0 then (if bt249.1 < 0 then (laws_FnLeaks.j3 kj20 t225 bt245.1 bt249.1 bt249.2.1 bt249.2.2 true) else (laws_FnLeaks.j3 kj20 t225 bt245.1 bt249.1 bt249.2.1 bt249.2.2 (decide (bt249.1 ≥ (bt245.1.length : Int))))) else (if bt249.2.2 = 3 then (laws_FnLeaks.j3 kj20 t225 bt245.1 bt249.1 bt249.2.1 bt249.2.2 false) else (laws_FnLeaks.j3 kj20 t225 bt245.1 bt249.1 bt249.2.1 bt249.2.2 true))) else (laws_FnLeaks.j3 kj20 t225 bt245.1 bt249.1 bt249.2.1 bt249.2.2 true)) else (if bt245.2 = 6 then (some (bt249.2.2 == bt245.2)) else (some false))))) = some r := by rw [if_neg (show ¬ (false = true) by decide)] at H; exact H
             clear H
             have H := H1
             clear H1
             replace H := Option.bind_eq_some_iff.mp H
             obtain ⟨⟨t245, t246⟩, A370, H⟩ := H
             replace H : ((impl_WorstZone.f kj20 t225).bind fun bt249 => (if t246 = 0 then (if (t245.length : Int) = (mx 0 (wrap64 ((t225.length : Int) - 1))) then (if bt249.2.2 = 0 then (if bt249.1 < 0 then (laws_FnLeaks.j3 kj20 t225 t245 bt249.1 bt249.2.1 bt249.2.2 true) else (laws_FnLeaks.j3 kj20 t225 t245 bt249.1 bt249.2.1 bt249.2.2 (decide (bt249.1 ≥ (t245.length : Int))))) else (if bt249.2.2 = 3 then (laws_FnLeaks.j3 kj20 t225 t245 bt249.1 bt249.2.1 bt249.2.2 false) else (laws_FnLeaks.j3 kj20 t225 t245 bt249.1 bt249.2.1 bt249.2.2 true))) else (laws_FnLeaks.j3 kj20 t225 t245 bt249.1 bt249.2.1 bt249.2.2 true)) else (if t246 = 6 then (some (bt249.2.2 == t246)) else (some false)))) = some r := H
             have A37 := Aside0.mk A370
             clear A370
             replace H := Option.bind_eq_some_iff.mp H
             obtain ⟨⟨t249, t250, t251⟩, A380, H⟩ := H
             replace H : (if t246 = 0 then (if (t245.length : Int) = (mx 0 (wrap64 ((t225.length : Int) - 1))) then (if t251 = 0 then (if t249 < 0 then (laws_FnLeaks.j3 kj20 t225 t245 t249 t250 t251 true) else (laws_FnLeaks.j3 kj20 t225 t245 t249 t250 t251 (decide (t249 ≥ (t245.length : Int))))) else (if t251 = 3 then (laws_FnLeaks.j3 kj20 t225 t245 t249 t250 t251 false) else (laws_FnLeaks.j3 kj20 t225 t245 t249 t250 t251 true))) else (laws_FnLeaks.j3 kj20 t225 t245 t249 t250 t251 true)) else (if t246 = 6 then (some (t251 == t246)) else (some false))) = some r := H
             have A38 := Aside0.mk A380
             clear A380
             by_cases c39 : t246 = 0
             ·
              rw [if_pos c39] at H
              have c39b0 : (t246 == 0) = true := beq_iff_eq.mpr c39
              have c39b1 : (t246 != 0) = false := bne_eq_false_iff_eq.mpr c39
              clear c39
              have HC40 := Aside0.mk H
              clear H
              go_upto_region 23 with (first | (go_at_call 10; (with_reducible refine (impl_ZoneBounds.calls kj20 _ _ t225 t245 t246 _ ?side1 ?side2 A37.out).mono ?_); (case side1 => repeat (first | exact (Kd.R_reads' HO_5.out).2.2 | (with_reducible refine Kd.C_alloc ?_ _) | (with_reducible refine Kd.C_drewN ?_ _) | (with_reducible refine Kd.C_drew ?_))); (case side2 => exact (Kd.R_reads' HO_5.out).2.1); rintro e w41 ⟨v247, rfl, ho0, hb⟩; have n0_ := Aside0.mk (Kd.R_below (by (with_reducible repeat (first | apply Kd.R_alloc | apply Kd.R_drewN | apply Kd.R_drew)); exact HO_5.out) hb); have n1_ := Aside0.mk (Kd.S_lower ho0 (below_size (by repeat (first | (with_reducible first | exact HB.out | apply below_alloc | apply pw_below_drewN | apply below_drew1) | exact HB.out)))); have n2_ := Aside0.mk (below_step (by repeat (first | (with_reducible first | exact HB.out | apply below_alloc | apply pw_below_drewN | apply below_drew1) | exact HB.out)) hb); clear HO_5; clear HB; have HO_5 := n0_; have HO248 := n1_; have HB := n2_; clear n0_ n1_ n2_; (try clear hb); (try clear hb2); (try clear hk); (try clear hi); (try clear ho0)) | (go_at_call 11; (with_reducible refine (impl_WorstZone.calls kj20 _ _ t225 t249 t250 t251 _ ?side1 ?side2 A38.out).mono ?_); (case side1 => repeat (first | exact (Kd.R_reads' HO_5.out).2.2 | (with_reducible refine Kd.C_alloc ?_ _) | (with_reducible refine Kd.C_drewN ?_ _) | (with_reducible refine Kd.C_drew ?_))); (case side2 => exact (Kd.R_reads' HO_5.out).2.1); rintro e w42 ⟨rfl, hb⟩; have n0_ := Aside0.mk (Kd.R_below (by (with_reducible repeat (first | apply Kd.R_alloc | apply Kd.R_drewN | apply Kd.R_drew)); exact HO_5.out) hb); have n1_ := Aside0.mk (Kd.S_below (by (with_reducible repeat (first | apply Kd.S_alloc | apply Kd.S_drewN | apply Kd.S_drew)); exact HO248.out) hb); have n2_ := Aside0.mk (below_step (by repeat (first | (with_reducible first | exact HB.out | apply below_alloc | apply pw_below_drewN | apply below_drew1) | exact HB.out)) hb); clear HO_5; clear HO248; clear HB; have HO_5 := n0_; have HO248 := n1_; have HB := n2_; clear n0_ n1_ n2_; (try clear hb); (try clear hb2); (try clear hk); (try clear hi)))
              repeat (go_quiet (first | (go_at_call 10; (with_reducible refine (impl_ZoneBounds.calls kj20 _ _ t225 t245 t246 _ ?side1 ?side2 A37.out).mono ?_); (case side1 => repeat (first | exact (Kd.R_reads' HO_5.out).2.2 | (with_reducible refine Kd.C_alloc ?_ _) | (with_reducible refine Kd.C_drewN ?_ _) | (with_reducible refine Kd.C_drew ?_))); (case side2 => exact (Kd.R_reads' HO_5.out).2.1); rintro e w41 ⟨v247, rfl, ho0, hb⟩; have n0_ := Aside0.mk (Kd.R_below (by (with_reducible repeat (first | apply Kd.R_alloc | apply Kd.R_drewN | apply Kd.R_drew)); exact HO_5.out) hb); have n1_ := Aside0.mk (Kd.S_lower ho0 (below_size (by repeat (first | (with_reducible first | exact HB.out | apply below_alloc | apply pw_below_drewN | apply below_drew1) | exact HB.out)))); have n2_ := Aside0.mk (below_step (by repeat (first | (with_reducible first | exact HB.out | apply below_alloc | apply pw_below_drewN | apply below_drew1) | exact HB.out)) hb); clear HO_5; clear HB; have HO_5 := n0_; have HO248 := n1_; have HB := n2_; clear n0_ n1_ n2_; (try clear hb); (try clear hb2); (try clear hk); (try clear hi); (try clear ho0)) | (go_at_call 11; (with_reducible refine (impl_WorstZone.calls kj20 _ _ t225 t249 t250 t251 _ ?side1 ?side2 A38.out).mono ?_); (case side1 => repeat (first | exact (Kd.R_reads' HO_5.out).2.2 | (with_reducible refine Kd.C_alloc ?_ _) | (with_reducible refine Kd.C_drewN ?_ _) | (with_reducible refine Kd.C_drew ?_))); (case side2 => exact (Kd.R_reads' HO_5.out).2.1); rintro e w42 ⟨rfl, hb⟩; have n0_ := Aside0.mk (Kd.R_below (by (with_reducible repeat (first | apply Kd.R_alloc | apply Kd.R_drewN | apply Kd.R_drew)); exact HO_5.out) hb); have n1_ := Aside0.mk (Kd.S_below (by (with_reducible repeat (first | apply Kd.S_alloc | apply Kd.S_drewN | apply Kd.S_drew)); exact HO248.out) hb); have n2_ := Aside0.mk (below_step (by repeat (first | (with_reducible first | exact HB.out | apply below_alloc | apply pw_below_drewN | apply below_drew1) | exact HB.out)) hb); clear HO_5; clear HO248; clear HB; have HO_5 := n0_; have HO248 := n1_; have HB := n2_; clear n0_ n1_ n2_; (try clear hb); (try clear hb2); (try clear hk); (try clear hi))); go_upto_region 23 with (first | (go_at_call 10; (with_reducible refine (impl_ZoneBounds.calls kj20 _ _ t225 t245 t246 _ ?side1 ?side2 A37.out).mono ?_); (case side1 => repeat (first | exact (Kd.R_reads' HO_5.out).2.2 | (with_reducible refine Kd.C_alloc ?_ _) | (with_reducible refine Kd.C_drewN ?_ _) | (with_reducible refine Kd.C_drew ?_))); (case side2 => exact (Kd.R_reads' HO_5.out).2.1); rintro e w41 ⟨v247, rfl, ho0, hb⟩; have n0_ := Aside0.mk (Kd.R_below (by (with_reducible repeat (first | apply Kd.R_alloc | apply Kd.R_drewN | apply Kd.R_drew)); exact HO_5.out) hb); have n1_ := Aside0.mk (Kd.S_lower ho0 (below_size (by repeat (first | (with_reducible first | exact HB.out | apply below_alloc | apply pw_below_drewN | apply below_drew1) | exact HB.out)))); have n2_ := Aside0.mk (below_step (by repeat (first | (with_reducible first | exact HB.out | apply below_alloc | apply pw_below_drewN | apply below_drew1) | exact HB.out)) hb); clear HO_5; clear HB; have HO_5 := n0_; have HO248 := n1_; have HB := n2_; clear n0_ n1_ n2_; (try clear hb); (try clear hb2); (try clear hk); (try clear hi); (try clear ho0)) | (go_at_call 11; (with_reducible refine (impl_WorstZone.calls kj20 _ _ t225 t249 t250 t251 _ ?side1 ?side2 A38.out).mono ?_); (case side1 => repeat (first | exact (Kd.R_reads' HO_5.out).2.2 | (with_reducible refine Kd.C_alloc ?_ _) | (with_reducible refine Kd.C_drewN ?_ _) | (with_reducible refine Kd.C_drew ?_))); (case side2 => exact (Kd.R_reads' HO_5.out).2.1); rintro e w42 ⟨rfl, hb⟩; have n0_ := Aside0.mk (Kd.R_below (by (with_reducible repeat (first | apply Kd.R_alloc | apply Kd.R_drewN | apply Kd.R_drew)); exact HO_5.out) hb); have n1_ := Aside0.mk (Kd.S_below (by (with_reducible repeat (first | apply Kd.S_alloc | apply Kd.S_drewN | apply Kd.S_drew)); exact HO248.out) hb); have n2_ := Aside0.mk (below_step (by repeat (first | (with_reducible first | exact HB.out | apply below_alloc | apply pw_below_drewN | apply below_drew1) | exact HB.out)) hb); clear HO_5; clear HO248; clear HB; have HO_5 := n0_; have HO248 := n1_; have HB := n2_; clear n0_ n1_ n2_; (try clear hb); (try clear hb2); (try clear hk); (try clear hi))))
              (try simp only [Act.put, List.setIfInBounds_toArray, List.set_cons_zero, List.set_cons_succ])
              go_cut [188] (fun v188 wc => ∃ (kq : Nat) (x188_39 : Bool), v188 = .bool x188_39 ∧ Aside0 (laws_FnLeaks.j3 kq t225 t245 t249 t250 t251 x188_39 = some r) ∧ Aside0 (kq ≤ kj20) ∧ Aside0 (Kd.R k28 28 wc w.heap.size (fun _ => True) (.slice Ao14 t225.length co14) t225) ∧ Aside0 (Kd.S (Kd.slice 2 (Kd.int .i64)) 36 wc w.heap.size (fun _ => True) v247 t245) ∧ Aside0 (Below w.heap.size w wc))
              case first =>
               as_aux_lemma =>
                have H := HC40.out
                clear HC40
                obtain ⟨ji43, hji43⟩ : ∃ j_ : Int, (mx 0 (wrap64 ((t225.length : Int) - 1))) = j_ := ⟨_, rfl⟩
                replace H : (if (t245.length : Int) = (ji43) then (if t251 = 0 then (if t249 < 0 then (laws_FnLeaks.j3 kj20 t225 t245 t249 t250 t251 true) else (laws_FnLeaks.j3 kj20 t225 t245 t249 t250 t251 (decide (t249 ≥ (t245.length : Int))))) else (if t251 = 3 then (laws_FnLeaks.j3 kj20 t225 t245 t249 t250 t251 false) else (laws_FnLeaks.j3 kj20 t225 t245 t249 t250 t251 true))) else (laws_FnLeaks.j3 kj20 t225 t245 t249 t250 t251 true)) = some r := by first | (rw [hji43] at H; exact H) | (simp only [hji43] at H ⊢; exact H)
                have hji43_ : (if 0 < (wrap64 ((t225.length : Int) - 1)) then (wrap64 ((t225.length : Int) - 1)) else 0) = ji43 := hji43
                by_cases c44 : (t245.length : Int) = (ji43)
                ·
                 rw [if_pos c44] at H
                 have c44b0 : ((t245.length : Int) == (ji43)) = true := beq_iff_eq.mpr c44
                 have c44b1 : ((t245.length : Int) != (ji43)) = false := bne_eq_false_iff_eq.mpr c44
                 clear c44
                 (first | rw [c44b0] | (simp only [i64_w, i32_w]; rw [c44b0]) | skip)
                 by_cases c45 : t251 = 0
                 ·
                  rw [if_pos c45] at H
                  have c45b0 : (t251 == 0) = true := beq_iff_eq.mpr c45
                  have c45b1 : (t251 != 0) = false := bne_eq_false_iff_eq.mpr c45
                  clear c45
                  by_cases c46 : t249 < 0
                  ·
                   rw [if_pos c46] at H
                   have c46b0 : decide (t249 < 0) = true := decide_eq_true c46
                   clear c46
                   have H' := Aside0.mk H
                   clear H
                   obtain ⟨Ao47, co47, eo47⟩ := Kd.S_slice HO248.out
                   subst eo47
                   go_wp2
                   repeat (go_quiet (fail); try go_wp2)
                   go_meet
                   case rel => exact ⟨_, (true), (by first | rfl | (simp; done) | (simp [*]; done)), H', ⟨by have := HK1.out; have := HK2.out; have := HJ20.out; first | omega | exact Nat.le_refl _⟩, ⟨by (with_reducible repeat (first | apply Kd.R_alloc | apply Kd.R_drewN | apply Kd.R_drew)); exact HO_5.out⟩, ⟨by (with_reducible repeat (first | apply Kd.S_alloc | apply Kd.S_drewN | apply Kd.S_drew)); exact HO248.out⟩, ⟨by repeat (first | (with_reducible first | exact HB.out | apply below_alloc | apply pw_below_drewN | apply below_drew1) | exact HB.out)⟩⟩
                  ·
                   rw [if_neg c46] at H
                   have c46b0 : decide (t249 < 0) = false := decide_eq_false c46
                   clear c46
                   have H' := Aside0.mk H
                   clear H
                   obtain ⟨Ao48, co48, eo48⟩ := Kd.S_slice HO248.out
                   subst eo48
                   go_wp2
                   repeat (go_quiet (fail); try go_wp2)
                   go_meet
                   case rel => exact ⟨_, (decide (t249 ≥ (t245.length : Int))), (by first | rfl | (simp; done) | (simp [*]; done)), H', ⟨by have := HK1.out; have := HK2.out; have := HJ20.out; first | omega | exact Nat.le_refl _⟩, ⟨by (with_reducible repeat (first | apply Kd.R_alloc | apply Kd.R_drewN | apply Kd.R_drew)); exact HO_5.out⟩, ⟨by (with_reducible repeat (first | apply Kd.S_alloc | apply Kd.S_drewN | apply Kd.S_drew)); exact HO248.out⟩, ⟨by repeat (first | (with_reducible first | exact HB.out | apply below_alloc | apply pw_below_drewN | apply below_drew1) | exact HB.out)⟩⟩
                 ·
                  rw [if_neg c45] at H
                  have c45b0 : (t251 == 0) = false := beq_eq_false_iff_ne.mpr c45
                  have c45b1 : (t251 != 0) = true := bne_iff_ne.mpr c45
                  by_cases c49 : t251 = 3
                  ·
                   rw [if_pos c49] at H
                   have c49b0 : (t251 == 3) = true := beq_iff_eq.mpr c49
                   have c49b1 : (t251 != 3) = false := bne_eq_false_iff_eq.mpr c49
                   clear c49
                   have H' := Aside0.mk H
                   clear H
                   obtain ⟨Ao50, co50, eo50⟩ := Kd.S_slice HO248.out
                   subst eo50
                   go_wp2
                   repeat (go_quiet (fail); try go_wp2)
                   go_meet
                   case rel => exact ⟨_, (false), (by first | rfl | (simp; done) | (simp [*]; done)), H', ⟨by have := HK1.out; have := HK2.out; have := HJ20.out; first | omega | exact Nat.le_refl _⟩, ⟨by (with_reducible repeat (first | apply Kd.R_alloc | apply Kd.R_drewN | apply Kd.R_drew)); exact HO_5.out⟩, ⟨by (with_reducible repeat (first | apply Kd.S_alloc | apply Kd.S_drewN | apply Kd.S_drew)); exact HO248.out⟩, ⟨by repeat (first | (with_reducible first | exact HB.out | apply below_alloc | apply pw_below_drewN | apply below_drew1) | exact HB.out)⟩⟩
                  ·
                   rw [if_neg c49] at H
                   have c49b0 : (t251 == 3) = false := beq_eq_false_iff_ne.mpr c49
                   have c49b1 : (t251 != 3) = true := bne_iff_ne.mpr c49
                   have H' := Aside0.mk H
                   clear H
                   obtain ⟨Ao51, co51, eo51⟩ := Kd.S_slice HO248.out
                   subst eo51
                   go_wp2
                   repeat (go_quiet (fail); try go_wp2)
                   go_meet
                   case rel => exact ⟨_, (true), (by first | rfl | (simp; done) | (simp [*]; done)), H', ⟨by have := HK1.out; have := HK2.out; have := HJ20.out; first | omega | exact Nat.le_refl _⟩, ⟨by (with_reducible repeat (first | apply Kd.R_alloc | apply Kd.R_drewN | apply Kd.R_drew)); exact HO_5.out⟩, ⟨by (with_reducible repeat (first | apply Kd.S_alloc | apply Kd.S_drewN | apply Kd.S_drew)); exact HO248.out⟩, ⟨by repeat (first | (with_reducible first | exact HB.out | apply below_alloc | apply pw_below_drewN | apply below_drew1) | exact HB.out)⟩⟩
                ·
                 rw [if_neg c44] at H
                 have c44b0 : ((t245.length : Int) == (ji43)) = false := beq_eq_false_iff_ne.mpr c44
                 have c44b1 : ((t245.length : Int) != (ji43)) = true := bne_iff_ne.mpr c44
                 (first | rw [c44b0] | (simp only [i64_w, i32_w]; rw [c44b0]) | skip)
                 have H' := Aside0.mk H
                 clear H
                 obtain ⟨Ao52, co52, eo52⟩ := Kd.S_slice HO248.out
                 subst eo52
                 go_wp2
                 repeat (go_quiet (fail); try go_wp2)
                 go_meet
                 case rel => exact ⟨_, (true), (by first | rfl | (simp; done) | (simp [*]; done)), H', ⟨by have := HK1.out; have := HK2.out; have := HJ20.out; first | omega | exact Nat.le_refl _⟩, ⟨by (with_reducible repeat (first | apply Kd.R_alloc | apply Kd.R_drewN | apply Kd.R_drew)); exact HO_5.out⟩, ⟨by (with_reducible repeat (first | apply Kd.S_alloc | apply Kd.S_drewN | apply Kd.S_drew)); exact HO248.out⟩, ⟨by repeat (first | (with_reducible first | exact HB.out | apply below_alloc | apply pw_below_drewN | apply below_drew1) | exact HB.out)⟩⟩
              case rest =>
               clear HC40
               try clear c1
               try clear c2
               try clear p2
               try clear q2
               try clear hx2
               try clear c3
               try clear c4
               try clear p6
               try clear c9
               try clear c9b0
               try clear c10
               try clear c10b0
               try clear c15
               try clear c15b0
               try clear c16
               try clear c16b0
               try clear p23
               try clear q23
               try clear hx23
               try clear c24
               try clear c24b0
               try clear c25
               try clear c25b0
               try clear c25b1
               try clear c26
               try clear c26b0
               try clear c27
               try clear c27b0
               try clear c30
               try clear c30b0
               try clear c30b1
               try clear c33
               try clear c33b0
               try clear c33b1
               try clear c36
               try clear c39
               try clear c39b0
               try clear c39b1
               try clear c44
               try clear c44b0
               try clear c44b1
               try clear c45
               try clear c45b0
               try clear c45b1
               try clear c46
               try clear c46b0
               try clear c49
               try clear c49b0
               try clear c49b1
               try clear hx231_0
               try clear hx231_1
               try clear hx231_2
               try clear hx233_0
               try clear hx233_1
               try clear hx233_2
               try clear hx234_0
               try clear hx234_1
               try clear hx234_2
               try clear hx235_0
               try clear hx235_1
               try clear hx235_2
               try clear hx237_0
               try clear hx237_1
               try clear hx237_2
               try clear hx238_0
               try clear hx238_1
               try clear hx238_2
               try clear p2
               try clear p23
               try clear p231
               try clear p233
               try clear p234
               try clear p235
               try clear p237
               try clear p238
               try clear p6
               try clear q2
               try clear q23
               try clear q231
               try clear q233
               try clear q234
               try clear q235
               try clear q237
               try clear q238
               obtain ⟨kq, x188_39, rfl, HA, HJ39, HO_5, HO_15, HB⟩ := hcut
               cases kq with
               | zero => exact absurd HA.out (by simp [laws_FnLeaks.j3])
               | succ kj39 =>
                have H := HA.out
                clear HA
                simp only [laws_FnLeaks.j3] at H
                by_cases c53 : x188_39 = true
                ·
                 subst c53
                 have H1 : (some false) = some r := by rw [if_pos rfl] at H; exact H
                 clear H
                 have H := H1
                 clear H1
                 obtain rfl := Option.some.inj H
                 go_wp2
                 repeat (go_quiet (fail); try go_wp2)
                 go_ret
                 exact ⟨by first | rfl | (simp [errW_none, errW_some] <;> rfl) | (simp [*, errW_none, errW_some] <;> rfl), by repeat (first | (with_reducible first | exact HB.out | apply below_alloc | apply pw_below_drewN | apply below_drew1) | exact HB.out)⟩
                ·
                 replace c53 := Bool.eq_false_iff.mpr c53
                 subst c53
                 have H1 : (laws_FnLeaks.l2 kj39 t225 t245 t249 t250 t251 0) = some r := by rw [if_neg (show ¬ (false = true) by decide)] at H; exact H
                 clear H
                 have H := H1
                 clear H1
                 have H' := Aside0.mk H
                 clear H
                 go_wp2
                 repeat (go_quiet (fail); try go_wp2)
                 go_loopg [20] kj39 (fun kq v20 w' => ∃ (x20_5 : Int), v20 = .int .i64 x20_5 ∧ Aside0 (laws_FnLeaks.l2 kq t225 t245 t249 t250 t251 x20_5 = some r) ∧ Aside0 (kq ≤ kj39) ∧ Aside0 (Kd.R k28 28 w' w.heap.size (fun _ => True) (.slice Ao14 t225.length co14) t225) ∧ Aside0 (Kd.S (Kd.slice 2 (Kd.int .i64)) 36 w' w.heap.size (fun _ => True) v247 t245) ∧ Aside0 (Below w.heap.size w w'))
                 case atStart => exact ⟨(0), (by first | rfl | (simp; done) | (simp [*]; done)), H', ⟨Nat.le_refl _⟩, ⟨by (with_reducible repeat (first | apply Kd.R_alloc | apply Kd.R_drewN | apply Kd.R_drew)); exact HO_5.out⟩, ⟨by (with_reducible repeat (first | apply Kd.S_alloc | apply Kd.S_drewN | apply Kd.S_drew)); exact HO_15.out⟩, ⟨by repeat (first | (with_reducible first | exact HB.out | apply below_alloc | apply pw_below_drewN | apply below_drew1) | exact HB.out)⟩⟩
                 case round =>
                  as_aux_lemma =>
                   clear H'
                   try clear c1
                   try clear c2
                   try clear p2
                   try clear q2
                   try clear hx2
                   try clear c3
                   try clear c4
                   try clear c5
                   try clear p6
                   try clear c9
                   try clear c9b0
                   try clear c10
                   try clear c10b0
                   try clear c15
                   try clear c15b0
                   try clear c16
                   try clear c16b0
                   try clear p23
                   try clear q23
                   try clear hx23
                   try clear c24
                   try clear c24b0
                   try clear c25
                   try clear c25b0
                   try clear c25b1
                   try clear c26
                   try clear c26b0
                   try clear c27
                   try clear c27b0
                   try clear c30
                   try clear c30b0
                   try clear c30b1
                   try clear c33
                   try clear c33b0
                   try clear c33b1
                   try clear c36
                   try clear c39
                   try clear c39b0
                   try clear c39b1
                   try clear c44
                   try clear c44b0
                   try clear c44b1
                   try clear c45
                   try clear c45b0
                   try clear c45b1
                   try clear c46
                   try clear c46b0
                   try clear c49
                   try clear c49b0
                   try clear c49b1
                   try clear c53
                   try clear hx231_0
                   try clear hx231_1
                   try clear hx231_2
                   try clear hx233_0
                   try clear hx233_1
                   try clear hx233_2
                   try clear hx234_0
                   try clear hx234_1
                   try clear hx234_2
                   try clear hx235_0
                   try clear hx235_1
                   try clear hx235_2
                   try clear hx237_0
                   try clear hx237_1
                   try clear hx237_2
                   try clear hx238_0
                   try clear hx238_1
                   try clear hx238_2
                   try clear p2
                   try clear p23
                   try clear p231
                   try clear p233
                   try clear p234
                   try clear p235
                   try clear p237
                   try clear p238
                   try clear p6
                   try clear q2
                   try clear q23
                   try clear q231
                   try clear q233
                   try clear q234
                   try clear q235
                   try clear q237
                   try clear q238
                   obtain ⟨x20_5, rfl, HA, HK5, HO_5, HO_15, HB⟩ := hrel
                   cases gk with
                   | zero => exact absurd HA.out (by simp [laws_FnLeaks.l2])
                   | succ k5 =>
                    have H := HA.out
                    clear HA
                    simp only [laws_FnLeaks.l2] at H
                    by_cases c54 : x20_5 < (t245.length : Int)
                    ·
                     rw [if_pos c54] at H
                     have c54b0 : decide (x20_5 < (t245.length : Int)) = true := decide_eq_true c54
                     clear c54
                     by_cases c55 : 0 ≤ x20_5
                     ·
                      rw [if_pos c55] at H
                      have c55b0 : decide (0 ≤ x20_5) = true := decide_eq_true c55
                      clear c55
                      by_cases c56 : ((rd_L6 t245 x20_5).length : Int) = 2
                      ·
                       rw [if_pos c56] at H
                       have c56b0 : (((rd_L6 t245 x20_5).length : Int) == 2) = true := beq_iff_eq.mpr c56
                       have c56b1 : (((rd_L6 t245 x20_5).length : Int) != 2) = false := bne_eq_false_iff_eq.mpr c56
                       clear c56
                       by_cases c57 : 0 < ((rd_L6 t245 x20_5).length : Int)
                       ·
                        rw [if_pos c57] at H
                        have c57b0 : decide (0 < ((rd_L6 t245 x20_5).length : Int)) = true := decide_eq_true c57
                        have c57b1 : decide (0 < (rd_L6 t245 x20_5).length) = true := decide_eq_true (by omega)
                        clear c57
                        by_cases c58 : (rd (rd_L6 t245 x20_5) 0) < 0
                        ·
                         rw [if_pos c58] at H
                         have c58b0 : decide ((rd (rd_L6 t245 x20_5) 0) < 0) = true := decide_eq_true c58
                         clear c58
                         obtain rfl := Option.some.inj H
                         obtain ⟨Ao59, co59, eo59⟩ := Kd.S_slice HO_15.out
                         subst eo59
                         have p252 : 0 ≤ (x20_5 : Int) := of_decide_eq_true (by first | (with_reducible assumption) | assumption)
                         have q252 : x20_5 < (t245.length : Int) := of_decide_eq_true (by first | (with_reducible assumption) | assumption)
                         obtain ⟨ad252, A252_0, c252_0, e252, hx252_0, hl252_0, hi252_0⟩ := at_L6 (Kd.S_reads' HO_15.out).2.2 x20_5 p252 q252
                         cases e252
                         obtain ⟨ce252, hce252, hMe252, hcc252⟩ := Kd.S_get HO_15.out [] x20_5 p252 (by first | exact q252 | exact of_decide_eq_true (by first | (with_reducible assumption) | assumption) | (have e_ := (Kd.S_reads' HO_15.out).1; omega))
                         obtain ⟨ve252_0, rfl, ge252_0⟩ := hMe252
                         have hv252_0 := hcc252 0 _ rfl
                         rw [Nat.add_zero, show ((Kd.slice 2 (Kd.int .i64))).sz = 1 from rfl, Nat.mul_one] at hv252_0
                         replace hv252_0 := Option.some.inj (hv252_0.symm.trans hx252_0)
                         rw [hv252_0] at ge252_0
                         have HL252_0 := Aside0.mk (show Kd.R (Kd.int .i64) 2 _ _ _ _ (rd_L6 t245 x20_5) from ge252_0)
                         clear hv252_0 ge252_0
                         clear hcc252 hce252
                         have HR252_0 := Aside0.mk hi252_0
                         have HC252_0 := Aside0.mk hl252_0
                         clear hi252_0 hl252_0
                         replace p252 := eq_true p252
                         replace q252 := eq_true q252
                         have p253 : 0 ≤ (x20_5 : Int) := of_decide_eq_true (by first | (with_reducible assumption) | assumption)
                         have q253 : x20_5 < (t245.length : Int) := of_decide_eq_true (by first | (with_reducible assumption) | assumption)
                         obtain ⟨ad253, A253_0, c253_0, e253, hx253_0, hl253_0, hi253_0⟩ := at_L6 (Kd.S_reads' HO_15.out).2.2 x20_5 p253 q253
                         obtain rfl : ad252 = ad253 := (by injection e253)
                         obtain ⟨ce253, hce253, hMe253, hcc253⟩ := Kd.S_get HO_15.out [] x20_5 p253 (by first | exact q253 | exact of_decide_eq_true (by first | (with_reducible assumption) | assumption) | (have e_ := (Kd.S_reads' HO_15.out).1; omega))
                         obtain ⟨ve253_0, rfl, ge253_0⟩ := hMe253
                         have hv253_0 := hcc253 0 _ rfl
                         rw [Nat.add_zero, show ((Kd.slice 2 (Kd.int .i64))).sz = 1 from rfl, Nat.mul_one] at hv253_0
                         replace hv253_0 := Option.some.inj (hv253_0.symm.trans hx253_0)
                         rw [hv253_0] at ge253_0
                         have HL253_0 := Aside0.mk (show Kd.R (Kd.int .i64) 2 _ _ _ _ (rd_L6 t245 x20_5) from ge253_0)
                         clear hv253_0 ge253_0
                         clear hcc253 hce253
                         have HR253_0 := Aside0.mk hi253_0
                         have HC253_0 := Aside0.mk hl253_0
                         clear hi253_0 hl253_0
                         replace p253 := eq_true p253
                         replace q253 := eq_true q253
                         have ea_ := Option.some.inj (hx252_0.symm.trans hx253_0)
                         injection ea_ with ea_ en_ ec_
                         (try subst ea_)
                         (try subst ec_)
                         clear en_
                         have p254 : 0 ≤ (0 : Int) := (by omega)
                         have q254 : 0 < ((rd_L6 t245 x20_5).length : Int) := of_decide_eq_true (by first | (with_reducible assumption) | assumption)
                         obtain ⟨ad254, e254, hx254_0⟩ := Kd.at_int (by repeat (first | (with_reducible exact HR253_0.out) | (with_reducible refine Kd.C_alloc ?_ _) | (with_reducible refine Kd.C_drewN ?_ _) | (with_reducible refine Kd.C_drew ?_) | exact HR253_0.out)) 0 p254 q254
                         cases e254
                         have qi254 : (0 < (rd_L6 t245 x20_5).length) = True := eq_true (by omega)
                         (try rw [show ((0 : Int)).toNat = 0 from rfl] at hx254_0)
                         (try rw [Addr.add_zero'] at hx254_0)
                         replace p254 := eq_true p254
                         replace q254 := eq_true q254
                         as_aux_lemma =>
                          go_wp2
                          repeat (go_quiet (fail); try go_wp2)
                          go_ret
                          exact ⟨by first | rfl | (simp [errW_none, errW_some] <;> rfl) | (simp [*, errW_none, errW_some] <;> rfl), by repeat (first | (with_reducible first | exact HB.out | apply below_alloc | apply pw_below_drewN | apply below_drew1) | exact HB.out)⟩
                        ·
                         rw [if_neg c58] at H
                         have c58b0 : decide ((rd (rd_L6 t245 x20_5) 0) < 0) = false := decide_eq_false c58
                         clear c58
                         by_cases c60 : 1 < ((rd_L6 t245 x20_5).length : Int)
                         ·
                          rw [if_pos c60] at H
                          have c60b0 : decide (1 < ((rd_L6 t245 x20_5).length : Int)) = true := decide_eq_true c60
                          have c60b1 : decide (1 < (rd_L6 t245 x20_5).length) = true := decide_eq_true (by omega)
                          clear c60
                          by_cases c61 : (rd (rd_L6 t245 x20_5) 1) < (rd (rd_L6 t245 x20_5) 0)
                          ·
                           rw [if_pos c61] at H
                           have c61b0 : decide ((rd (rd_L6 t245 x20_5) 1) < (rd (rd_L6 t245 x20_5) 0)) = true := decide_eq_true c61
                           clear c61
                           obtain rfl := Option.some.inj H
                           obtain ⟨Ao62, co62, eo62⟩ := Kd.S_slice HO_15.out
                           subst eo62
                           have p252 : 0 ≤ (x20_5 : Int) := of_decide_eq_true (by first | (with_reducible assumption) | assumption)
                           have q252 : x20_5 < (t245.length : Int) := of_decide_eq_true (by first | (with_reducible assumption) | assumption)
                           obtain ⟨ad252, A252_0, c252_0, e252, hx252_0, hl252_0, hi252_0⟩ := at_L6 (Kd.S_reads' HO_15.out).2.2 x20_5 p252 q252
                           cases e252
                           obtain ⟨ce252, hce252, hMe252, hcc252⟩ := Kd.S_get HO_15.out [] x20_5 p252 (by first | exact q252 | exact of_decide_eq_true (by first | (with_reducible assumption) | assumption) | (have e_ := (Kd.S_reads' HO_15.out).1; omega))
                           obtain ⟨ve252_0, rfl, ge252_0⟩ := hMe252
                           have hv252_0 := hcc252 0 _ rfl
                           rw [Nat.add_zero, show ((Kd.slice 2 (Kd.int .i64))).sz = 1 from rfl, Nat.mul_one] at hv252_0
                           replace hv252_0 := Option.some.inj (hv252_0.symm.trans hx252_0)
                           rw [hv252_0] at ge252_0
                           have HL252_0 := Aside0.mk (show Kd.R (Kd.int .i64) 2 _ _ _ _ (rd_L6 t245 x20_5) from ge252_0)
                           clear hv252_0 ge252_0
                           clear hcc252 hce252
                           have HR252_0 := Aside0.mk hi252_0
                           have HC252_0 := Aside0.mk hl252_0
                           clear hi252_0 hl252_0
                           replace p252 := eq_true p252
                           replace q252 := eq_true q252
                           have p253 : 0 ≤ (x20_5 : Int) := of_decide_eq_true (by first | (with_reducible assumption) | assumption)
                           have q253 : x20_5 < (t245.length : Int) := of_decide_eq_true (by first | (with_reducible assumption) | assumption)
                           obtain ⟨ad253, A253_0, c253_0, e253, hx253_0, hl253_0, hi253_0⟩ := at_L6 (Kd.S_reads' HO_15.out).2.2 x20_5 p253 q253
                           obtain rfl : ad252 = ad253 := (by injection e253)
                           obtain ⟨ce253, hce253, hMe253, hcc253⟩ := Kd.S_get HO_15.out [] x20_5 p253 (by first | exact q253 | exact of_decide_eq_true (by first | (with_reducible assumption) | assumption) | (have e_ := (Kd.S_reads' HO_15.out).1; omega))
                           obtain ⟨ve253_0, rfl, ge253_0⟩ := hMe253
                           have hv253_0 := hcc253 0 _ rfl
                           rw [Nat.add_zero, show ((Kd.slice 2 (Kd.int .i64))).sz = 1 from rfl, Nat.mul_one] at hv253_0
                           replace hv253_0 := Option.some.inj (hv253_0.symm.trans hx253_0)
                           rw [hv253_0] at ge253_0
                           have HL253_0 := Aside0.mk (show Kd.R (Kd.int .i64) 2 _ _ _ _ (rd_L6 t245 x20_5) from ge253_0)
                           clear hv253_0 ge253_0
                           clear hcc253 hce253
                           have HR253_0 := Aside0.mk hi253_0
                           have HC253_0 := Aside0.mk hl253_0
                           clear hi253_0 hl253_0
                           replace p253 := eq_true p253
                           replace q253 := eq_true q253
                           have ea_ := Option.some.inj (hx252_0.symm.trans hx253_0)
                           injection ea_ with ea_ en_ ec_
                           (try subst ea_)
                           (try subst ec_)
                           clear en_
                           have p254 : 0 ≤ (0 : Int) := (by omega)
                           have q254 : 0 < ((rd_L6 t245 x20_5).length : Int) := of_decide_eq_true (by first | (with_reducible assumption) | assumption)
                           obtain ⟨ad254, e254, hx254_0⟩ := Kd.at_int (by repeat (first | (with_reducible exact HR253_0.out) | (with_reducible refine Kd.C_alloc ?_ _) | (with_reducible refine Kd.C_drewN ?_ _) | (with_reducible refine Kd.C_drew ?_) | exact HR253_0.out)) 0 p254 q254
                           cases e254
                           have qi254 : (0 < (rd_L6 t245 x20_5).length) = True := eq_true (by omega)
                           (try rw [show ((0 : Int)).toNat = 0 from rfl] at hx254_0)
                           (try rw [Addr.add_zero'] at hx254_0)
                           replace p254 := eq_true p254
                           replace q254 := eq_true q254
                           have p255 : 0 ≤ (x20_5 : Int) := of_decide_eq_true (by first | (with_reducible assumption) | assumption)
                           have q255 : x20_5 < (t245.length : Int) := of_decide_eq_true (by first | (with_reducible assumption) | assumption)
                           obtain ⟨ad255, A255_0, c255_0, e255, hx255_0, hl255_0, hi255_0⟩ := at_L6 (Kd.S_reads' HO_15.out).2.2 x20_5 p255 q255
                           obtain rfl : ad252 = ad255 := (by injection e255)
                           obtain ⟨ce255, hce255, hMe255, hcc255⟩ := Kd.S_get HO_15.out [] x20_5 p255 (by first | exact q255 | exact of_decide_eq_true (by first | (with_reducible assumption) | assumption) | (have e_ := (Kd.S_reads' HO_15.out).1; omega))
                           obtain ⟨ve255_0, rfl, ge255_0⟩ := hMe255
                           have hv255_0 := hcc255 0 _ rfl
                           rw [Nat.add_zero, show ((Kd.slice 2 (Kd.int .i64))).sz = 1 from rfl, Nat.mul_one] at hv255_0
                           replace hv255_0 := Option.some.inj (hv255_0.symm.trans hx255_0)
                           rw [hv255_0] at ge255_0
                           have HL255_0 := Aside0.mk (show Kd.R (Kd.int .i64) 2 _ _ _ _ (rd_L6 t245 x20_5) from ge255_0)
                           clear hv255_0 ge255_0
                           clear hcc255 hce255
                           have HR255_0 := Aside0.mk hi255_0
                           have HC255_0 := Aside0.mk hl255_0
                           clear hi255_0 hl255_0
                           replace p255 := eq_true p255
                           replace q255 := eq_true q255
                           have ea_ := Option.some.inj (hx252_0.symm.trans hx255_0)
                           injection ea_ with ea_ en_ ec_
                           (try subst ea_)
                           (try subst ec_)
                           clear en_
                           have p256 : 0 ≤ (1 : Int) := (by omega)
                           have q256 : 1 < ((rd_L6 t245 x20_5).length : Int) := of_decide_eq_true (by first | (with_reducible assumption) | assumption)
                           obtain ⟨ad256, e256, hx256_0⟩ := Kd.at_int (by repeat (first | (with_reducible exact HR255_0.out) | (with_reducible refine Kd.C_alloc ?_ _) | (with_reducible refine Kd.C_drewN ?_ _) | (with_reducible refine Kd.C_drew ?_) | exact HR255_0.out)) 1 p256 q256
                           cases e256
                           (try simp only [show (1 : Int).toNat = 1 from rfl, Nat.reduceMul, Nat.reduceEqDiff, Go.Addr.add, ↓reduceIte] at hx256_0)
                           have qi256 : (1 < (rd_L6 t245 x20_5).length) = True := eq_true (by omega)
                           (try rw [show ((1 : Int)).toNat = 1 from rfl] at hx256_0)
                           replace p256 := eq_true p256
                           replace q256 := eq_true q256
                           have p257 : 0 ≤ (x20_5 : Int) := of_decide_eq_true (by first | (with_reducible assumption) | assumption)
                           have q257 : x20_5 < (t245.length : Int) := of_decide_eq_true (by first | (with_reducible assumption) | assumption)
                           obtain ⟨ad257, A257_0, c257_0, e257, hx257_0, hl257_0, hi257_0⟩ := at_L6 (Kd.S_reads' HO_15.out).2.2 x20_5 p257 q257
                           obtain rfl : ad252 = ad257 := (by injection e257)
                           obtain ⟨ce257, hce257, hMe257, hcc257⟩ := Kd.S_get HO_15.out [] x20_5 p257 (by first | exact q257 | exact of_decide_eq_true (by first | (with_reducible assumption) | assumption) | (have e_ := (Kd.S_reads' HO_15.out).1; omega))
                           obtain ⟨ve257_0, rfl, ge257_0⟩ := hMe257
                           have hv257_0 := hcc257 0 _ rfl
                           rw [Nat.add_zero, show ((Kd.slice 2 (Kd.int .i64))).sz = 1 from rfl, Nat.mul_one] at hv257_0
                           replace hv257_0 := Option.some.inj (hv257_0.symm.trans hx257_0)
                           rw [hv257_0] at ge257_0
                           have HL257_0 := Aside0.mk (show Kd.R (Kd.int .i64) 2 _ _ _ _ (rd_L6 t245 x20_5) from ge257_0)
                           clear hv257_0 ge257_0
                           clear hcc257 hce257
                           have HR257_0 := Aside0.mk hi257_0
                           have HC257_0 := Aside0.mk hl257_0
                           clear hi257_0 hl257_0
                           replace p257 := eq_true p257
                           replace q257 := eq_true q257
                           have ea_ := Option.some.inj (hx252_0.symm.trans hx257_0)
                           injection ea_ with ea_ en_ ec_
                           (try subst ea_)
                           (try subst ec_)
                           clear en_
                           have p258 : 0 ≤ (0 : Int) := (by omega)
                           have q258 : 0 < ((rd_L6 t245 x20_5).length : Int) := of_decide_eq_true (by first | (with_reducible assumption) | assumption)
                           obtain ⟨ad258, e258, hx258_0⟩ := Kd.at_int (by repeat (first | (with_reducible exact HR257_0.out) | (with_reducible refine Kd.C_alloc ?_ _) | (with_reducible refine Kd.C_drewN ?_ _) | (with_reducible refine Kd.C_drew ?_) | exact HR257_0.out)) 0 p258 q258
                           cases e258
                           have qi258 : (0 < (rd_L6 t245 x20_5).length) = True := eq_true (by omega)
                           (try rw [show ((0 : Int)).toNat = 0 from rfl] at hx258_0)
                           (try rw [Addr.add_zero'] at hx258_0)
                           replace p258 := eq_true p258
                           replace q258 := eq_true q258
                           as_aux_lemma =>
                            go_wp2
                            repeat (go_quiet (fail); try go_wp2)
                            go_ret
                            exact ⟨by first | rfl | (simp [errW_none, errW_some] <;> rfl) | (simp [*, errW_none, errW_some] <;> rfl), by repeat (first | (with_reducible first | exact HB.out | apply below_alloc | apply pw_below_drewN | apply below_drew1) | exact HB.out)⟩
                          ·
                           rw [if_neg c61] at H
                           have c61b0 : decide ((rd (rd_L6 t245 x20_5) 1) < (rd (rd_L6 t245 x20_5) 0)) = false := decide_eq_false c61
                           clear c61
                           by_cases c63 : t251 = 0
                           ·
                            rw [if_pos c63] at H
                            have c63b0 : (t251 == 0) = true := beq_iff_eq.mpr c63
                            have c63b1 : (t251 != 0) = false := bne_eq_false_iff_eq.mpr c63
                            clear c63
                            by_cases c64 : (rd (rd_L6 t245 x20_5) 0) > t250
                            ·
                             rw [if_pos c64] at H
                             have c64b0 : decide (t250 < (rd (rd_L6 t245 x20_5) 0)) = true := decide_eq_true c64
                             clear c64
                             obtain rfl := Option.some.inj H
                             obtain ⟨Ao65, co65, eo65⟩ := Kd.S_slice HO_15.out
                             subst eo65
                             have p252 : 0 ≤ (x20_5 : Int) := of_decide_eq_true (by first | (with_reducible assumption) | assumption)
                             have q252 : x20_5 < (t245.length : Int) := of_decide_eq_true (by first | (with_reducible assumption) | assumption)
                             obtain ⟨ad252, A252_0, c252_0, e252, hx252_0, hl252_0, hi252_0⟩ := at_L6 (Kd.S_reads' HO_15.out).2.2 x20_5 p252 q252
                             cases e252
                             obtain ⟨ce252, hce252, hMe252, hcc252⟩ := Kd.S_get HO_15.out [] x20_5 p252 (by first | exact q252 | exact of_decide_eq_true (by first | (with_reducible assumption) | assumption) | (have e_ := (Kd.S_reads' HO_15.out).1; omega))
                             obtain ⟨ve252_0, rfl, ge252_0⟩ := hMe252
                             have hv252_0 := hcc252 0 _ rfl
                             rw [Nat.add_zero, show ((Kd.slice 2 (Kd.int .i64))).sz = 1 from rfl, Nat.mul_one] at hv252_0
                             replace hv252_0 := Option.some.inj (hv252_0.symm.trans hx252_0)
                             rw [hv252_0] at ge252_0
                             have HL252_0 := Aside0.mk (show Kd.R (Kd.int .i64) 2 _ _ _ _ (rd_L6 t245 x20_5) from ge252_0)
                             clear hv252_0 ge252_0
                             clear hcc252 hce252
                             have HR252_0 := Aside0.mk hi252_0
                             have HC252_0 := Aside0.mk hl252_0
                             clear hi252_0 hl252_0
                             replace p252 := eq_true p252
                             replace q252 := eq_true q252
                             have p253 : 0 ≤ (x20_5 : Int) := of_decide_eq_true (by first | (with_reducible assumption) | assumption)
                             have q253 : x20_5 < (t245.length : Int) := of_decide_eq_true (by first | (with_reducible assumption) | assumption)
                             obtain ⟨ad253, A253_0, c253_0, e253, hx253_0, hl253_0, hi253_0⟩ := at_L6 (Kd.S_reads' HO_15.out).2.2 x20_5 p253 q253
                             obtain rfl : ad252 = ad253 := (by injection e253)
                             obtain ⟨ce253, hce253, hMe253, hcc253⟩ := Kd.S_get HO_15.out [] x20_5 p253 (by first | exact q253 | exact of_decide_eq_true (by first | (with_reducible assumption) | assumption) | (have e_ := (Kd.S_reads' HO_15.out).1; omega))
                             obtain ⟨ve253_0, rfl, ge253_0⟩ := hMe253
                             have hv253_0 := hcc253 0 _ rfl
                             rw [Nat.add_zero, show ((Kd.slice 2 (Kd.int .i64))).sz = 1 from rfl, Nat.mul_one] at hv253_0
                             replace hv253_0 := Option.some.inj (hv253_0.symm.trans hx253_0)
                             rw [hv253_0] at ge253_0
                             have HL253_0 := Aside0.mk (show Kd.R (Kd.int .i64) 2 _ _ _ _ (rd_L6 t245 x20_5) from ge253_0)
                             clear hv253_0 ge253_0
                             clear hcc253 hce253
                             have HR253_0 := Aside0.mk hi253_0
                             have HC253_0 := Aside0.mk hl253_0
                             clear hi253_0 hl253_0
                             replace p253 := eq_true p253
                             replace q253 := eq_true q253
                             have ea_ := Option.some.inj (hx252_0.symm.trans hx253_0)
                             injection ea_ with ea_ en_ ec_
                             (try subst ea_)
                             (try subst ec_)
                             clear en_
                             have p254 : 0 ≤ (0 : Int) := (by omega)
                             have q254 : 0 < ((rd_L6 t245 x20_5).length : Int) := of_decide_eq_true (by first | (with_reducible assumption) | assumption)
                             obtain ⟨ad254, e254, hx254_0⟩ := Kd.at_int (by repeat (first | (with_reducible exact HR253_0.out) | (with_reducible refine Kd.C_alloc ?_ _) | (with_reducible refine Kd.C_drewN ?_ _) | (with_reducible refine Kd.C_drew ?_) | exact HR253_0.out)) 0 p254 q254
                             cases e254
                             have qi254 : (0 < (rd_L6 t245 x20_5).length) = True := eq_true (by omega)
                             (try rw [show ((0 : Int)).toNat = 0 from rfl] at hx254_0)
                             (try rw [Addr.add_zero'] at hx254_0)
                             replace p254 := eq_true p254
                             replace q254 := eq_true q254
                             have p255 : 0 ≤ (x20_5 : Int) := of_decide_eq_true (by first | (with_reducible assumption) | assumption)
                             have q255 : x20_5 < (t245.length : Int) := of_decide_eq_true (by first | (with_reducible assumption) | assumption)
                             obtain ⟨ad255, A255_0, c255_0, e255, hx255_0, hl255_0, hi255_0⟩ := at_L6 (Kd.S_reads' HO_15.out).2.2 x20_5 p255 q255
                             obtain rfl : ad252 = ad255 := (by injection e255)
                             obtain ⟨ce255, hce255, hMe255, hcc255⟩ := Kd.S_get HO_15.out [] x20_5 p255 (by first | exact q255 | exact of_decide_eq_true (by first | (with_reducible assumption) | assumption) | (have e_ := (Kd.S_reads' HO_15.out).1; omega))
                             obtain ⟨ve255_0, rfl, ge255_0⟩ := hMe255
                             have hv255_0 := hcc255 0 _ rfl
                             rw [Nat.add_zero, show ((Kd.slice 2 (Kd.int .i64))).sz = 1 from rfl, Nat.mul_one] at hv255_0
                             replace hv255_0 := Option.some.inj (hv255_0.symm.trans hx255_0)
                             rw [hv255_0] at ge255_0
                             have HL255_0 := Aside0.mk (show Kd.R (Kd.int .i64) 2 _ _ _ _ (rd_L6 t245 x20_5) from ge255_0)
                             clear hv255_0 ge255_0
                             clear hcc255 hce255
                             have HR255_0 := Aside0.mk hi255_0
                             have HC255_0 := Aside0.mk hl255_0
                             clear hi255_0 hl255_0
                             replace p255 := eq_true p255
                             replace q255 := eq_true q255
                             have ea_ := Option.some.inj (hx252_0.symm.trans hx255_0)
                             injection ea_ with ea_ en_ ec_
                             (try subst ea_)
                             (try subst ec_)
                             clear en_
                             have p256 : 0 ≤ (1 : Int) := (by omega)
                             have q256 : 1 < ((rd_L6 t245 x20_5).length : Int) := of_decide_eq_true (by first | (with_reducible assumption) | assumption)
                             obtain ⟨ad256, e256, hx256_0⟩ := Kd.at_int (by repeat (first | (with_reducible exact HR255_0.out) | (with_reducible refine Kd.C_alloc ?_ _) | (with_reducible refine Kd.C_drewN ?_ _) | (with_reducible refine Kd.C_drew ?_) | exact HR255_0.out)) 1 p256 q256
                             cases e256
                             (try simp only [show (1 : Int).toNat = 1 from rfl, Nat.reduceMul, Nat.reduceEqDiff, Go.Addr.add, ↓reduceIte] at hx256_0)
                             have qi256 : (1 < (rd_L6 t245 x20_5).length) = True := eq_true (by omega)
                             (try rw [show ((1 : Int)).toNat = 1 from rfl] at hx256_0)
                             replace p256 := eq_true p256
                             replace q256 := eq_true q256
                             have p257 : 0 ≤ (x20_5 : Int) := of_decide_eq_true (by first | (with_reducible assumption) | assumption)
                             have q257 : x20_5 < (t245.length : Int) := of_decide_eq_true (by first | (with_reducible assumption) | assumption)
                             obtain ⟨ad257, A257_0, c257_0, e257, hx257_0, hl257_0, hi257_0⟩ := at_L6 (Kd.S_reads' HO_15.out).2.2 x20_5 p257 q257
                             obtain rfl : ad252 = ad257 := (by injection e257)
                             obtain ⟨ce257, hce257, hMe257, hcc257⟩ := Kd.S_get HO_15.out [] x20_5 p257 (by first | exact q257 | exact of_decide_eq_true (by first | (with_reducible assumption) | assumption) | (have e_ := (Kd.S_reads' HO_15.out).1; omega))
                             obtain ⟨ve257_0, rfl, ge257_0⟩ := hMe257
                             have hv257_0 := hcc257 0 _ rfl
                             rw [Nat.add_zero, show ((Kd.slice 2 (Kd.int .i64))).sz = 1 from rfl, Nat.mul_one] at hv257_0
                             replace hv257_0 := Option.some.inj (hv257_0.symm.trans hx257_0)
                             rw [hv257_0] at ge257_0
                             have HL257_0 := Aside0.mk (show Kd.R (Kd.int .i64) 2 _ _ _ _ (rd_L6 t245 x20_5) from ge257_0)
                             clear hv257_0 ge257_0
                             clear hcc257 hce257
                             have HR257_0 := Aside0.mk hi257_0
                             have HC257_0 := Aside0.mk hl257_0
                             clear hi257_0 hl257_0
                             replace p257 := eq_true p257
                             replace q257 := eq_true q257
                             have ea_ := Option.some.inj (hx252_0.symm.trans hx257_0)
                             injection ea_ with ea_ en_ ec_
                             (try subst ea_)
                             (try subst ec_)
                             clear en_
                             have p258 : 0 ≤ (0 : Int) := (by omega)
                             have q258 : 0 < ((rd_L6 t245 x20_5).length : Int) := of_decide_eq_true (by first | (with_reducible assumption) | assumption)
                             obtain ⟨ad258, e258, hx258_0⟩ := Kd.at_int (by repeat (first | (with_reducible exact HR257_0.out) | (with_reducible refine Kd.C_alloc ?_ _) | (with_reducible refine Kd.C_drewN ?_ _) | (with_reducible refine Kd.C_drew ?_) | exact HR257_0.out)) 0 p258 q258
                             cases e258
                             have qi258 : (0 < (rd_L6 t245 x20_5).length) = True := eq_true (by omega)
                             (try rw [show ((0 : Int)).toNat = 0 from rfl] at hx258_0)
                             (try rw [Addr.add_zero'] at hx258_0)
                             replace p258 := eq_true p258
                             replace q258 := eq_true q258
                             have p259 : 0 ≤ (x20_5 : Int) := of_decide_eq_true (by first | (with_reducible assumption) | assumption)
                             have q259 : x20_5 < (t245.length : Int) := of_decide_eq_true (by first | (with_reducible assumption) | assumption)
                             obtain ⟨ad259, A259_0, c259_0, e259, hx259_0, hl259_0, hi259_0⟩ := at_L6 (Kd.S_reads' HO_15.out).2.2 x20_5 p259 q259
                             obtain rfl : ad252 = ad259 := (by injection e259)
                             obtain ⟨ce259, hce259, hMe259, hcc259⟩ := Kd.S_get HO_15.out [] x20_5 p259 (by first | exact q259 | exact of_decide_eq_true (by first | (with_reducible assumption) | assumption) | (have e_ := (Kd.S_reads' HO_15.out).1; omega))
                             obtain ⟨ve259_0, rfl, ge259_0⟩ := hMe259
                             have hv259_0 := hcc259 0 _ rfl
                             rw [Nat.add_zero, show ((Kd.slice 2 (Kd.int .i64))).sz = 1 from rfl, Nat.mul_one] at hv259_0
                             replace hv259_0 := Option.some.inj (hv259_0.symm.trans hx259_0)
                             rw [hv259_0] at ge259_0
                             have HL259_0 := Aside0.mk (show Kd.R (Kd.int .i64) 2 _ _ _ _ (rd_L6 t245 x20_5) from ge259_0)
                             clear hv259_0 ge259_0
                             clear hcc259 hce259
                             have HR259_0 := Aside0.mk hi259_0
                             have HC259_0 := Aside0.mk hl259_0
                             clear hi259_0 hl259_0
                             replace p259 := eq_true p259
                             replace q259 := eq_true q259
                             have ea_ := Option.some.inj (hx252_0.symm.trans hx259_0)
                             injection ea_ with ea_ en_ ec_
                             (try subst ea_)
                             (try subst ec_)
                             clear en_
                             have p260 : 0 ≤ (0 : Int) := (by omega)
                             have q260 : 0 < ((rd_L6 t245 x20_5).length : Int) := of_decide_eq_true (by first | (with_reducible assumption) | assumption)
                             obtain ⟨ad260, e260, hx260_0⟩ := Kd.at_int (by repeat (first | (with_reducible exact HR259_0.out) | (with_reducible refine Kd.C_alloc ?_ _) | (with_reducible refine Kd.C_drewN ?_ _) | (with_reducible refine Kd.C_drew ?_) | exact HR259_0.out)) 0 p260 q260
                             cases e260
                             have qi260 : (0 < (rd_L6 t245 x20_5).length) = True := eq_true (by omega)
                             (try rw [show ((0 : Int)).toNat = 0 from rfl] at hx260_0)
                             (try rw [Addr.add_zero'] at hx260_0)
                             replace p260 := eq_true p260
                             replace q260 := eq_true q260
                             as_aux_lemma =>
                              go_wp2
                              repeat (go_quiet (fail); try go_wp2)
                              go_ret
                              exact ⟨by first | rfl | (simp [errW_none, errW_some] <;> rfl) | (simp [*, errW_none, errW_some] <;> rfl), by repeat (first | (with_reducible first | exact HB.out | apply below_alloc | apply pw_below_drewN | apply below_drew1) | exact HB.out)⟩
                            ·
                             rw [if_neg c64] at H
                             have c64b0 : decide (t250 < (rd (rd_L6 t245 x20_5) 0)) = false := decide_eq_false c64
                             clear c64
                             by_cases c66 : x20_5 = t249
                             ·
                              rw [if_pos c66] at H
                              have c66b0 : (x20_5 == t249) = true := beq_iff_eq.mpr c66
                              have c66b1 : (x20_5 != t249) = false := bne_eq_false_iff_eq.mpr c66
                              clear c66
                              by_cases c67 : (rd (rd_L6 t245 x20_5) 0) = t250
                              ·
                               rw [if_pos c67] at H
                               have c67b0 : ((rd (rd_L6 t245 x20_5) 0) == t250) = true := beq_iff_eq.mpr c67
                               have c67b1 : ((rd (rd_L6 t245 x20_5) 0) != t250) = false := bne_eq_false_iff_eq.mpr c67
                               clear c67
                               have H' := Aside0.mk H
                               clear H
                               obtain ⟨Ao68, co68, eo68⟩ := Kd.S_slice HO_15.out
                               subst eo68
                               have p252 : 0 ≤ (x20_5 : Int) := of_decide_eq_true (by first | (with_reducible assumption) | assumption)
                               have q252 : x20_5 < (t245.length : Int) := of_decide_eq_true (by first | (with_reducible assumption) | assumption)
                               obtain ⟨ad252, A252_0, c252_0, e252, hx252_0, hl252_0, hi252_0⟩ := at_L6 (Kd.S_reads' HO_15.out).2.2 x20_5 p252 q252
                               cases e252
                               obtain ⟨ce252, hce252, hMe252, hcc252⟩ := Kd.S_get HO_15.out [] x20_5 p252 (by first | exact q252 | exact of_decide_eq_true (by first | (with_reducible assumption) | assumption) | (have e_ := (Kd.S_reads' HO_15.out).1; omega))
                               obtain ⟨ve252_0, rfl, ge252_0⟩ := hMe252
                               have hv252_0 := hcc252 0 _ rfl
                               rw [Nat.add_zero, show ((Kd.slice 2 (Kd.int .i64))).sz = 1 from rfl, Nat.mul_one] at hv252_0
                               replace hv252_0 := Option.some.inj (hv252_0.symm.trans hx252_0)
                               rw [hv252_0] at ge252_0
                               have HL252_0 := Aside0.mk (show Kd.R (Kd.int .i64) 2 _ _ _ _ (rd_L6 t245 x20_5) from ge252_0)
                               clear hv252_0 ge252_0
                               clear hcc252 hce252
                               have HR252_0 := Aside0.mk hi252_0
                               have HC252_0 := Aside0.mk hl252_0
                               clear hi252_0 hl252_0
                               replace p252 := eq_true p252
                               replace q252 := eq_true q252
                               have p253 : 0 ≤ (x20_5 : Int) := of_decide_eq_true (by first | (with_reducible assumption) | assumption)
                               have q253 : x20_5 < (t245.length : Int) := of_decide_eq_true (by first | (with_reducible assumption) | assumption)
                               obtain ⟨ad253, A253_0, c253_0, e253, hx253_0, hl253_0, hi253_0⟩ := at_L6 (Kd.S_reads' HO_15.out).2.2 x20_5 p253 q253
                               obtain rfl : ad252 = ad253 := (by injection e253)
                               obtain ⟨ce253, hce253, hMe253, hcc253⟩ := Kd.S_get HO_15.out [] x20_5 p253 (by first | exact q253 | exact of_decide_eq_true (by first | (with_reducible assumption) | assumption) | (have e_ := (Kd.S_reads' HO_15.out).1; omega))
                               obtain ⟨ve253_0, rfl, ge253_0⟩ := hMe253
                               have hv253_0 := hcc253 0 _ rfl
                               rw [Nat.add_zero, show ((Kd.slice 2 (Kd.int .i64))).sz = 1 from rfl, Nat.mul_one] at hv253_0
                               replace hv253_0 := Option.some.inj (hv253_0.symm.trans hx253_0)
                               rw [hv253_0] at ge253_0
                               have HL253_0 := Aside0.mk (show Kd.R (Kd.int .i64) 2 _ _ _ _ (rd_L6 t245 x20_5) from ge253_0)
                               clear hv253_0 ge253_0
                               clear hcc253 hce253
                               have HR253_0 := Aside0.mk hi253_0
                               have HC253_0 := Aside0.mk hl253_0
                               clear hi253_0 hl253_0
                               replace p253 := eq_true p253
                               replace q253 := eq_true q253
                               have ea_ := Option.some.inj (hx252_0.symm.trans hx253_0)
                               injection ea_ with ea_ en_ ec_
                               (try subst ea_)
                               (try subst ec_)
                               clear en_
                               have p254 : 0 ≤ (0 : Int) := (by omega)
                               have q254 : 0 < ((rd_L6 t245 x20_5).length : Int) := of_decide_eq_true (by first | (with_reducible assumption) | assumption)
                               obtain ⟨ad254, e254, hx254_0⟩ := Kd.at_int (by repeat (first | (with_reducible exact HR253_0.out) | (with_reducible refine Kd.C_alloc ?_ _) | (with_reducible refine Kd.C_drewN ?_ _) | (with_reducible refine Kd.C_drew ?_) | exact HR253_0.out)) 0 p254 q254
                               cases e254
                               have qi254 : (0 < (rd_L6 t245 x20_5).length) = True := eq_true (by omega)
                               (try rw [show ((0 : Int)).toNat = 0 from rfl] at hx254_0)
                               (try rw [Addr.add_zero'] at hx254_0)
                               replace p254 := eq_true p254
                               replace q254 := eq_true q254
                               have p255 : 0 ≤ (x20_5 : Int) := of_decide_eq_true (by first | (with_reducible assumption) | assumption)
                               have q255 : x20_5 < (t245.length : Int) := of_decide_eq_true (by first | (with_reducible assumption) | assumption)
                               obtain ⟨ad255, A255_0, c255_0, e255, hx255_0, hl255_0, hi255_0⟩ := at_L6 (Kd.S_reads' HO_15.out).2.2 x20_5 p255 q255
                               obtain rfl : ad252 = ad255 := (by injection e255)
                               obtain ⟨ce255, hce255, hMe255, hcc255⟩ := Kd.S_get HO_15.out [] x20_5 p255 (by first | exact q255 | exact of_decide_eq_true (by first | (with_reducible assumption) | assumption) | (have e_ := (Kd.S_reads' HO_15.out).1; omega))
                               obtain ⟨ve255_0, rfl, ge255_0⟩ := hMe255
                               have hv255_0 := hcc255 0 _ rfl
                               rw [Nat.add_zero, show ((Kd.slice 2 (Kd.int .i64))).sz = 1 from rfl, Nat.mul_one] at hv255_0
                               replace hv255_0 := Option.some.inj (hv255_0.symm.trans hx255_0)
                               rw [hv255_0] at ge255_0
                               have HL255_0 := Aside0.mk (show Kd.R (Kd.int .i64) 2 _ _ _ _ (rd_L6 t245 x20_5) from ge255_0)
                               clear hv255_0 ge255_0
                               clear hcc255 hce255
                               have HR255_0 := Aside0.mk hi255_0
                               have HC255_0 := Aside0.mk hl255_0
                               clear hi255_0 hl255_0
                               replace p255 := eq_true p255
                               replace q255 := eq_true q255
                               have ea_ := Option.some.inj (hx252_0.symm.trans hx255_0)
                               injection ea_ with ea_ en_ ec_
                               (try subst ea_)
                               (try subst ec_)
                               clear en_
                               have p256 : 0 ≤ (1 : Int) := (by omega)
                               have q256 : 1 < ((rd_L6 t245 x20_5).length : Int) := of_decide_eq_true (by first | (with_reducible assumption) | assumption)
                               obtain ⟨ad256, e256, hx256_0⟩ := Kd.at_int (by repeat (first | (with_reducible exact HR255_0.out) | (with_reducible refine Kd.C_alloc ?_ _) | (with_reducible refine Kd.C_drewN ?_ _) | (with_reducible refine Kd.C_drew ?_) | exact HR255_0.out)) 1 p256 q256
                               cases e256
                               (try simp only [show (1 : Int).toNat = 1 from rfl, Nat.reduceMul, Nat.reduceEqDiff, Go.Addr.add, ↓reduceIte] at hx256_0)
                               have qi256 : (1 < (rd_L6 t245 x20_5).length) = True := eq_true (by omega)
                               (try rw [show ((1 : Int)).toNat = 1 from rfl] at hx256_0)
                               replace p256 := eq_true p256
                               replace q256 := eq_true q256
                               have p257 : 0 ≤ (x20_5 : Int) := of_decide_eq_true (by first | (with_reducible assumption) | assumption)
                               have q257 : x20_5 < (t245.length : Int) := of_decide_eq_true (by first | (with_reducible assumption) | assumption)
                               obtain ⟨ad257, A257_0, c257_0, e257, hx257_0, hl257_0, hi257_0⟩ := at_L6 (Kd.S_reads' HO_15.out).2.2 x20_5 p257 q257
                               obtain rfl : ad252 = ad257 := (by injection e257)
                               obtain ⟨ce257, hce257, hMe257, hcc257⟩ := Kd.S_get HO_15.out [] x20_5 p257 (by first | exact q257 | exact of_decide_eq_true (by first | (with_reducible assumption) | assumption) | (have e_ := (Kd.S_reads' HO_15.out).1; omega))
                               obtain ⟨ve257_0, rfl, ge257_0⟩ := hMe257
                               have hv257_0 := hcc257 0 _ rfl
                               rw [Nat.add_zero, show ((Kd.slice 2 (Kd.int .i64))).sz = 1 from rfl, Nat.mul_one] at hv257_0
                               replace hv257_0 := Option.some.inj (hv257_0.symm.trans hx257_0)
                               rw [hv257_0] at ge257_0
                               have HL257_0 := Aside0.mk (show Kd.R (Kd.int .i64) 2 _ _ _ _ (rd_L6 t245 x20_5) from ge257_0)
                               clear hv257_0 ge257_0
                               clear hcc257 hce257
                               have HR257_0 := Aside0.mk hi257_0
                               have HC257_0 := Aside0.mk hl257_0
                               clear hi257_0 hl257_0
                               replace p257 := eq_true p257
                               replace q257 := eq_true q257
                               have ea_ := Option.some.inj (hx252_0.symm.trans hx257_0)
                               injection ea_ with ea_ en_ ec_
                               (try subst ea_)
                               (try subst ec_)
                               clear en_
                               have p258 : 0 ≤ (0 : Int) := (by omega)
                               have q258 : 0 < ((rd_L6 t245 x20_5).length : Int) := of_decide_eq_true (by first | (with_reducible assumption) | assumption)
                               obtain ⟨ad258, e258, hx258_0⟩ := Kd.at_int (by repeat (first | (with_reducible exact HR257_0.out) | (with_reducible refine Kd.C_alloc ?_ _) | (with_reducible refine Kd.C_drewN ?_ _) | (with_reducible refine Kd.C_drew ?_) | exact HR257_0.out)) 0 p258 q258
                               cases e258
                               have qi258 : (0 < (rd_L6 t245 x20_5).length) = True := eq_true (by omega)
                               (try rw [show ((0 : Int)).toNat = 0 from rfl] at hx258_0)
                               (try rw [Addr.add_zero'] at hx258_0)
                               replace p258 := eq_true p258
                               replace q258 := eq_true q258
                               have p259 : 0 ≤ (x20_5 : Int) := of_decide_eq_true (by first | (with_reducible assumption) | assumption)
                               have q259 : x20_5 < (t245.length : Int) := of_decide_eq_true (by first | (with_reducible assumption) | assumption)
                               obtain ⟨ad259, A259_0, c259_0, e259, hx259_0, hl259_0, hi259_0⟩ := at_L6 (Kd.S_reads' HO_15.out).2.2 x20_5 p259 q259
                               obtain rfl : ad252 = ad259 := (by injection e259)
                               obtain ⟨ce259, hce259, hMe259, hcc259⟩ := Kd.S_get HO_15.out [] x20_5 p259 (by first | exact q259 | exact of_decide_eq_true (by first | (with_reducible assumption) | assumption) | (have e_ := (Kd.S_reads' HO_15.out).1; omega))
                               obtain ⟨ve259_0, rfl, ge259_0⟩ := hMe259
                               have hv259_0 := hcc259 0 _ rfl
                               rw [Nat.add_zero, show ((Kd.slice 2 (Kd.int .i64))).sz = 1 from rfl, Nat.mul_one] at hv259_0
                               replace hv259_0 := Option.some.inj (hv259_0.symm.trans hx259_0)
                               rw [hv259_0] at ge259_0
                               have HL259_0 := Aside0.mk (show Kd.R (Kd.int .i64) 2 _ _ _ _ (rd_L6 t245 x20_5) from ge259_0)
                               clear hv259_0 ge259_0
                               clear hcc259 hce259
                               have HR259_0 := Aside0.mk hi259_0
                               have HC259_0 := Aside0.mk hl259_0
                               clear hi259_0 hl259_0
                               replace p259 := eq_true p259
                               replace q259 := eq_true q259
                               have ea_ := Option.some.inj (hx252_0.symm.trans hx259_0)
                               injection ea_ with ea_ en_ ec_
                               (try subst ea_)
                               (try subst ec_)
                               clear en_
                               have p260 : 0 ≤ (0 : Int) := (by omega)
                               have q260 : 0 < ((rd_L6 t245 x20_5).length : Int) := of_decide_eq_true (by first | (with_reducible assumption) | assumption)
                               obtain ⟨ad260, e260, hx260_0⟩ := Kd.at_int (by repeat (first | (with_reducible exact HR259_0.out) | (with_reducible refine Kd.C_alloc ?_ _) | (with_reducible refine Kd.C_drewN ?_ _) | (with_reducible refine Kd.C_drew ?_) | exact HR259_0.out)) 0 p260 q260
                               cases e260
                               have qi260 : (0 < (rd_L6 t245 x20_5).length) = True := eq_true (by omega)
                               (try rw [show ((0 : Int)).toNat = 0 from rfl] at hx260_0)
                               (try rw [Addr.add_zero'] at hx260_0)
                               replace p260 := eq_true p260
                               replace q260 := eq_true q260
                               have p261 : 0 ≤ (x20_5 : Int) := of_decide_eq_true (by first | (with_reducible assumption) | assumption)
                               have q261 : x20_5 < (t245.length : Int) := of_decide_eq_true (by first | (with_reducible assumption) | assumption)
                               obtain ⟨ad261, A261_0, c261_0, e261, hx261_0, hl261_0, hi261_0⟩ := at_L6 (Kd.S_reads' HO_15.out).2.2 x20_5 p261 q261
                               obtain rfl : ad252 = ad261 := (by injection e261)
                               obtain ⟨ce261, hce261, hMe261, hcc261⟩ := Kd.S_get HO_15.out [] x20_5 p261 (by first | exact q261 | exact of_decide_eq_true (by first | (with_reducible assumption) | assumption) | (have e_ := (Kd.S_reads' HO_15.out).1; omega))
                               obtain ⟨ve261_0, rfl, ge261_0⟩ := hMe261
                               have hv261_0 := hcc261 0 _ rfl
                               rw [Nat.add_zero, show ((Kd.slice 2 (Kd.int .i64))).sz = 1 from rfl, Nat.mul_one] at hv261_0
                               replace hv261_0 := Option.some.inj (hv261_0.symm.trans hx261_0)
                               rw [hv261_0] at ge261_0
                               have HL261_0 := Aside0.mk (show Kd.R (Kd.int .i64) 2 _ _ _ _ (rd_L6 t245 x20_5) from ge261_0)
                               clear hv261_0 ge261_0
                               clear hcc261 hce261
                               have HR261_0 := Aside0.mk hi261_0
                               have HC261_0 := Aside0.mk hl261_0
                               clear hi261_0 hl261_0
                               replace p261 := eq_true p261
                               replace q261 := eq_true q261
                               have ea_ := Option.some.inj (hx252_0.symm.trans hx261_0)
                               injection ea_ with ea_ en_ ec_
                               (try subst ea_)
                               (try subst ec_)
                               clear en_
                               have p262 : 0 ≤ (0 : Int) := (by omega)
                               have q262 : 0 < ((rd_L6 t245 x20_5).length : Int) := of_decide_eq_true (by first | (with_reducible assumption) | assumption)
                               obtain ⟨ad262, e262, hx262_0⟩ := Kd.at_int (by repeat (first | (with_reducible exact HR261_0.out) | (with_reducible refine Kd.C_alloc ?_ _) | (with_reducible refine Kd.C_drewN ?_ _) | (with_reducible refine Kd.C_drew ?_) | exact HR261_0.out)) 0 p262 q262
                               cases e262
                               have qi262 : (0 < (rd_L6 t245 x20_5).length) = True := eq_true (by omega)
                               (try rw [show ((0 : Int)).toNat = 0 from rfl] at hx262_0)
                               (try rw [Addr.add_zero'] at hx262_0)
                               replace p262 := eq_true p262
                               replace q262 := eq_true q262
                               as_aux_lemma =>
                                go_wp2
                                repeat (go_quiet (fail); try go_wp2)
                                go_roundg k5
                                case measure => have := HK1.out; have := HK2.out; have := HJ20.out; have := HJ39.out; have := HK5.out; omega
                                case rel => exact ⟨(wrap64 (x20_5 + 1)), (by first | rfl | (simp; done) | (simp [*]; done)), H', ⟨by have := HK1.out; have := HK2.out; have := HJ20.out; have := HJ39.out; have := HK5.out; omega⟩, ⟨by (with_reducible repeat (first | apply Kd.R_alloc | apply Kd.R_drewN | apply Kd.R_drew)); exact HO_5.out⟩, ⟨by (with_reducible repeat (first | apply Kd.S_alloc | apply Kd.S_drewN | apply Kd.S_drew)); exact HO_15.out⟩, ⟨by repeat (first | (with_reducible first | exact HB.out | apply below_alloc | apply pw_below_drewN | apply below_drew1) | exact HB.out)⟩⟩
                              ·
                               rw [if_neg c67] at H
                               have c67b0 : ((rd (rd_L6 t245 x20_5) 0) == t250) = false := beq_eq_false_iff_ne.mpr c67
                               have c67b1 : ((rd (rd_L6 t245 x20_5) 0) != t250) = true := bne_iff_ne.mpr c67
                               obtain rfl := Option.some.inj H
                               obtain ⟨Ao69, co69, eo69⟩ := Kd.S_slice HO_15.out
                               subst eo69
                               have p252 : 0 ≤ (x20_5 : Int) := of_decide_eq_true (by first | (with_reducible assumption) | assumption)
                               have q252 : x20_5 < (t245.length : Int) := of_decide_eq_true (by first | (with_reducible assumption) | assumption)
                               obtain ⟨ad252, A252_0, c252_0, e252, hx252_0, hl252_0, hi252_0⟩ := at_L6 (Kd.S_reads' HO_15.out).2.2 x20_5 p252 q252
                               cases e252
                               obtain ⟨ce252, hce252, hMe252, hcc252⟩ := Kd.S_get HO_15.out [] x20_5 p252 (by first | exact q252 | exact of_decide_eq_true (by first | (with_reducible assumption) | assumption) | (have e_ := (Kd.S_reads' HO_15.out).1; omega))
                               obtain ⟨ve252_0, rfl, ge252_0⟩ := hMe252
                               have hv252_0 := hcc252 0 _ rfl
                               rw [Nat.add_zero, show ((Kd.slice 2 (Kd.int .i64))).sz = 1 from rfl, Nat.mul_one] at hv252_0
                               replace hv252_0 := Option.some.inj (hv252_0.symm.trans hx252_0)
                               rw [hv252_0] at ge252_0
                               have HL252_0 := Aside0.mk (show Kd.R (Kd.int .i64) 2 _ _ _ _ (rd_L6 t245 x20_5) from ge252_0)
                               clear hv252_0 ge252_0
                               clear hcc252 hce252
                               have HR252_0 := Aside0.mk hi252_0
                               have HC252_0 := Aside0.mk hl252_0
                               clear hi252_0 hl252_0
                               replace p252 := eq_true p252
                               replace q252 := eq_true q252
                               have p253 : 0 ≤ (x20_5 : Int) := of_decide_eq_true (by first | (with_reducible assumption) | assumption)
                               have q253 : x20_5 < (t245.length : Int) := of_decide_eq_true (by first | (with_reducible assumption) | assumption)
                               obtain ⟨ad253, A253_0, c253_0, e253, hx253_0, hl253_0, hi253_0⟩ := at_L6 (Kd.S_reads' HO_15.out).2.2 x20_5 p253 q253
                               obtain rfl : ad252 = ad253 := (by injection e253)
                               obtain ⟨ce253, hce253, hMe253, hcc253⟩ := Kd.S_get HO_15.out [] x20_5 p253 (by first | exact q253 | exact of_decide_eq_true (by first | (with_reducible assumption) | assumption) | (have e_ := (Kd.S_reads' HO_15.out).1; omega))
                               obtain ⟨ve253_0, rfl, ge253_0⟩ := hMe253
                               have hv253_0 := hcc253 0 _ rfl
                               rw [Nat.add_zero, show ((Kd.slice 2 (Kd.int .i64))).sz = 1 from rfl, Nat.mul_one] at hv253_0
                               replace hv253_0 := Option.some.inj (hv253_0.symm.trans hx253_0)
                               rw [hv253_0] at ge253_0
                               have HL253_0 := Aside0.mk (show Kd.R (Kd.int .i64) 2 _ _ _ _ (rd_L6 t245 x20_5) from ge253_0)
                               clear hv253_0 ge253_0
                               clear hcc253 hce253
                               have HR253_0 := Aside0.mk hi253_0
                               have HC253_0 := Aside0.mk hl253_0
                               clear hi253_0 hl253_0
                               replace p253 := eq_true p253
                               replace q253 := eq_true q253
                               have ea_ := Option.some.inj (hx252_0.symm.trans hx253_0)
                               injection ea_ with ea_ en_ ec_
                               (try subst ea_)
                               (try subst ec_)
                               clear en_
                               have p254 : 0 ≤ (0 : Int) := (by omega)
                               have q254 : 0 < ((rd_L6 t245 x20_5).length : Int) := of_decide_eq_true (by first | (with_reducible assumption) | assumption)
                               obtain ⟨ad254, e254, hx254_0⟩ := Kd.at_int (by repeat (first | (with_reducible exact HR253_0.out) | (with_reducible refine Kd.C_alloc ?_ _) | (with_reducible refine Kd.C_drewN ?_ _) | (with_reducible refine Kd.C_drew ?_) | exact HR253_0.out)) 0 p254 q254
                               cases e254
                               have qi254 : (0 < (rd_L6 t245 x20_5).length) = True := eq_true (by omega)
                               (try rw [show ((0 : Int)).toNat = 0 from rfl] at hx254_0)
                               (try rw [Addr.add_zero'] at hx254_0)
                               replace p254 := eq_true p254
                               replace q254 := eq_true q254
                               have p255 : 0 ≤ (x20_5 : Int) := of_decide_eq_true (by first | (with_reducible assumption) | assumption)
                               have q255 : x20_5 < (t245.length : Int) := of_decide_eq_true (by first | (with_reducible assumption) | assumption)
                               obtain ⟨ad255, A255_0, c255_0, e255, hx255_0, hl255_0, hi255_0⟩ := at_L6 (Kd.S_reads' HO_15.out).2.2 x20_5 p255 q255
                               obtain rfl : ad252 = ad255 := (by injection e255)
                               obtain ⟨ce255, hce255, hMe255, hcc255⟩ := Kd.S_get HO_15.out [] x20_5 p255 (by first | exact q255 | exact of_decide_eq_true (by first | (with_reducible assumption) | assumption) | (have e_ := (Kd.S_reads' HO_15.out).1; omega))
                               obtain ⟨ve255_0, rfl, ge255_0⟩ := hMe255
                               have hv255_0 := hcc255 0 _ rfl
                               rw [Nat.add_zero, show ((Kd.slice 2 (Kd.int .i64))).sz = 1 from rfl, Nat.mul_one] at hv255_0
                               replace hv255_0 := Option.some.inj (hv255_0.symm.trans hx255_0)
                               rw [hv255_0] at ge255_0
                               have HL255_0 := Aside0.mk (show Kd.R (Kd.int .i64) 2 _ _ _ _ (rd_L6 t245 x20_5) from ge255_0)
                               clear hv255_0 ge255_0
                               clear hcc255 hce255
                               have HR255_0 := Aside0.mk hi255_0
                               have HC255_0 := Aside0.mk hl255_0
                               clear hi255_0 hl255_0
                               replace p255 := eq_true p255
                               replace q255 := eq_true q255
                               have ea_ := Option.some.inj (hx252_0.symm.trans hx255_0)
                               injection ea_ with ea_ en_ ec_
                               (try subst ea_)
                               (try subst ec_)
                               clear en_
                               have p256 : 0 ≤ (1 : Int) := (by omega)
                               have q256 : 1 < ((rd_L6 t245 x20_5).length : Int) := of_decide_eq_true (by first | (with_reducible assumption) | assumption)
                               obtain ⟨ad256, e256, hx256_0⟩ := Kd.at_int (by repeat (first | (with_reducible exact HR255_0.out) | (with_reducible refine Kd.C_alloc ?_ _) | (with_reducible refine Kd.C_drewN ?_ _) | (with_reducible refine Kd.C_drew ?_) | exact HR255_0.out)) 1 p256 q256
                               cases e256
                               (try simp only [show (1 : Int).toNat = 1 from rfl, Nat.reduceMul, Nat.reduceEqDiff, Go.Addr.add, ↓reduceIte] at hx256_0)
                               have qi256 : (1 < (rd_L6 t245 x20_5).length) = True := eq_true (by omega)
                               (try rw [show ((1 : Int)).toNat = 1 from rfl] at hx256_0)
                               replace p256 := eq_true p256
                               replace q256 := eq_true q256
                               have p257 : 0 ≤ (x20_5 : Int) := of_decide_eq_true (by first | (with_reducible assumption) | assumption)
                               have q257 : x20_5 < (t245.length : Int) := of_decide_eq_true (by first | (with_reducible assumption) | assumption)
                               obtain ⟨ad257, A257_0, c257_0, e257, hx257_0, hl257_0, hi257_0⟩ := at_L6 (Kd.S_reads' HO_15.out).2.2 x20_5 p257 q257
                               obtain rfl : ad252 = ad257 := (by injection e257)
                               obtain ⟨ce257, hce257, hMe257, hcc257⟩ := Kd.S_get HO_15.out [] x20_5 p257 (by first | exact q257 | exact of_decide_eq_true (by first | (with_reducible assumption) | assumption) | (have e_ := (Kd.S_reads' HO_15.out).1; omega))
                               obtain ⟨ve257_0, rfl, ge257_0⟩ := hMe257
                               have hv257_0 := hcc257 0 _ rfl
                               rw [Nat.add_zero, show ((Kd.slice 2 (Kd.int .i64))).sz = 1 from rfl, Nat.mul_one] at hv257_0
                               replace hv257_0 := Option.some.inj (hv257_0.symm.trans hx257_0)
                               rw [hv257_0] at ge257_0
                               have HL257_0 := Aside0.mk (show Kd.R (Kd.int .i64) 2 _ _ _ _ (rd_L6 t245 x20_5) from ge257_0)
                               clear hv257_0 ge257_0
                               clear hcc257 hce257
                               have HR257_0 := Aside0.mk hi257_0
                               have HC257_0 := Aside0.mk hl257_0
                               clear hi257_0 hl257_0
                               replace p257 := eq_true p257
                               replace q257 := eq_true q257
                               have ea_ := Option.some.inj (hx252_0.symm.trans hx257_0)
                               injection ea_ with ea_ en_ ec_
                               (try subst ea_)
                               (try subst ec_)
                               clear en_
                               have p258 : 0 ≤ (0 : Int) := (by omega)
                               have q258 : 0 < ((rd_L6 t245 x20_5).length : Int) := of_decide_eq_true (by first | (with_reducible assumption) | assumption)
                               obtain ⟨ad258, e258, hx258_0⟩ := Kd.at_int (by repeat (first | (with_reducible exact HR257_0.out) | (with_reducible refine Kd.C_alloc ?_ _) | (with_reducible refine Kd.C_drewN ?_ _) | (with_reducible refine Kd.C_drew ?_) | exact HR257_0.out)) 0 p258 q258
                               cases e258
                               have qi258 : (0 < (rd_L6 t245 x20_5).length) = True := eq_true (by omega)
                               (try rw [show ((0 : Int)).toNat = 0 from rfl] at hx258_0)
                               (try rw [Addr.add_zero'] at hx258_0)
                               replace p258 := eq_true p258
                               replace q258 := eq_true q258
                               have p259 : 0 ≤ (x20_5 : Int) := of_decide_eq_true (by first | (with_reducible assumption) | assumption)
                               have q259 : x20_5 < (t245.length : Int) := of_decide_eq_true (by first | (with_reducible assumption) | assumption)
                               obtain ⟨ad259, A259_0, c259_0, e259, hx259_0, hl259_0, hi259_0⟩ := at_L6 (Kd.S_reads' HO_15.out).2.2 x20_5 p259 q259
                               obtain rfl : ad252 = ad259 := (by injection e259)
                               obtain ⟨ce259, hce259, hMe259, hcc259⟩ := Kd.S_get HO_15.out [] x20_5 p259 (by first | exact q259 | exact of_decide_eq_true (by first | (with_reducible assumption) | assumption) | (have e_ := (Kd.S_reads' HO_15.out).1; omega))
                               obtain ⟨ve259_0, rfl, ge259_0⟩ := hMe259
                               have hv259_0 := hcc259 0 _ rfl
                               rw [Nat.add_zero, show ((Kd.slice 2 (Kd.int .i64))).sz = 1 from rfl, Nat.mul_one] at hv259_0
                               replace hv259_0 := Option.some.inj (hv259_0.symm.trans hx259_0)
                               rw [hv259_0] at ge259_0
                               have HL259_0 := Aside0.mk (show Kd.R (Kd.int .i64) 2 _ _ _ _ (rd_L6 t245 x20_5) from ge259_0)
                               clear hv259_0 ge259_0
                               clear hcc259 hce259
                               have HR259_0 := Aside0.mk hi259_0
                               have HC259_0 := Aside0.mk hl259_0
                               clear hi259_0 hl259_0
                               replace p259 := eq_true p259
                               replace q259 := eq_true q259
                               have ea_ := Option.some.inj (hx252_0.symm.trans hx259_0)
                               injection ea_ with ea_ en_ ec_
                               (try subst ea_)
                               (try subst ec_)
                               clear en_
                               have p260 : 0 ≤ (0 : Int) := (by omega)
                               have q260 : 0 < ((rd_L6 t245 x20_5).length : Int) := of_decide_eq_true (by first | (with_reducible assumption) | assumption)
                               obtain ⟨ad260, e260, hx260_0⟩ := Kd.at_int (by repeat (first | (with_reducible exact HR259_0.out) | (with_reducible refine Kd.C_alloc ?_ _) | (with_reducible refine Kd.C_drewN ?_ _) | (with_reducible refine Kd.C_drew ?_) | exact HR259_0.out)) 0 p260 q260
                               cases e260
                               have qi260 : (0 < (rd_L6 t245 x20_5).length) = True := eq_true (by omega)
                               (try rw [show ((0 : Int)).toNat = 0 from rfl] at hx260_0)
                               (try rw [Addr.add_zero'] at hx260_0)
                               replace p260 := eq_true p260
                               replace q260 := eq_true q260
                               have p261 : 0 ≤ (x20_5 : Int) := of_decide_eq_true (by first | (with_reducible assumption) | assumption)
                               have q261 : x20_5 < (t245.length : Int) := of_decide_eq_true (by first | (with_reducible assumption) | assumption)
                               obtain ⟨ad261, A261_0, c261_0, e261, hx261_0, hl261_0, hi261_0⟩ := at_L6 (Kd.S_reads' HO_15.out).2.2 x20_5 p261 q261
                               obtain rfl : ad252 = ad261 := (by injection e261)
                               obtain ⟨ce261, hce261, hMe261, hcc261⟩ := Kd.S_get HO_15.out [] x20_5 p261 (by first | exact q261 | exact of_decide_eq_true (by first | (with_reducible assumption) | assumption) | (have e_ := (Kd.S_reads' HO_15.out).1; omega))
                               obtain ⟨ve261_0, rfl, ge261_0⟩ := hMe261
                               have hv261_0 := hcc261 0 _ rfl
                               rw [Nat.add_zero, show ((Kd.slice 2 (Kd.int .i64))).sz = 1 from rfl, Nat.mul_one] at hv261_0
                               replace hv261_0 := Option.some.inj (hv261_0.symm.trans hx261_0)
                               rw [hv261_0] at ge261_0
                               have HL261_0 := Aside0.mk (show Kd.R (Kd.int .i64) 2 _ _ _ _ (rd_L6 t245 x20_5) from ge261_0)
                               clear hv261_0 ge261_0
                               clear hcc261 hce261
                               have HR261_0 := Aside0.mk hi261_0
                               have HC261_0 := Aside0.mk hl261_0
                               clear hi261_0 hl261_0
                               replace p261 := eq_true p261
                               replace q261 := eq_true q261
                               have ea_ := Option.some.inj (hx252_0.symm.trans hx261_0)
                               injection ea_ with ea_ en_ ec_
                               (try subst ea_)
                               (try subst ec_)
                               clear en_
                               have p262 : 0 ≤ (0 : Int) := (by omega)
                               have q262 : 0 < ((rd_L6 t245 x20_5).length : Int) := of_decide_eq_true (by first | (with_reducible assumption) | assumption)
                               obtain ⟨ad262, e262, hx262_0⟩ := Kd.at_int (by repeat (first | (with_reducible exact HR261_0.out) | (with_reducible refine Kd.C_alloc ?_ _) | (with_reducible refine Kd.C_drewN ?_ _) | (with_reducible refine Kd.C_drew ?_) | exact HR261_0.out)) 0 p262 q262
                               cases e262
                               have qi262 : (0 < (rd_L6 t245 x20_5).length) = True := eq_true (by omega)
                               (try rw [show ((0 : Int)).toNat = 0 from rfl] at hx262_0)
                               (try rw [Addr.add_zero'] at hx262_0)
                               replace p262 := eq_true p262
                               replace q262 := eq_true q262
                               as_aux_lemma =>
                                go_wp2
                                repeat (go_quiet (fail); try go_wp2)
                                go_ret
                                exact ⟨by first | rfl | (simp [errW_none, errW_some] <;> rfl) | (simp [*, errW_none, errW_some] <;> rfl), by repeat (first | (with_reducible first | exact HB.out | apply below_alloc | apply pw_below_drewN | apply below_drew1) | exact HB.out)⟩
                             ·
                              rw [if_neg c66] at H
                              have c66b0 : (x20_5 == t249) = false := beq_eq_false_iff_ne.mpr c66
                              have c66b1 : (x20_5 != t249) = true := bne_iff_ne.mpr c66
                              have H' := Aside0.mk H
                              clear H
                              obtain ⟨Ao70, co70, eo70⟩ := Kd.S_slice HO_15.out
                              subst eo70
                              have p252 : 0 ≤ (x20_5 : Int) := of_decide_eq_true (by first | (with_reducible assumption) | assumption)
                              have q252 : x20_5 < (t245.length : Int) := of_decide_eq_true (by first | (with_reducible assumption) | assumption)
                              obtain ⟨ad252, A252_0, c252_0, e252, hx252_0, hl252_0, hi252_0⟩ := at_L6 (Kd.S_reads' HO_15.out).2.2 x20_5 p252 q252
                              cases e252
                              obtain ⟨ce252, hce252, hMe252, hcc252⟩ := Kd.S_get HO_15.out [] x20_5 p252 (by first | exact q252 | exact of_decide_eq_true (by first | (with_reducible assumption) | assumption) | (have e_ := (Kd.S_reads' HO_15.out).1; omega))
                              obtain ⟨ve252_0, rfl, ge252_0⟩ := hMe252
                              have hv252_0 := hcc252 0 _ rfl
                              rw [Nat.add_zero, show ((Kd.slice 2 (Kd.int .i64))).sz = 1 from rfl, Nat.mul_one] at hv252_0
                              replace hv252_0 := Option.some.inj (hv252_0.symm.trans hx252_0)
                              rw [hv252_0] at ge252_0
                              have HL252_0 := Aside0.mk (show Kd.R (Kd.int .i64) 2 _ _ _ _ (rd_L6 t245 x20_5) from ge252_0)
                              clear hv252_0 ge252_0
                              clear hcc252 hce252
                              have HR252_0 := Aside0.mk hi252_0
                              have HC252_0 := Aside0.mk hl252_0
                              clear hi252_0 hl252_0
                              replace p252 := eq_true p252
                              replace q252 := eq_true q252
                              have p253 : 0 ≤ (x20_5 : Int) := of_decide_eq_true (by first | (with_reducible assumption) | assumption)
                              have q253 : x20_5 < (t245.length : Int) := of_decide_eq_true (by first | (with_reducible assumption) | assumption)
                              obtain ⟨ad253, A253_0, c253_0, e253, hx253_0, hl253_0, hi253_0⟩ := at_L6 (Kd.S_reads' HO_15.out).2.2 x20_5 p253 q253
                              obtain rfl : ad252 = ad253 := (by injection e253)
                              obtain ⟨ce253, hce253, hMe253, hcc253⟩ := Kd.S_get HO_15.out [] x20_5 p253 (by first | exact q253 | exact of_decide_eq_true (by first | (with_reducible assumption) | assumption) | (have e_ := (Kd.S_reads' HO_15.out).1; omega))
                              obtain ⟨ve253_0, rfl, ge253_0⟩ := hMe253
                              have hv253_0 := hcc253 0 _ rfl
                              rw [Nat.add_zero, show ((Kd.slice 2 (Kd.int .i64))).sz = 1 from rfl, Nat.mul_one] at hv253_0
                              replace hv253_0 := Option.some.inj (hv253_0.symm.trans hx253_0)
                              rw [hv253_0] at ge253_0
                              have HL253_0 := Aside0.mk (show Kd.R (Kd.int .i64) 2 _ _ _ _ (rd_L6 t245 x20_5) from ge253_0)
                              clear hv253_0 ge253_0
                              clear hcc253 hce253
                              have HR253_0 := Aside0.mk hi253_0
                              have HC253_0 := Aside0.mk hl253_0
                              clear hi253_0 hl253_0
                              replace p253 := eq_true p253
                              replace q253 := eq_true q253
                              have ea_ := Option.some.inj (hx252_0.symm.trans hx253_0)
                              injection ea_ with ea_ en_ ec_
                              (try subst ea_)
                              (try subst ec_)
                              clear en_
                              have p254 : 0 ≤ (0 : Int) := (by omega)
                              have q254 : 0 < ((rd_L6 t245 x20_5).length : Int) := of_decide_eq_true (by first | (with_reducible assumption) | assumption)
                              obtain ⟨ad254, e254, hx254_0⟩ := Kd.at_int (by repeat (first | (with_reducible exact HR253_0.out) | (with_reducible refine Kd.C_alloc ?_ _) | (with_reducible refine Kd.C_drewN ?_ _) | (with_reducible refine Kd.C_drew ?_) | exact HR253_0.out)) 0 p254 q254
                              cases e254
                              have qi254 : (0 < (rd_L6 t245 x20_5).length) = True := eq_true (by omega)
                              (try rw [show ((0 : Int)).toNat = 0 from rfl] at hx254_0)
                              (try rw [Addr.add_zero'] at hx254_0)
                              replace p254 := eq_true p254
                              replace q254 := eq_true q254
                              have p255 : 0 ≤ (x20_5 : Int) := of_decide_eq_true (by first | (with_reducible assumption) | assumption)
                              have q255 : x20_5 < (t245.length : Int) := of_decide_eq_true (by first | (with_reducible assumption) | assumption)
                              obtain ⟨ad255, A255_0, c255_0, e255, hx255_0, hl255_0, hi255_0⟩ := at_L6 (Kd.S_reads' HO_15.out).2.2 x20_5 p255 q255
                              obtain rfl : ad252 = ad255 := (by injection e255)
                              obtain ⟨ce255, hce255, hMe255, hcc255⟩ := Kd.S_get HO_15.out [] x20_5 p255 (by first | exact q255 | exact of_decide_eq_true (by first | (with_reducible assumption) | assumption) | (have e_ := (Kd.S_reads' HO_15.out).1; omega))
                              obtain ⟨ve255_0, rfl, ge255_0⟩ := hMe255
                              have hv255_0 := hcc255 0 _ rfl
                              rw [Nat.add_zero, show ((Kd.slice 2 (Kd.int .i64))).sz = 1 from rfl, Nat.mul_one] at hv255_0
                              replace hv255_0 := Option.some.inj (hv255_0.symm.trans hx255_0)
                              rw [hv255_0] at ge255_0
                              have HL255_0 := Aside0.mk (show Kd.R (Kd.int .i64) 2 _ _ _ _ (rd_L6 t245 x20_5) from ge255_0)
                              clear hv255_0 ge255_0
                              clear hcc255 hce255
                              have HR255_0 := Aside0.mk hi255_0
                              have HC255_0 := Aside0.mk hl255_0
                              clear hi255_0 hl255_0
                              replace p255 := eq_true p255
                              replace q255 := eq_true q255
                              have ea_ := Option.some.inj (hx252_0.symm.trans hx255_0)
                              injection ea_ with ea_ en_ ec_
                              (try subst ea_)
                              (try subst ec_)
                              clear en_
                              have p256 : 0 ≤ (1 : Int) := (by omega)
                              have q256 : 1 < ((rd_L6 t245 x20_5).length : Int) := of_decide_eq_true (by first | (with_reducible assumption) | assumption)
                              obtain ⟨ad256, e256, hx256_0⟩ := Kd.at_int (by repeat (first | (with_reducible exact HR255_0.out) | (with_reducible refine Kd.C_alloc ?_ _) | (with_reducible refine Kd.C_drewN ?_ _) | (with_reducible refine Kd.C_drew ?_) | exact HR255_0.out)) 1 p256 q256
                              cases e256
                              (try simp only [show (1 : Int).toNat = 1 from rfl, Nat.reduceMul, Nat.reduceEqDiff, Go.Addr.add, ↓reduceIte] at hx256_0)
                              have qi256 : (1 < (rd_L6 t245 x20_5).length) = True := eq_true (by omega)
                              (try rw [show ((1 : Int)).toNat = 1 from rfl] at hx256_0)
                              replace p256 := eq_true p256
                              replace q256 := eq_true q256
                              have p257 : 0 ≤ (x20_5 : Int) := of_decide_eq_true (by first | (with_reducible assumption) | assumption)
                              have q257 : x20_5 < (t245.length : Int) := of_decide_eq_true (by first | (with_reducible assumption) | assumption)
                              obtain ⟨ad257, A257_0, c257_0, e257, hx257_0, hl257_0, hi257_0⟩ := at_L6 (Kd.S_reads' HO_15.out).2.2 x20_5 p257 q257
                              obtain rfl : ad252 = ad257 := (by injection e257)
                              obtain ⟨ce257, hce257, hMe257, hcc257⟩ := Kd.S_get HO_15.out [] x20_5 p257 (by first | exact q257 | exact of_decide_eq_true (by first | (with_reducible assumption) | assumption) | (have e_ := (Kd.S_reads' HO_15.out).1; omega))
                              obtain ⟨ve257_0, rfl, ge257_0⟩ := hMe257
                              have hv257_0 := hcc257 0 _ rfl
                              rw [Nat.add_zero, show ((Kd.slice 2 (Kd.int .i64))).sz = 1 from rfl, Nat.mul_one] at hv257_0
                              replace hv257_0 := Option.some.inj (hv257_0.symm.trans hx257_0)
                              rw [hv257_0] at ge257_0
                              have HL257_0 := Aside0.mk (show Kd.R (Kd.int .i64) 2 _ _ _ _ (rd_L6 t245 x20_5) from ge257_0)
                              clear hv257_0 ge257_0
                              clear hcc257 hce257
                              have HR257_0 := Aside0.mk hi257_0
                              have HC257_0 := Aside0.mk hl257_0
                              clear hi257_0 hl257_0
                              replace p257 := eq_true p257
                              replace q257 := eq_true q257
                              have ea_ := Option.some.inj (hx252_0.symm.trans hx257_0)
                              injection ea_ with ea_ en_ ec_
                              (try subst ea_)
                              (try subst ec_)
                              clear en_
                              have p258 : 0 ≤ (0 : Int) := (by omega)
                              have q258 : 0 < ((rd_L6 t245 x20_5).length : Int) := of_decide_eq_true (by first | (with_reducible assumption) | assumption)
                              obtain ⟨ad258, e258, hx258_0⟩ := Kd.at_int (by repeat (first | (with_reducible exact HR257_0.out) | (with_reducible refine Kd.C_alloc ?_ _) | (with_reducible refine Kd.C_drewN ?_ _) | (with_reducible refine Kd.C_drew ?_) | exact HR257_0.out)) 0 p258 q258
                              cases e258
                              have qi258 : (0 < (rd_L6 t245 x20_5).length) = True := eq_true (by omega)
                              (try rw [show ((0 : Int)).toNat = 0 from rfl] at hx258_0)
                              (try rw [Addr.add_zero'] at hx258_0)
                              replace p258 := eq_true p258
                              replace q258 := eq_true q258
                              have p259 : 0 ≤ (x20_5 : Int) := of_decide_eq_true (by first | (with_reducible assumption) | assumption)
                              have q259 : x20_5 < (t245.length : Int) := of_decide_eq_true (by first | (with_reducible assumption) | assumption)
                              obtain ⟨ad259, A259_0, c259_0, e259, hx259_0, hl259_0, hi259_0⟩ := at_L6 (Kd.S_reads' HO_15.out).2.2 x20_5 p259 q259
                              obtain rfl : ad252 = ad259 := (by injection e259)
                              obtain ⟨ce259, hce259, hMe259, hcc259⟩ := Kd.S_get HO_15.out [] x20_5 p259 (by first | exact q259 | exact of_decide_eq_true (by first | (with_reducible assumption) | assumption) | (have e_ := (Kd.S_reads' HO_15.out).1; omega))
                              obtain ⟨ve259_0, rfl, ge259_0⟩ := hMe259
                              have hv259_0 := hcc259 0 _ rfl
                              rw [Nat.add_zero, show ((Kd.slice 2 (Kd.int .i64))).sz = 1 from rfl, Nat.mul_one] at hv259_0
                              replace hv259_0 := Option.some.inj (hv259_0.symm.trans hx259_0)
                              rw [hv259_0] at ge259_0
                              have HL259_0 := Aside0.mk (show Kd.R (Kd.int .i64) 2 _ _ _ _ (rd_L6 t245 x20_5) from ge259_0)
                              clear hv259_0 ge259_0
                              clear hcc259 hce259
                              have HR259_0 := Aside0.mk hi259_0
                              have HC259_0 := Aside0.mk hl259_0
                              clear hi259_0 hl259_0
                              replace p259 := eq_true p259
                              replace q259 := eq_true q259
                              have ea_ := Option.some.inj (hx252_0.symm.trans hx259_0)
                              injection ea_ with ea_ en_ ec_
                              (try subst ea_)
                              (try subst ec_)
                              clear en_
                              have p260 : 0 ≤ (0 : Int) := (by omega)
                              have q260 : 0 < ((rd_L6 t245 x20_5).length : Int) := of_decide_eq_true (by first | (with_reducible assumption) | assumption)
                              obtain ⟨ad260, e260, hx260_0⟩ := Kd.at_int (by repeat (first | (with_reducible exact HR259_0.out) | (with_reducible refine Kd.C_alloc ?_ _) | (with_reducible refine Kd.C_drewN ?_ _) | (with_reducible refine Kd.C_drew ?_) | exact HR259_0.out)) 0 p260 q260
                              cases e260
                              have qi260 : (0 < (rd_L6 t245 x20_5).length) = True := eq_true (by omega)
                              (try rw [show ((0 : Int)).toNat = 0 from rfl] at hx260_0)
                              (try rw [Addr.add_zero'] at hx260_0)
                              replace p260 := eq_true p260
                              replace q260 := eq_true q260
                              as_aux_lemma =>
                               go_wp2
                               repeat (go_quiet (fail); try go_wp2)
                               go_roundg k5
                               case measure => have := HK1.out; have := HK2.out; have := HJ20.out; have := HJ39.out; have := HK5.out; omega
                               case rel => exact ⟨(wrap64 (x20_5 + 1)), (by first | rfl | (simp; done) | (simp [*]; done)), H', ⟨by have := HK1.out; have := HK2.out; have := HJ20.out; have := HJ39.out; have := HK5.out; omega⟩, ⟨by (with_reducible repeat (first | apply Kd.R_alloc | apply Kd.R_drewN | apply Kd.R_drew)); exact HO_5.out⟩, ⟨by (with_reducible repeat (first | apply Kd.S_alloc | apply Kd.S_drewN | apply Kd.S_drew)); exact HO_15.out⟩, ⟨by repeat (first | (with_reducible first | exact HB.out | apply below_alloc | apply pw_below_drewN | apply below_drew1) | exact HB.out)⟩⟩
                           ·
                            rw [if_neg c63] at H
                            have c63b0 : (t251 == 0) = false := beq_eq_false_iff_ne.mpr c63
                            have c63b1 : (t251 != 0) = true := bne_iff_ne.mpr c63
                            by_cases c71 : (rd (rd_L6 t245 x20_5) 0) = 0
                            ·
                             rw [if_pos c71] at H
                             have c71b0 : ((rd (rd_L6 t245 x20_5) 0) == 0) = true := beq_iff_eq.mpr c71
                             have c71b1 : ((rd (rd_L6 t245 x20_5) 0) != 0) = false := bne_eq_false_iff_eq.mpr c71
                             clear c71
                             have H' := Aside0.mk H
                             clear H
                             obtain ⟨Ao72, co72, eo72⟩ := Kd.S_slice HO_15.out
                             subst eo72
                             have p252 : 0 ≤ (x20_5 : Int) := of_decide_eq_true (by first | (with_reducible assumption) | assumption)
                             have q252 : x20_5 < (t245.length : Int) := of_decide_eq_true (by first | (with_reducible assumption) | assumption)
                             obtain ⟨ad252, A252_0, c252_0, e252, hx252_0, hl252_0, hi252_0⟩ := at_L6 (Kd.S_reads' HO_15.out).2.2 x20_5 p252 q252
                             cases e252
                             obtain ⟨ce252, hce252, hMe252, hcc252⟩ := Kd.S_get HO_15.out [] x20_5 p252 (by first | exact q252 | exact of_decide_eq_true (by first | (with_reducible assumption) | assumption) | (have e_ := (Kd.S_reads' HO_15.out).1; omega))
                             obtain ⟨ve252_0, rfl, ge252_0⟩ := hMe252
                             have hv252_0 := hcc252 0 _ rfl
                             rw [Nat.add_zero, show ((Kd.slice 2 (Kd.int .i64))).sz = 1 from rfl, Nat.mul_one] at hv252_0
                             replace hv252_0 := Option.some.inj (hv252_0.symm.trans hx252_0)
                             rw [hv252_0] at ge252_0
                             have HL252_0 := Aside0.mk (show Kd.R (Kd.int .i64) 2 _ _ _ _ (rd_L6 t245 x20_5) from ge252_0)
                             clear hv252_0 ge252_0
                             clear hcc252 hce252
                             have HR252_0 := Aside0.mk hi252_0
                             have HC252_0 := Aside0.mk hl252_0
                             clear hi252_0 hl252_0
                             replace p252 := eq_true p252
                             replace q252 := eq_true q252
                             have p253 : 0 ≤ (x20_5 : Int) := of_decide_eq_true (by first | (with_reducible assumption) | assumption)
                             have q253 : x20_5 < (t245.length : Int) := of_decide_eq_true (by first | (with_reducible assumption) | assumption)
                             obtain ⟨ad253, A253_0, c253_0, e253, hx253_0, hl253_0, hi253_0⟩ := at_L6 (Kd.S_reads' HO_15.out).2.2 x20_5 p253 q253
                             obtain rfl : ad252 = ad253 := (by injection e253)
                             obtain ⟨ce253, hce253, hMe253, hcc253⟩ := Kd.S_get HO_15.out [] x20_5 p253 (by first | exact q253 | exact of_decide_eq_true (by first | (with_reducible assumption) | assumption) | (have e_ := (Kd.S_reads' HO_15.out).1; omega))
                             obtain ⟨ve253_0, rfl, ge253_0⟩ := hMe253
                             have hv253_0 := hcc253 0 _ rfl
                             rw [Nat.add_zero, show ((Kd.slice 2 (Kd.int .i64))).sz = 1 from rfl, Nat.mul_one] at hv253_0
                             replace hv253_0 := Option.some.inj (hv253_0.symm.trans hx253_0)
                             rw [hv253_0] at ge253_0
                             have HL253_0 := Aside0.mk (show Kd.R (Kd.int .i64) 2 _ _ _ _ (rd_L6 t245 x20_5) from ge253_0)
                             clear hv253_0 ge253_0
                             clear hcc253 hce253
                             have HR253_0 := Aside0.mk hi253_0
                             have HC253_0 := Aside0.mk hl253_0
                             clear hi253_0 hl253_0
                             replace p253 := eq_true p253
                             replace q253 := eq_true q253
                             have ea_ := Option.some.inj (hx252_0.symm.trans hx253_0)
                             injection ea_ with ea_ en_ ec_
                             (try subst ea_)
                             (try subst ec_)
                             clear en_
                             have p254 : 0 ≤ (0 : Int) := (by omega)
                             have q254 : 0 < ((rd_L6 t245 x20_5).length : Int) := of_decide_eq_true (by first | (with_reducible assumption) | assumption)
                             obtain ⟨ad254, e254, hx254_0⟩ := Kd.at_int (by repeat (first | (with_reducible exact HR253_0.out) | (with_reducible refine Kd.C_alloc ?_ _) | (with_reducible refine Kd.C_drewN ?_ _) | (with_reducible refine Kd.C_drew ?_) | exact HR253_0.out)) 0 p254 q254
                             cases e254
                             have qi254 : (0 < (rd_L6 t245 x20_5).length) = True := eq_true (by omega)
                             (try rw [show ((0 : Int)).toNat = 0 from rfl] at hx254_0)
                             (try rw [Addr.add_zero'] at hx254_0)
                             replace p254 := eq_true p254
                             replace q254 := eq_true q254
                             have p255 : 0 ≤ (x20_5 : Int) := of_decide_eq_true (by first | (with_reducible assumption) | assumption)
                             have q255 : x20_5 < (t245.length : Int) := of_decide_eq_true (by first | (with_reducible assumption) | assumption)
                             obtain ⟨ad255, A255_0, c255_0, e255, hx255_0, hl255_0, hi255_0⟩ := at_L6 (Kd.S_reads' HO_15.out).2.2 x20_5 p255 q255
                             obtain rfl : ad252 = ad255 := (by injection e255)
                             obtain ⟨ce255, hce255, hMe255, hcc255⟩ := Kd.S_get HO_15.out [] x20_5 p255 (by first | exact q255 | exact of_decide_eq_true (by first | (with_reducible assumption) | assumption) | (have e_ := (Kd.S_reads' HO_15.out).1; omega))
                             obtain ⟨ve255_0, rfl, ge255_0⟩ := hMe255
                             have hv255_0 := hcc255 0 _ rfl
                             rw [Nat.add_zero, show ((Kd.slice 2 (Kd.int .i64))).sz = 1 from rfl, Nat.mul_one] at hv255_0
                             replace hv255_0 := Option.some.inj (hv255_0.symm.trans hx255_0)
                             rw [hv255_0] at ge255_0
                             have HL255_0 := Aside0.mk (show Kd.R (Kd.int .i64) 2 _ _ _ _ (rd_L6 t245 x20_5) from ge255_0)
                             clear hv255_0 ge255_0
                             clear hcc255 hce255
                             have HR255_0 := Aside0.mk hi255_0
                             have HC255_0 := Aside0.mk hl255_0
                             clear hi255_0 hl255_0
                             replace p255 := eq_true p255
                             replace q255 := eq_true q255
                             have ea_ := Option.some.inj (hx252_0.symm.trans hx255_0)
                             injection ea_ with ea_ en_ ec_
                             (try subst ea_)
                             (try subst ec_)
                             clear en_
                             have p256 : 0 ≤ (1 : Int) := (by omega)
                             have q256 : 1 < ((rd_L6 t245 x20_5).length : Int) := of_decide_eq_true (by first | (with_reducible assumption) | assumption)
                             obtain ⟨ad256, e256, hx256_0⟩ := Kd.at_int (by repeat (first | (with_reducible exact HR255_0.out) | (with_reducible refine Kd.C_alloc ?_ _) | (with_reducible refine Kd.C_drewN ?_ _) | (with_reducible refine Kd.C_drew ?_) | exact HR255_0.out)) 1 p256 q256
                             cases e256
                             (try simp only [show (1 : Int).toNat = 1 from rfl, Nat.reduceMul, Nat.reduceEqDiff, Go.Addr.add, ↓reduceIte] at hx256_0)
                             have qi256 : (1 < (rd_L6 t245 x20_5).length) = True := eq_true (by omega)
                             (try rw [show ((1 : Int)).toNat = 1 from rfl] at hx256_0)
                             replace p256 := eq_true p256
                             replace q256 := eq_true q256
                             have p257 : 0 ≤ (x20_5 : Int) := of_decide_eq_true (by first | (with_reducible assumption) | assumption)
                             have q257 : x20_5 < (t245.length : Int) := of_decide_eq_true (by first | (with_reducible assumption) | assumption)
                             obtain ⟨ad257, A257_0, c257_0, e257, hx257_0, hl257_0, hi257_0⟩ := at_L6 (Kd.S_reads' HO_15.out).2.2 x20_5 p257 q257
                             obtain rfl : ad252 = ad257 := (by injection e257)
                             obtain ⟨ce257, hce257, hMe257, hcc257⟩ := Kd.S_get HO_15.out [] x20_5 p257 (by first | exact q257 | exact of_decide_eq_true (by first | (with_reducible assumption) | assumption) | (have e_ := (Kd.S_reads' HO_15.out).1; omega))
                             obtain ⟨ve257_0, rfl, ge257_0⟩ := hMe257
                             have hv257_0 := hcc257 0 _ rfl
                             rw [Nat.add_zero, show ((Kd.slice 2 (Kd.int .i64))).sz = 1 from rfl, Nat.mul_one] at hv257_0
                             replace hv257_0 := Option.some.inj (hv257_0.symm.trans hx257_0)
                             rw [hv257_0] at ge257_0
                             have HL257_0 := Aside0.mk (show Kd.R (Kd.int .i64) 2 _ _ _ _ (rd_L6 t245 x20_5) from ge257_0)
                             clear hv257_0 ge257_0
                             clear hcc257 hce257
                             have HR257_0 := Aside0.mk hi257_0
                             have HC257_0 := Aside0.mk hl257_0
                             clear hi257_0 hl257_0
                             replace p257 := eq_true p257
                             replace q257 := eq_true q257
                             have ea_ := Option.some.inj (hx252_0.symm.trans hx257_0)
                             injection ea_ with ea_ en_ ec_
                             (try subst ea_)
                             (try subst ec_)
                             clear en_
                             have p258 : 0 ≤ (0 : Int) := (by omega)
                             have q258 : 0 < ((rd_L6 t245 x20_5).length : Int) := of_decide_eq_true (by first | (with_reducible assumption) | assumption)
                             obtain ⟨ad258, e258, hx258_0⟩ := Kd.at_int (by repeat (first | (with_reducible exact HR257_0.out) | (with_reducible refine Kd.C_alloc ?_ _) | (with_reducible refine Kd.C_drewN ?_ _) | (with_reducible refine Kd.C_drew ?_) | exact HR257_0.out)) 0 p258 q258
                             cases e258
                             have qi258 : (0 < (rd_L6 t245 x20_5).length) = True := eq_true (by omega)
                             (try rw [show ((0 : Int)).toNat = 0 from rfl] at hx258_0)
                             (try rw [Addr.add_zero'] at hx258_0)
                             replace p258 := eq_true p258
                             replace q258 := eq_true q258
                             have p263 : 0 ≤ (x20_5 : Int) := of_decide_eq_true (by first | (with_reducible assumption) | assumption)
                             have q263 : x20_5 < (t245.length : Int) := of_decide_eq_true (by first | (with_reducible assumption) | assumption)
                             obtain ⟨ad263, A263_0, c263_0, e263, hx263_0, hl263_0, hi263_0⟩ := at_L6 (Kd.S_reads' HO_15.out).2.2 x20_5 p263 q263
                             obtain rfl : ad252 = ad263 := (by injection e263)
                             obtain ⟨ce263, hce263, hMe263, hcc263⟩ := Kd.S_get HO_15.out [] x20_5 p263 (by first | exact q263 | exact of_decide_eq_true (by first | (with_reducible assumption) | assumption) | (have e_ := (Kd.S_reads' HO_15.out).1; omega))
                             obtain ⟨ve263_0, rfl, ge263_0⟩ := hMe263
                             have hv263_0 := hcc263 0 _ rfl
                             rw [Nat.add_zero, show ((Kd.slice 2 (Kd.int .i64))).sz = 1 from rfl, Nat.mul_one] at hv263_0
                             replace hv263_0 := Option.some.inj (hv263_0.symm.trans hx263_0)
                             rw [hv263_0] at ge263_0
                             have HL263_0 := Aside0.mk (show Kd.R (Kd.int .i64) 2 _ _ _ _ (rd_L6 t245 x20_5) from ge263_0)
                             clear hv263_0 ge263_0
                             clear hcc263 hce263
                             have HR263_0 := Aside0.mk hi263_0
                             have HC263_0 := Aside0.mk hl263_0
                             clear hi263_0 hl263_0
                             replace p263 := eq_true p263
                             replace q263 := eq_true q263
                             have ea_ := Option.some.inj (hx252_0.symm.trans hx263_0)
                             injection ea_ with ea_ en_ ec_
                             (try subst ea_)
                             (try subst ec_)
                             clear en_
                             have p264 : 0 ≤ (0 : Int) := (by omega)
                             have q264 : 0 < ((rd_L6 t245 x20_5).length : Int) := of_decide_eq_true (by first | (with_reducible assumption) | assumption)
                             obtain ⟨ad264, e264, hx264_0⟩ := Kd.at_int (by repeat (first | (with_reducible exact HR263_0.out) | (with_reducible refine Kd.C_alloc ?_ _) | (with_reducible refine Kd.C_drewN ?_ _) | (with_reducible refine Kd.C_drew ?_) | exact HR263_0.out)) 0 p264 q264
                             cases e264
                             have qi264 : (0 < (rd_L6 t245 x20_5).length) = True := eq_true (by omega)
                             (try rw [show ((0 : Int)).toNat = 0 from rfl] at hx264_0)
                             (try rw [Addr.add_zero'] at hx264_0)
                             replace p264 := eq_true p264
                             replace q264 := eq_true q264
                             as_aux_lemma =>
                              go_wp2
                              repeat (go_quiet (fail); try go_wp2)
                              go_roundg k5
                              case measure => have := HK1.out; have := HK2.out; have := HJ20.out; have := HJ39.out; have := HK5.out; omega
                              case rel => exact ⟨(wrap64 (x20_5 + 1)), (by first | rfl | (simp; done) | (simp [*]; done)), H', ⟨by have := HK1.out; have := HK2.out; have := HJ20.out; have := HJ39.out; have := HK5.out; omega⟩, ⟨by (with_reducible repeat (first | apply Kd.R_alloc | apply Kd.R_drewN | apply Kd.R_drew)); exact HO_5.out⟩, ⟨by (with_reducible repeat (first | apply Kd.S_alloc | apply Kd.S_drewN | apply Kd.S_drew)); exact HO_15.out⟩, ⟨by repeat (first | (with_reducible first | exact HB.out | apply below_alloc | apply pw_below_drewN | apply below_drew1) | exact HB.out)⟩⟩
                            ·
                             rw [if_neg c71] at H
                             have c71b0 : ((rd (rd_L6 t245 x20_5) 0) == 0) = false := beq_eq_false_iff_ne.mpr c71
                             have c71b1 : ((rd (rd_L6 t245 x20_5) 0) != 0) = true := bne_iff_ne.mpr c71
                             obtain rfl := Option.some.inj H
                             obtain ⟨Ao73, co73, eo73⟩ := Kd.S_slice HO_15.out
                             subst eo73
                             have p252 : 0 ≤ (x20_5 : Int) := of_decide_eq_true (by first | (with_reducible assumption) | assumption)
                             have q252 : x20_5 < (t245.length : Int) := of_decide_eq_true (by first | (with_reducible assumption) | assumption)
                             obtain ⟨ad252, A252_0, c252_0, e252, hx252_0, hl252_0, hi252_0⟩ := at_L6 (Kd.S_reads' HO_15.out).2.2 x20_5 p252 q252
                             cases e252
                             obtain ⟨ce252, hce252, hMe252, hcc252⟩ := Kd.S_get HO_15.out [] x20_5 p252 (by first | exact q252 | exact of_decide_eq_true (by first | (with_reducible assumption) | assumption) | (have e_ := (Kd.S_reads' HO_15.out).1; omega))
                             obtain ⟨ve252_0, rfl, ge252_0⟩ := hMe252
                             have hv252_0 := hcc252 0 _ rfl
                             rw [Nat.add_zero, show ((Kd.slice 2 (Kd.int .i64))).sz = 1 from rfl, Nat.mul_one] at hv252_0
                             replace hv252_0 := Option.some.inj (hv252_0.symm.trans hx252_0)
                             rw [hv252_0] at ge252_0
                             have HL252_0 := Aside0.mk (show Kd.R (Kd.int .i64) 2 _ _ _ _ (rd_L6 t245 x20_5) from ge252_0)
                             clear hv252_0 ge252_0
                             clear hcc252 hce252
                             have HR252_0 := Aside0.mk hi252_0
                             have HC252_0 := Aside0.mk hl252_0
                             clear hi252_0 hl252_0
                             replace p252 := eq_true p252
                             replace q252 := eq_true q252
                             have p253 : 0 ≤ (x20_5 : Int) := of_decide_eq_true (by first | (with_reducible assumption) | assumption)
                             have q253 : x20_5 < (t245.length : Int) := of_decide_eq_true (by first | (with_reducible assumption) | assumption)
                             obtain ⟨ad253, A253_0, c253_0, e253, hx253_0, hl253_0, hi253_0⟩ := at_L6 (Kd.S_reads' HO_15.out).2.2 x20_5 p253 q253
                             obtain rfl : ad252 = ad253 := (by injection e253)
                             obtain ⟨ce253, hce253, hMe253, hcc253⟩ := Kd.S_get HO_15.out [] x20_5 p253 (by first | exact q253 | exact of_decide_eq_true (by first | (with_reducible assumption) | assumption) | (have e_ := (Kd.S_reads' HO_15.out).1; omega))
                             obtain ⟨ve253_0, rfl, ge253_0⟩ := hMe253
                             have hv253_0 := hcc253 0 _ rfl
                             rw [Nat.add_zero, show ((Kd.slice 2 (Kd.int .i64))).sz = 1 from rfl, Nat.mul_one] at hv253_0
                             replace hv253_0 := Option.some.inj (hv253_0.symm.trans hx253_0)
                             rw [hv253_0] at ge253_0
                             have HL253_0 := Aside0.mk (show Kd.R (Kd.int .i64) 2 _ _ _ _ (rd_L6 t245 x20_5) from ge253_0)
                             clear hv253_0 ge253_0
                             clear hcc253 hce253
                             have HR253_0 := Aside0.mk hi253_0
                             have HC253_0 := Aside0.mk hl253_0
                             clear hi253_0 hl253_0
                             replace p253 := eq_true p253
                             replace q253 := eq_true q253
                             have ea_ := Option.some.inj (hx252_0.symm.trans hx253_0)
                             injection ea_ with ea_ en_ ec_
                             (try subst ea_)
                             (try subst ec_)
                             clear en_
                             have p254 : 0 ≤ (0 : Int) := (by omega)
                             have q254 : 0 < ((rd_L6 t245 x20_5).length : Int) := of_decide_eq_true (by first | (with_reducible assumption) | assumption)
                             obtain ⟨ad254, e254, hx254_0⟩ := Kd.at_int (by repeat (first | (with_reducible exact HR253_0.out) | (with_reducible refine Kd.C_alloc ?_ _) | (with_reducible refine Kd.C_drewN ?_ _) | (with_reducible refine Kd.C_drew ?_) | exact HR253_0.out)) 0 p254 q254
                             cases e254
                             have qi254 : (0 < (rd_L6 t245 x20_5).length) = True := eq_true (by omega)
                             (try rw [show ((0 : Int)).toNat = 0 from rfl] at hx254_0)
                             (try rw [Addr.add_zero'] at hx254_0)
                             replace p254 := eq_true p254
                             replace q254 := eq_true q254
                             have p255 : 0 ≤ (x20_5 : Int) := of_decide_eq_true (by first | (with_reducible assumption) | assumption)
                             have q255 : x20_5 < (t245.length : Int) := of_decide_eq_true (by first | (with_reducible assumption) | assumption)
                             obtain ⟨ad255, A255_0, c255_0, e255, hx255_0, hl255_0, hi255_0⟩ := at_L6 (Kd.S_reads' HO_15.out).2.2 x20_5 p255 q255
                             obtain rfl : ad252 = ad255 := (by injection e255)
                             obtain ⟨ce255, hce255, hMe255, hcc255⟩ := Kd.S_get HO_15.out [] x20_5 p255 (by first | exact q255 | exact of_decide_eq_true (by first | (with_reducible assumption) | assumption) | (have e_ := (Kd.S_reads' HO_15.out).1; omega))
                             obtain ⟨ve255_0, rfl, ge255_0⟩ := hMe255
                             have hv255_0 := hcc255 0 _ rfl
                             rw [Nat.add_zero, show ((Kd.slice 2 (Kd.int .i64))).sz = 1 from rfl, Nat.mul_one] at hv255_0
                             replace hv255_0 := Option.some.inj (hv255_0.symm.trans hx255_0)
                             rw [hv255_0] at ge255_0
                             have HL255_0 := Aside0.mk (show Kd.R (Kd.int .i64) 2 _ _ _ _ (rd_L6 t245 x20_5) from ge255_0)
                             clear hv255_0 ge255_0
                             clear hcc255 hce255
                             have HR255_0 := Aside0.mk hi255_0
                             have HC255_0 := Aside0.mk hl255_0
                             clear hi255_0 hl255_0
                             replace p255 := eq_true p255
                             replace q255 := eq_true q255
                             have ea_ := Option.some.inj (hx252_0.symm.trans hx255_0)
                             injection ea_ with ea_ en_ ec_
                             (try subst ea_)
                             (try subst ec_)
                             clear en_
                             have p256 : 0 ≤ (1 : Int) := (by omega)
                             have q256 : 1 < ((rd_L6 t245 x20_5).length : Int) := of_decide_eq_true (by first | (with_reducible assumption) | assumption)
                             obtain ⟨ad256, e256, hx256_0⟩ := Kd.at_int (by repeat (first | (with_reducible exact HR255_0.out) | (with_reducible refine Kd.C_alloc ?_ _) | (with_reducible refine Kd.C_drewN ?_ _) | (with_reducible refine Kd.C_drew ?_) | exact HR255_0.out)) 1 p256 q256
                             cases e256
                             (try simp only [show (1 : Int).toNat = 1 from rfl, Nat.reduceMul, Nat.reduceEqDiff, Go.Addr.add, ↓reduceIte] at hx256_0)
                             have qi256 : (1 < (rd_L6 t245 x20_5).length) = True := eq_true (by omega)
                             (try rw [show ((1 : Int)).toNat = 1 from rfl] at hx256_0)
                             replace p256 := eq_true p256
                             replace q256 := eq_true q256
                             have p257 : 0 ≤ (x20_5 : Int) := of_decide_eq_true (by first | (with_reducible assumption) | assumption)
                             have q257 : x20_5 < (t245.length : Int) := of_decide_eq_true (by first | (with_reducible assumption) | assumption)
                             obtain ⟨ad257, A257_0, c257_0, e257, hx257_0, hl257_0, hi257_0⟩ := at_L6 (Kd.S_reads' HO_15.out).2.2 x20_5 p257 q257
                             obtain rfl : ad252 = ad257 := (by injection e257)
                             obtain ⟨ce257, hce257, hMe257, hcc257⟩ := Kd.S_get HO_15.out [] x20_5 p257 (by first | exact q257 | exact of_decide_eq_true (by first | (with_reducible assumption) | assumption) | (have e_ := (Kd.S_reads' HO_15.out).1; omega))
                             obtain ⟨ve257_0, rfl, ge257_0⟩ := hMe257
                             have hv257_0 := hcc257 0 _ rfl
                             rw [Nat.add_zero, show ((Kd.slice 2 (Kd.int .i64))).sz = 1 from rfl, Nat.mul_one] at hv257_0
                             replace hv257_0 := Option.some.inj (hv257_0.symm.trans hx257_0)
                             rw [hv257_0] at ge257_0
                             have HL257_0 := Aside0.mk (show Kd.R (Kd.int .i64) 2 _ _ _ _ (rd_L6 t245 x20_5) from ge257_0)
                             clear hv257_0 ge257_0
                             clear hcc257 hce257
                             have HR257_0 := Aside0.mk hi257_0
                             have HC257_0 := Aside0.mk hl257_0
                             clear hi257_0 hl257_0
                             replace p257 := eq_true p257
                             replace q257 := eq_true q257
                             have ea_ := Option.some.inj (hx252_0.symm.trans hx257_0)
                             injection ea_ with ea_ en_ ec_
                             (try subst ea_)
                             (try subst ec_)
                             clear en_
                             have p258 : 0 ≤ (0 : Int) := (by omega)
                             have q258 : 0 < ((rd_L6 t245 x20_5).length : Int) := of_decide_eq_true (by first | (with_reducible assumption) | assumption)
                             obtain ⟨ad258, e258, hx258_0⟩ := Kd.at_int (by repeat (first | (with_reducible exact HR257_0.out) | (with_reducible refine Kd.C_alloc ?_ _) | (with_reducible refine Kd.C_drewN ?_ _) | (with_reducible refine Kd.C_drew ?_) | exact HR257_0.out)) 0 p258 q258
                             cases e258
                             have qi258 : (0 < (rd_L6 t245 x20_5).length) = True := eq_true (by omega)
                             (try rw [show ((0 : Int)).toNat = 0 from rfl] at hx258_0)
                             (try rw [Addr.add_zero'] at hx258_0)
                             replace p258 := eq_true p258
                             replace q258 := eq_true q258
                             have p263 : 0 ≤ (x20_5 : Int) := of_decide_eq_true (by first | (with_reducible assumption) | assumption)
                             have q263 : x20_5 < (t245.length : Int) := of_decide_eq_true (by first | (with_reducible assumption) | assumption)
                             obtain ⟨ad263, A263_0, c263_0, e263, hx263_0, hl263_0, hi263_0⟩ := at_L6 (Kd.S_reads' HO_15.out).2.2 x20_5 p263 q263
                             obtain rfl : ad252 = ad263 := (by injection e263)
                             obtain ⟨ce263, hce263, hMe263, hcc263⟩ := Kd.S_get HO_15.out [] x20_5 p263 (by first | exact q263 | exact of_decide_eq_true (by first | (with_reducible assumption) | assumption) | (have e_ := (Kd.S_reads' HO_15.out).1; omega))
                             obtain ⟨ve263_0, rfl, ge263_0⟩ := hMe263
                             have hv263_0 := hcc263 0 _ rfl
                             rw [Nat.add_zero, show ((Kd.slice 2 (Kd.int .i64))).sz = 1 from rfl, Nat.mul_one] at hv263_0
                             replace hv263_0 := Option.some.inj (hv263_0.symm.trans hx263_0)
                             rw [hv263_0] at ge263_0
                             have HL263_0 := Aside0.mk (show Kd.R (Kd.int .i64) 2 _ _ _ _ (rd_L6 t245 x20_5) from ge263_0)
                             clear hv263_0 ge263_0
                             clear hcc263 hce263
                             have HR263_0 := Aside0.mk hi263_0
                             have HC263_0 := Aside0.mk hl263_0
                             clear hi263_0 hl263_0
                             replace p263 := eq_true p263
                             replace q263 := eq_true q263
                             have ea_ := Option.some.inj (hx252_0.symm.trans hx263_0)
                             injection ea_ with ea_ en_ ec_
                             (try subst ea_)
                             (try subst ec_)
                             clear en_
                             have p264 : 0 ≤ (0 : Int) := (by omega)
                             have q264 : 0 < ((rd_L6 t245 x20_5).length : Int) := of_decide_eq_true (by first | (with_reducible assumption) | assumption)
                             obtain ⟨ad264, e264, hx264_0⟩ := Kd.at_int (by repeat (first | (with_reducible exact HR263_0.out) | (with_reducible refine Kd.C_alloc ?_ _) | (with_reducible refine Kd.C_drewN ?_ _) | (with_reducible refine Kd.C_drew ?_) | exact HR263_0.out)) 0 p264 q264
                             cases e264
                             have qi264 : (0 < (rd_L6 t245 x20_5).length) = True := eq_true (by omega)
                             (try rw [show ((0 : Int)).toNat = 0 from rfl] at hx264_0)
                             (try rw [Addr.add_zero'] at hx264_0)
                             replace p264 := eq_true p264
                             replace q264 := eq_true q264
                             as_aux_lemma =>
                              go_wp2
                              repeat (go_quiet (fail); try go_wp2)
                              go_ret
                              exact ⟨by first | rfl | (simp [errW_none, errW_some] <;> rfl) | (simp [*, errW_none, errW_some] <;> rfl), by repeat (first | (with_reducible first | exact HB.out | apply below_alloc | apply pw_below_drewN | apply below_drew1) | exact HB.out)⟩
                         ·
                          rw [if_neg c60] at H
                          exact absurd H (by simp)
                       ·
                        rw [if_neg c57] at H
                        exact absurd H (by simp)
                      ·
                       rw [if_neg c56] at H
                       have c56b0 : (((rd_L6 t245 x20_5).length : Int) == 2) = false := beq_eq_false_iff_ne.mpr c56
                       have c56b1 : (((rd_L6 t245 x20_5).length : Int) != 2) = true := bne_iff_ne.mpr c56
                       obtain rfl := Option.some.inj H
                       obtain ⟨Ao74, co74, eo74⟩ := Kd.S_slice HO_15.out
                       subst eo74
                       have p252 : 0 ≤ (x20_5 : Int) := of_decide_eq_true (by first | (with_reducible assumption) | assumption)
                       have q252 : x20_5 < (t245.length : Int) := of_decide_eq_true (by first | (with_reducible assumption) | assumption)
                       obtain ⟨ad252, A252_0, c252_0, e252, hx252_0, hl252_0, hi252_0⟩ := at_L6 (Kd.S_reads' HO_15.out).2.2 x20_5 p252 q252
                       cases e252
                       obtain ⟨ce252, hce252, hMe252, hcc252⟩ := Kd.S_get HO_15.out [] x20_5 p252 (by first | exact q252 | exact of_decide_eq_true (by first | (with_reducible assumption) | assumption) | (have e_ := (Kd.S_reads' HO_15.out).1; omega))
                       obtain ⟨ve252_0, rfl, ge252_0⟩ := hMe252
                       have hv252_0 := hcc252 0 _ rfl
                       rw [Nat.add_zero, show ((Kd.slice 2 (Kd.int .i64))).sz = 1 from rfl, Nat.mul_one] at hv252_0
                       replace hv252_0 := Option.some.inj (hv252_0.symm.trans hx252_0)
                       rw [hv252_0] at ge252_0
                       have HL252_0 := Aside0.mk (show Kd.R (Kd.int .i64) 2 _ _ _ _ (rd_L6 t245 x20_5) from ge252_0)
                       clear hv252_0 ge252_0
                       clear hcc252 hce252
                       have HR252_0 := Aside0.mk hi252_0
                       have HC252_0 := Aside0.mk hl252_0
                       clear hi252_0 hl252_0
                       replace p252 := eq_true p252
                       replace q252 := eq_true q252
                       as_aux_lemma =>
                        go_wp2
                        repeat (go_quiet (fail); try go_wp2)
                        go_ret
                        exact ⟨by first | rfl | (simp [errW_none, errW_some] <;> rfl) | (simp [*, errW_none, errW_some] <;> rfl), by repeat (first | (with_reducible first | exact HB.out | apply below_alloc | apply pw_below_drewN | apply below_drew1) | exact HB.out)⟩
                     ·
                      rw [if_neg c55] at H
                      exact absurd H (by simp)
                    ·
                     rw [if_neg c54] at H
                     have c54b0 : decide (x20_5 < (t245.length : Int)) = false := decide_eq_false c54
                     clear c54
                     have H' := Aside0.mk H
                     clear H
                     obtain ⟨Ao75, co75, eo75⟩ := Kd.S_slice HO_15.out
                     subst eo75
                     go_wp2
                     repeat (go_quiet (fail); try go_wp2)
                     go_loopg [21] k5 (fun kq v21 w' => ∃ (x21_6 : Int), v21 = .int .i64 x21_6 ∧ Aside0 (laws_FnLeaks.l3 kq t225 x21_6 = some r) ∧ Aside0 (kq ≤ k5) ∧ Aside0 (Kd.R k28 28 w' w.heap.size (fun _ => True) (.slice Ao14 t225.length co14) t225) ∧ Aside0 (Below w.heap.size w w'))
                     case atStart => exact ⟨(0), (by first | rfl | (simp; done) | (simp [*]; done)), H', ⟨Nat.le_refl _⟩, ⟨by (with_reducible repeat (first | apply Kd.R_alloc | apply Kd.R_drewN | apply Kd.R_drew)); exact HO_5.out⟩, ⟨by repeat (first | (with_reducible first | exact HB.out | apply below_alloc | apply pw_below_drewN | apply below_drew1) | exact HB.out)⟩⟩
                     case round =>
                      as_aux_lemma =>
                       clear H'
                       try clear c2
                       try clear p2
                       try clear q2
                       try clear hx2
                       try clear qi2
                       try clear c5
                       try clear c6
                       try clear p6
                       try clear c7
                       try clear c25
                       try clear p25
                       try clear q25
                       try clear hx25
                       try clear qi25
                       try clear c26
                       try clear p26
                       try clear q26
                       try clear hx26
                       try clear qi26
                       try clear c54
                       try clear c54b0
                       try clear c55
                       try clear c56
                       try clear c56b0
                       try clear c56b1
                       try clear c57
                       try clear c60
                       try clear c63
                       try clear c63b0
                       try clear c63b1
                       try clear p64
                       try clear c66
                       try clear c66b0
                       try clear c66b1
                       try clear c71
                       try clear c71b0
                       try clear c71b1
                       try clear hx252_0
                       try clear hx253_0
                       try clear hx254_0
                       try clear hx255_0
                       try clear hx256_0
                       try clear hx257_0
                       try clear hx258_0
                       try clear hx259_0
                       try clear hx260_0
                       try clear hx261_0
                       try clear hx262_0
                       try clear hx263_0
                       try clear hx264_0
                       try clear p252
                       try clear p253
                       try clear p254
                       try clear p255
                       try clear p256
                       try clear p257
                       try clear p258
                       try clear p259
                       try clear p260
                       try clear p261
                       try clear p262
                       try clear p263
                       try clear p264
                       try clear q252
                       try clear q253
                       try clear q254
                       try clear q255
                       try clear q256
                       try clear q257
                       try clear q258
                       try clear q259
                       try clear q260
                       try clear q261
                       try clear q262
                       try clear q263
                       try clear q264
                       obtain ⟨x21_6, rfl, HA, HK6, HO_5, HB⟩ := hrel
                       cases gk with
                       | zero => exact absurd HA.out (by simp [laws_FnLeaks.l3])
                       | succ k6 =>
                        have H := HA.out
                        clear HA
                        simp only [laws_FnLeaks.l3] at H
                        by_cases c76 : x21_6 < (t225.length : Int)
                        ·
                         rw [if_pos c76] at H
                         have c76b0 : decide (x21_6 < (t225.length : Int)) = true := decide_eq_true c76
                         clear c76
                         by_cases c77 : 0 ≤ x21_6
                         ·
                          rw [if_pos c77] at H
                          have c77b0 : decide (0 ≤ x21_6) = true := decide_eq_true c77
                          clear c77
                          replace H := Option.bind_eq_some_iff.mp H
                          obtain ⟨t267, A780, H⟩ := H
                          replace H : ((impl_ReadMeter.f k6 t267).bind fun bt268 => (if bt268.2.2.2 = true then (if (!(bt268.1.toList == (((rd_T28 t225 x21_6).f0).toList)) || (!(bt268.2.1 == ((rd_T28 t225 x21_6).f1)) || (!(bt268.2.2.1 == ((rd_T28 t225 x21_6).f2))))) = true then (some false) else (laws_FnLeaks.l3 k6 t225 (wrap64 (x21_6 + 1)))) else (some false))) = some r := H
                          have A78 := Aside0.mk A780
                          clear A780
                          replace H := Option.bind_eq_some_iff.mp H
                          obtain ⟨⟨t268, t269, t270, t271⟩, A790, H⟩ := H
                          replace H : (if t271 = true then (if (!(t268.toList == (((rd_T28 t225 x21_6).f0).toList)) || (!(t269 == ((rd_T28 t225 x21_6).f1)) || (!(t270 == ((rd_T28 t225 x21_6).f2))))) = true then (some false) else (laws_FnLeaks.l3 k6 t225 (wrap64 (x21_6 + 1)))) else (some false)) = some r := H
                          have A79 := Aside0.mk A790
                          clear A790
                          by_cases c80 : t271 = true
                          ·
                           subst c80
                           have H1 : (if (!(t268.toList == (((rd_T28 t225 x21_6).f0).toList)) || (!(t269 == ((rd_T28 t225 x21_6).f1)) || (!(t270 == ((rd_T28 t225 x21_6).f2))))) = true then (some false) else (laws_FnLeaks.l3 k6 t225 (wrap64 (x21_6 + 1)))) = some r := by rw [if_pos rfl] at H; exact H
                           clear H
                           have H := H1
                           clear H1
                           by_cases c81 : (!(t268.toList == (((rd_T28 t225 x21_6).f0).toList)) || (!(t269 == ((rd_T28 t225 x21_6).f1)) || (!(t270 == ((rd_T28 t225 x21_6).f2))))) = true
                           ·
                            rw [if_pos c81] at H
                            have c81b0 : (!(t268.toList == (((rd_T28 t225 x21_6).f0).toList)) || (!(t269 == ((rd_T28 t225 x21_6).f1)) || (!(t270 == ((rd_T28 t225 x21_6).f2))))) = true := c81
                            clear c81
                            obtain rfl := Option.some.inj H
                            have p266 : 0 ≤ (x21_6 : Int) := of_decide_eq_true (by first | (with_reducible assumption) | assumption)
                            have q266 : x21_6 < (t225.length : Int) := of_decide_eq_true (by first | (with_reducible assumption) | assumption)
                            obtain ⟨ad266, e266, hx266_0, hx266_1, hx266_2⟩ := at_T28 (Kd.R_reads' HO_5.out).2.2 x21_6 p266 q266
                            cases e266
                            replace p266 := eq_true p266
                            replace q266 := eq_true q266
                            go_wp2_with (first | (go_at_call 13; (with_reducible refine (impl_MeterText.calls k6 ((rd_T28 t225 x21_6).f0) ((rd_T28 t225 x21_6).f1) ((rd_T28 t225 x21_6).f2) t267 _ ?side1 A78.out).mono ?_); (case side1 => exact wok_ HWOK_.out (by repeat (first | (with_reducible first | exact HB.out | apply below_alloc | apply pw_below_drewN | apply below_drew1) | exact HB.out))); rintro e w82 ⟨rfl, hb⟩; have n0_ := Aside0.mk (Kd.R_below (by (with_reducible repeat (first | apply Kd.R_alloc | apply Kd.R_drewN | apply Kd.R_drew)); exact HO_5.out) hb); have n1_ := Aside0.mk (below_step (by repeat (first | (with_reducible first | exact HB.out | apply below_alloc | apply pw_below_drewN | apply below_drew1) | exact HB.out)) hb); clear HO_5; clear HB; have HO_5 := n0_; have HB := n1_; clear n0_ n1_; (try clear hb); (try clear hb2); (try clear hk); (try clear hi)) | (go_at_call 12; (with_reducible refine (impl_ReadMeter.calls k6 t267 t268 t269 t270 true _ ?side1 A79.out).mono ?_); (case side1 => exact wok_ HWOK_.out (by repeat (first | (with_reducible first | exact HB.out | apply below_alloc | apply pw_below_drewN | apply below_drew1) | exact HB.out))); rintro e w83 ⟨rfl, hb⟩; have n0_ := Aside0.mk (Kd.R_below (by (with_reducible repeat (first | apply Kd.R_alloc | apply Kd.R_drewN | apply Kd.R_drew)); exact HO_5.out) hb); have n1_ := Aside0.mk (below_step (by repeat (first | (with_reducible first | exact HB.out | apply below_alloc | apply pw_below_drewN | apply below_drew1) | exact HB.out)) hb); clear HO_5; clear HB; have HO_5 := n0_; have HB := n1_; clear n0_ n1_; (try clear hb); (try clear hb2); (try clear hk); (try clear hi)) | ((with_reducible refine gate_dst (N := 22) rfl ?_); (try (refine gate_guard (by rfl) ?_; dsimp only)); refine box_event ?hg (N := 22) ?hd (cs := #[.string (⟨#[]⟩ : ByteArray), .int .i64 0, .int .i64 0]) (t := 28) ?hr ?_; (case hd => rfl); (case hg => rfl); (case hr => first | (go_simp; done) | (go_simp; rfl)); intro gb272 hg w84 hbox hb; have n0_ := Aside0.mk (Kd.R_below (Kd.R_elderB (by (with_reducible repeat (first | apply Kd.R_alloc | apply Kd.R_drewN | apply Kd.R_drew)); exact HO_5.out) gb272 (Nat.le_of_eq hg.symm)) hb); have n1_ := Aside0.mk (below_step (by repeat (first | (with_reducible first | exact HB.out | apply below_alloc | apply pw_below_drewN | apply below_drew1) | exact HB.out)) hb); have n2_ := Aside0.mk (hbox); have n3_ := Aside0.mk ((by rw [hg]; exact (below_size (by repeat (first | (with_reducible first | exact HB.out | apply below_alloc | apply pw_below_drewN | apply below_drew1) | exact HB.out))) : w.heap.size ≤ gb272)); have n4_ := Aside0.mk ((by rw [hg]; exact (below_size (by repeat (first | (with_reducible first | exact HB.out | apply below_alloc | apply pw_below_drewN | apply below_drew1) | exact HB.out))) : w.heap.size ≤ gb272)); clear HO_5; clear HB; have HO_5 := n0_; have HB := n1_; have BK272 := n2_; have GW272 := n3_; have GE272 := n4_; clear n0_ n1_ n2_ n3_ n4_; clear hb hbox hg; have hcz85_0 : w84.cell? ⟨gb272, 0, none⟩ = some (.string (⟨#[]⟩ : ByteArray)) := (blk_cell BK272.out 0).trans rfl; have hcz85_1 : w84.cell? ⟨gb272, 1, none⟩ = some (.int .i64 0) := (blk_cell BK272.out 1).trans rfl; have hcz85_2 : w84.cell? ⟨gb272, 2, none⟩ = some (.int .i64 0) := (blk_cell BK272.out 2).trans rfl; have hfz85_0 := blk_frozen BK272.out 0; have hfz85_1 := blk_frozen BK272.out 1; have hfz85_2 := blk_frozen BK272.out 2; have p273 : 0 ≤ (x21_6 : Int) := of_decide_eq_true (by first | (with_reducible assumption) | assumption); have q273 : x21_6 < (t225.length : Int) := of_decide_eq_true (by first | (with_reducible assumption) | assumption); obtain ⟨ad273, e273, hx273_0, hx273_1, hx273_2⟩ := at_T28 (Kd.R_reads' HO_5.out).2.2 x21_6 p273 q273; obtain rfl : ad266 = ad273 := (by injection e273); have hn273_0 : ad266.block ≠ gb272 := Kd.own_blk (Kd.R_away HO_5.out (fun _ hk => hk.2)); have hn273_1 : ad266.block ≠ gb272 := Kd.own_blk (Kd.R_away HO_5.out (fun _ hk => hk.2)); have hn273_2 : ad266.block ≠ gb272 := Kd.own_blk (Kd.R_away HO_5.out (fun _ hk => hk.2)); replace hx273_0 := (cell_far (p := ⟨gb272, 0, none⟩) (by first | (rw [add_block]; exact hn273_0) | (show (Addr.add _ _).block ≠ _; rw [add_block]; exact hn273_0) | exact hn273_0) (.string t268)).trans hx273_0; replace hx273_1 := (cell_far (p := ⟨gb272, 0, none⟩) (by first | (rw [add_block]; exact hn273_0) | (show (Addr.add _ _).block ≠ _; rw [add_block]; exact hn273_0) | exact hn273_0) (.string t268)).trans hx273_1; replace hx273_2 := (cell_far (p := ⟨gb272, 0, none⟩) (by first | (rw [add_block]; exact hn273_0) | (show (Addr.add _ _).block ≠ _; rw [add_block]; exact hn273_0) | exact hn273_0) (.string t268)).trans hx273_2; replace hx273_0 := (cell_far (p := ⟨gb272, 1, none⟩) (by first | (rw [add_block]; exact hn273_1) | (show (Addr.add _ _).block ≠ _; rw [add_block]; exact hn273_1) | exact hn273_1) (.int .i64 t269)).trans hx273_0; replace hx273_1 := (cell_far (p := ⟨gb272, 1, none⟩) (by first | (rw [add_block]; exact hn273_1) | (show (Addr.add _ _).block ≠ _; rw [add_block]; exact hn273_1) | exact hn273_1) (.int .i64 t269)).trans hx273_1; replace hx273_2 := (cell_far (p := ⟨gb272, 1, none⟩) (by first | (rw [add_block]; exact hn273_1) | (show (Addr.add _ _).block ≠ _; rw [add_block]; exact hn273_1) | exact hn273_1) (.int .i64 t269)).trans hx273_2; replace hx273_0 := (cell_far (p := ⟨gb272, 2, none⟩) (by first | (rw [add_block]; exact hn273_2) | (show (Addr.add _ _).block ≠ _; rw [add_block]; exact hn273_2) | exact hn273_2) (.int .i64 t270)).trans hx273_0; replace hx273_1 := (cell_far (p := ⟨gb272, 2, none⟩) (by first | (rw [add_block]; exact hn273_2) | (show (Addr.add _ _).block ≠ _; rw [add_block]; exact hn273_2) | exact hn273_2) (.int .i64 t270)).trans hx273_1; replace hx273_2 := (cell_far (p := ⟨gb272, 2, none⟩) (by first | (rw [add_block]; exact hn273_2) | (show (Addr.add _ _).block ≠ _; rw [add_block]; exact hn273_2) | exact hn273_2) (.int .i64 t270)).trans hx273_2; clear hn273_0; clear hn273_1; clear hn273_2; replace p273 := eq_true p273; replace q273 := eq_true q273))
                            repeat (go_quiet (first | (go_at_call 13; (with_reducible refine (impl_MeterText.calls k6 ((rd_T28 t225 x21_6).f0) ((rd_T28 t225 x21_6).f1) ((rd_T28 t225 x21_6).f2) t267 _ ?side1 A78.out).mono ?_); (case side1 => exact wok_ HWOK_.out (by repeat (first | (with_reducible first | exact HB.out | apply below_alloc | apply pw_below_drewN | apply below_drew1) | exact HB.out))); rintro e w82 ⟨rfl, hb⟩; have n0_ := Aside0.mk (Kd.R_below (by (with_reducible repeat (first | apply Kd.R_alloc | apply Kd.R_drewN | apply Kd.R_drew)); exact HO_5.out) hb); have n1_ := Aside0.mk (below_step (by repeat (first | (with_reducible first | exact HB.out | apply below_alloc | apply pw_below_drewN | apply below_drew1) | exact HB.out)) hb); clear HO_5; clear HB; have HO_5 := n0_; have HB := n1_; clear n0_ n1_; (try clear hb); (try clear hb2); (try clear hk); (try clear hi)) | (go_at_call 12; (with_reducible refine (impl_ReadMeter.calls k6 t267 t268 t269 t270 true _ ?side1 A79.out).mono ?_); (case side1 => exact wok_ HWOK_.out (by repeat (first | (with_reducible first | exact HB.out | apply below_alloc | apply pw_below_drewN | apply below_drew1) | exact HB.out))); rintro e w83 ⟨rfl, hb⟩; have n0_ := Aside0.mk (Kd.R_below (by (with_reducible repeat (first | apply Kd.R_alloc | apply Kd.R_drewN | apply Kd.R_drew)); exact HO_5.out) hb); have n1_ := Aside0.mk (below_step (by repeat (first | (with_reducible first | exact HB.out | apply below_alloc | apply pw_below_drewN | apply below_drew1) | exact HB.out)) hb); clear HO_5; clear HB; have HO_5 := n0_; have HB := n1_; clear n0_ n1_; (try clear hb); (try clear hb2); (try clear hk); (try clear hi)) | ((with_reducible refine gate_dst (N := 22) rfl ?_); (try (refine gate_guard (by rfl) ?_; dsimp only)); refine box_event ?hg (N := 22) ?hd (cs := #[.string (⟨#[]⟩ : ByteArray), .int .i64 0, .int .i64 0]) (t := 28) ?hr ?_; (case hd => rfl); (case hg => rfl); (case hr => first | (go_simp; done) | (go_simp; rfl)); intro gb272 hg w84 hbox hb; have n0_ := Aside0.mk (Kd.R_below (Kd.R_elderB (by (with_reducible repeat (first | apply Kd.R_alloc | apply Kd.R_drewN | apply Kd.R_drew)); exact HO_5.out) gb272 (Nat.le_of_eq hg.symm)) hb); have n1_ := Aside0.mk (below_step (by repeat (first | (with_reducible first | exact HB.out | apply below_alloc | apply pw_below_drewN | apply below_drew1) | exact HB.out)) hb); have n2_ := Aside0.mk (hbox); have n3_ := Aside0.mk ((by rw [hg]; exact (below_size (by repeat (first | (with_reducible first | exact HB.out | apply below_alloc | apply pw_below_drewN | apply below_drew1) | exact HB.out))) : w.heap.size ≤ gb272)); have n4_ := Aside0.mk ((by rw [hg]; exact (below_size (by repeat (first | (with_reducible first | exact HB.out | apply below_alloc | apply pw_below_drewN | apply below_drew1) | exact HB.out))) : w.heap.size ≤ gb272)); clear HO_5; clear HB; have HO_5 := n0_; have HB := n1_; have BK272 := n2_; have GW272 := n3_; have GE272 := n4_; clear n0_ n1_ n2_ n3_ n4_; clear hb hbox hg; have hcz85_0 : w84.cell? ⟨gb272, 0, none⟩ = some (.string (⟨#[]⟩ : ByteArray)) := (blk_cell BK272.out 0).trans rfl; have hcz85_1 : w84.cell? ⟨gb272, 1, none⟩ = some (.int .i64 0) := (blk_cell BK272.out 1).trans rfl; have hcz85_2 : w84.cell? ⟨gb272, 2, none⟩ = some (.int .i64 0) := (blk_cell BK272.out 2).trans rfl; have hfz85_0 := blk_frozen BK272.out 0; have hfz85_1 := blk_frozen BK272.out 1; have hfz85_2 := blk_frozen BK272.out 2; have p273 : 0 ≤ (x21_6 : Int) := of_decide_eq_true (by first | (with_reducible assumption) | assumption); have q273 : x21_6 < (t225.length : Int) := of_decide_eq_true (by first | (with_reducible assumption) | assumption); obtain ⟨ad273, e273, hx273_0, hx273_1, hx273_2⟩ := at_T28 (Kd.R_reads' HO_5.out).2.2 x21_6 p273 q273; obtain rfl : ad266 = ad273 := (by injection e273); have hn273_0 : ad266.block ≠ gb272 := Kd.own_blk (Kd.R_away HO_5.out (fun _ hk => hk.2)); have hn273_1 : ad266.block ≠ gb272 := Kd.own_blk (Kd.R_away HO_5.out (fun _ hk => hk.2)); have hn273_2 : ad266.block ≠ gb272 := Kd.own_blk (Kd.R_away HO_5.out (fun _ hk => hk.2)); replace hx273_0 := (cell_far (p := ⟨gb272, 0, none⟩) (by first | (rw [add_block]; exact hn273_0) | (show (Addr.add _ _).block ≠ _; rw [add_block]; exact hn273_0) | exact hn273_0) (.string t268)).trans hx273_0; replace hx273_1 := (cell_far (p := ⟨gb272, 0, none⟩) (by first | (rw [add_block]; exact hn273_0) | (show (Addr.add _ _).block ≠ _; rw [add_block]; exact hn273_0) | exact hn273_0) (.string t268)).trans hx273_1; replace hx273_2 := (cell_far (p := ⟨gb272, 0, none⟩) (by first | (rw [add_block]; exact hn273_0) | (show (Addr.add _ _).block ≠ _; rw [add_block]; exact hn273_0) | exact hn273_0) (.string t268)).trans hx273_2; replace hx273_0 := (cell_far (p := ⟨gb272, 1, none⟩) (by first | (rw [add_block]; exact hn273_1) | (show (Addr.add _ _).block ≠ _; rw [add_block]; exact hn273_1) | exact hn273_1) (.int .i64 t269)).trans hx273_0; replace hx273_1 := (cell_far (p := ⟨gb272, 1, none⟩) (by first | (rw [add_block]; exact hn273_1) | (show (Addr.add _ _).block ≠ _; rw [add_block]; exact hn273_1) | exact hn273_1) (.int .i64 t269)).trans hx273_1; replace hx273_2 := (cell_far (p := ⟨gb272, 1, none⟩) (by first | (rw [add_block]; exact hn273_1) | (show (Addr.add _ _).block ≠ _; rw [add_block]; exact hn273_1) | exact hn273_1) (.int .i64 t269)).trans hx273_2; replace hx273_0 := (cell_far (p := ⟨gb272, 2, none⟩) (by first | (rw [add_block]; exact hn273_2) | (show (Addr.add _ _).block ≠ _; rw [add_block]; exact hn273_2) | exact hn273_2) (.int .i64 t270)).trans hx273_0; replace hx273_1 := (cell_far (p := ⟨gb272, 2, none⟩) (by first | (rw [add_block]; exact hn273_2) | (show (Addr.add _ _).block ≠ _; rw [add_block]; exact hn273_2) | exact hn273_2) (.int .i64 t270)).trans hx273_1; replace hx273_2 := (cell_far (p := ⟨gb272, 2, none⟩) (by first | (rw [add_block]; exact hn273_2) | (show (Addr.add _ _).block ≠ _; rw [add_block]; exact hn273_2) | exact hn273_2) (.int .i64 t270)).trans hx273_2; clear hn273_0; clear hn273_1; clear hn273_2; replace p273 := eq_true p273; replace q273 := eq_true q273)); try go_wp2_with (first | (go_at_call 13; (with_reducible refine (impl_MeterText.calls k6 ((rd_T28 t225 x21_6).f0) ((rd_T28 t225 x21_6).f1) ((rd_T28 t225 x21_6).f2) t267 _ ?side1 A78.out).mono ?_); (case side1 => exact wok_ HWOK_.out (by repeat (first | (with_reducible first | exact HB.out | apply below_alloc | apply pw_below_drewN | apply below_drew1) | exact HB.out))); rintro e w82 ⟨rfl, hb⟩; have n0_ := Aside0.mk (Kd.R_below (by (with_reducible repeat (first | apply Kd.R_alloc | apply Kd.R_drewN | apply Kd.R_drew)); exact HO_5.out) hb); have n1_ := Aside0.mk (below_step (by repeat (first | (with_reducible first | exact HB.out | apply below_alloc | apply pw_below_drewN | apply below_drew1) | exact HB.out)) hb); clear HO_5; clear HB; have HO_5 := n0_; have HB := n1_; clear n0_ n1_; (try clear hb); (try clear hb2); (try clear hk); (try clear hi)) | (go_at_call 12; (with_reducible refine (impl_ReadMeter.calls k6 t267 t268 t269 t270 true _ ?side1 A79.out).mono ?_); (case side1 => exact wok_ HWOK_.out (by repeat (first | (with_reducible first | exact HB.out | apply below_alloc | apply pw_below_drewN | apply below_drew1) | exact HB.out))); rintro e w83 ⟨rfl, hb⟩; have n0_ := Aside0.mk (Kd.R_below (by (with_reducible repeat (first | apply Kd.R_alloc | apply Kd.R_drewN | apply Kd.R_drew)); exact HO_5.out) hb); have n1_ := Aside0.mk (below_step (by repeat (first | (with_reducible first | exact HB.out | apply below_alloc | apply pw_below_drewN | apply below_drew1) | exact HB.out)) hb); clear HO_5; clear HB; have HO_5 := n0_; have HB := n1_; clear n0_ n1_; (try clear hb); (try clear hb2); (try clear hk); (try clear hi)) | ((with_reducible refine gate_dst (N := 22) rfl ?_); (try (refine gate_guard (by rfl) ?_; dsimp only)); refine box_event ?hg (N := 22) ?hd (cs := #[.string (⟨#[]⟩ : ByteArray), .int .i64 0, .int .i64 0]) (t := 28) ?hr ?_; (case hd => rfl); (case hg => rfl); (case hr => first | (go_simp; done) | (go_simp; rfl)); intro gb272 hg w84 hbox hb; have n0_ := Aside0.mk (Kd.R_below (Kd.R_elderB (by (with_reducible repeat (first | apply Kd.R_alloc | apply Kd.R_drewN | apply Kd.R_drew)); exact HO_5.out) gb272 (Nat.le_of_eq hg.symm)) hb); have n1_ := Aside0.mk (below_step (by repeat (first | (with_reducible first | exact HB.out | apply below_alloc | apply pw_below_drewN | apply below_drew1) | exact HB.out)) hb); have n2_ := Aside0.mk (hbox); have n3_ := Aside0.mk ((by rw [hg]; exact (below_size (by repeat (first | (with_reducible first | exact HB.out | apply below_alloc | apply pw_below_drewN | apply below_drew1) | exact HB.out))) : w.heap.size ≤ gb272)); have n4_ := Aside0.mk ((by rw [hg]; exact (below_size (by repeat (first | (with_reducible first | exact HB.out | apply below_alloc | apply pw_below_drewN | apply below_drew1) | exact HB.out))) : w.heap.size ≤ gb272)); clear HO_5; clear HB; have HO_5 := n0_; have HB := n1_; have BK272 := n2_; have GW272 := n3_; have GE272 := n4_; clear n0_ n1_ n2_ n3_ n4_; clear hb hbox hg; have hcz85_0 : w84.cell? ⟨gb272, 0, none⟩ = some (.string (⟨#[]⟩ : ByteArray)) := (blk_cell BK272.out 0).trans rfl; have hcz85_1 : w84.cell? ⟨gb272, 1, none⟩ = some (.int .i64 0) := (blk_cell BK272.out 1).trans rfl; have hcz85_2 : w84.cell? ⟨gb272, 2, none⟩ = some (.int .i64 0) := (blk_cell BK272.out 2).trans rfl; have hfz85_0 := blk_frozen BK272.out 0; have hfz85_1 := blk_frozen BK272.out 1; have hfz85_2 := blk_frozen BK272.out 2; have p273 : 0 ≤ (x21_6 : Int) := of_decide_eq_true (by first | (with_reducible assumption) | assumption); have q273 : x21_6 < (t225.length : Int) := of_decide_eq_true (by first | (with_reducible assumption) | assumption); obtain ⟨ad273, e273, hx273_0, hx273_1, hx273_2⟩ := at_T28 (Kd.R_reads' HO_5.out).2.2 x21_6 p273 q273; obtain rfl : ad266 = ad273 := (by injection e273); have hn273_0 : ad266.block ≠ gb272 := Kd.own_blk (Kd.R_away HO_5.out (fun _ hk => hk.2)); have hn273_1 : ad266.block ≠ gb272 := Kd.own_blk (Kd.R_away HO_5.out (fun _ hk => hk.2)); have hn273_2 : ad266.block ≠ gb272 := Kd.own_blk (Kd.R_away HO_5.out (fun _ hk => hk.2)); replace hx273_0 := (cell_far (p := ⟨gb272, 0, none⟩) (by first | (rw [add_block]; exact hn273_0) | (show (Addr.add _ _).block ≠ _; rw [add_block]; exact hn273_0) | exact hn273_0) (.string t268)).trans hx273_0; replace hx273_1 := (cell_far (p := ⟨gb272, 0, none⟩) (by first | (rw [add_block]; exact hn273_0) | (show (Addr.add _ _).block ≠ _; rw [add_block]; exact hn273_0) | exact hn273_0) (.string t268)).trans hx273_1; replace hx273_2 := (cell_far (p := ⟨gb272, 0, none⟩) (by first | (rw [add_block]; exact hn273_0) | (show (Addr.add _ _).block ≠ _; rw [add_block]; exact hn273_0) | exact hn273_0) (.string t268)).trans hx273_2; replace hx273_0 := (cell_far (p := ⟨gb272, 1, none⟩) (by first | (rw [add_block]; exact hn273_1) | (show (Addr.add _ _).block ≠ _; rw [add_block]; exact hn273_1) | exact hn273_1) (.int .i64 t269)).trans hx273_0; replace hx273_1 := (cell_far (p := ⟨gb272, 1, none⟩) (by first | (rw [add_block]; exact hn273_1) | (show (Addr.add _ _).block ≠ _; rw [add_block]; exact hn273_1) | exact hn273_1) (.int .i64 t269)).trans hx273_1; replace hx273_2 := (cell_far (p := ⟨gb272, 1, none⟩) (by first | (rw [add_block]; exact hn273_1) | (show (Addr.add _ _).block ≠ _; rw [add_block]; exact hn273_1) | exact hn273_1) (.int .i64 t269)).trans hx273_2; replace hx273_0 := (cell_far (p := ⟨gb272, 2, none⟩) (by first | (rw [add_block]; exact hn273_2) | (show (Addr.add _ _).block ≠ _; rw [add_block]; exact hn273_2) | exact hn273_2) (.int .i64 t270)).trans hx273_0; replace hx273_1 := (cell_far (p := ⟨gb272, 2, none⟩) (by first | (rw [add_block]; exact hn273_2) | (show (Addr.add _ _).block ≠ _; rw [add_block]; exact hn273_2) | exact hn273_2) (.int .i64 t270)).trans hx273_1; replace hx273_2 := (cell_far (p := ⟨gb272, 2, none⟩) (by first | (rw [add_block]; exact hn273_2) | (show (Addr.add _ _).block ≠ _; rw [add_block]; exact hn273_2) | exact hn273_2) (.int .i64 t270)).trans hx273_2; clear hn273_0; clear hn273_1; clear hn273_2; replace p273 := eq_true p273; replace q273 := eq_true q273)))
                            go_ret
                            exact ⟨by first | rfl | (simp [errW_none, errW_some] <;> rfl) | (simp [*, errW_none, errW_some] <;> rfl), by repeat (first | (with_reducible first | exact HB.out | apply below_alloc | apply pw_below_drewN | apply below_drew1 | refine below_set ?_ GE272.out) | exact HB.out)⟩
                           ·
                            rw [if_neg c81] at H
                            have c81b0 : (!(t268.toList == (((rd_T28 t225 x21_6).f0).toList)) || (!(t269 == ((rd_T28 t225 x21_6).f1)) || (!(t270 == ((rd_T28 t225 x21_6).f2))))) = false := by simpa using c81
                            clear c81
                            have H' := Aside0.mk H
                            clear H
                            have p266 : 0 ≤ (x21_6 : Int) := of_decide_eq_true (by first | (with_reducible assumption) | assumption)
                            have q266 : x21_6 < (t225.length : Int) := of_decide_eq_true (by first | (with_reducible assumption) | assumption)
                            obtain ⟨ad266, e266, hx266_0, hx266_1, hx266_2⟩ := at_T28 (Kd.R_reads' HO_5.out).2.2 x21_6 p266 q266
                            cases e266
                            replace p266 := eq_true p266
                            replace q266 := eq_true q266
                            go_wp2_with (first | (go_at_call 13; (with_reducible refine (impl_MeterText.calls k6 ((rd_T28 t225 x21_6).f0) ((rd_T28 t225 x21_6).f1) ((rd_T28 t225 x21_6).f2) t267 _ ?side1 A78.out).mono ?_); (case side1 => exact wok_ HWOK_.out (by repeat (first | (with_reducible first | exact HB.out | apply below_alloc | apply pw_below_drewN | apply below_drew1) | exact HB.out))); rintro e w86 ⟨rfl, hb⟩; have n0_ := Aside0.mk (Kd.R_below (by (with_reducible repeat (first | apply Kd.R_alloc | apply Kd.R_drewN | apply Kd.R_drew)); exact HO_5.out) hb); have n1_ := Aside0.mk (below_step (by repeat (first | (with_reducible first | exact HB.out | apply below_alloc | apply pw_below_drewN | apply below_drew1) | exact HB.out)) hb); clear HO_5; clear HB; have HO_5 := n0_; have HB := n1_; clear n0_ n1_; (try clear hb); (try clear hb2); (try clear hk); (try clear hi)) | (go_at_call 12; (with_reducible refine (impl_ReadMeter.calls k6 t267 t268 t269 t270 true _ ?side1 A79.out).mono ?_); (case side1 => exact wok_ HWOK_.out (by repeat (first | (with_reducible first | exact HB.out | apply below_alloc | apply pw_below_drewN | apply below_drew1) | exact HB.out))); rintro e w87 ⟨rfl, hb⟩; have n0_ := Aside0.mk (Kd.R_below (by (with_reducible repeat (first | apply Kd.R_alloc | apply Kd.R_drewN | apply Kd.R_drew)); exact HO_5.out) hb); have n1_ := Aside0.mk (below_step (by repeat (first | (with_reducible first | exact HB.out | apply below_alloc | apply pw_below_drewN | apply below_drew1) | exact HB.out)) hb); clear HO_5; clear HB; have HO_5 := n0_; have HB := n1_; clear n0_ n1_; (try clear hb); (try clear hb2); (try clear hk); (try clear hi)) | ((with_reducible refine gate_dst (N := 22) rfl ?_); (try (refine gate_guard (by rfl) ?_; dsimp only)); refine box_event ?hg (N := 22) ?hd (cs := #[.string (⟨#[]⟩ : ByteArray), .int .i64 0, .int .i64 0]) (t := 28) ?hr ?_; (case hd => rfl); (case hg => rfl); (case hr => first | (go_simp; done) | (go_simp; rfl)); intro gb272 hg w88 hbox hb; have n0_ := Aside0.mk (Kd.R_below (Kd.R_elderB (by (with_reducible repeat (first | apply Kd.R_alloc | apply Kd.R_drewN | apply Kd.R_drew)); exact HO_5.out) gb272 (Nat.le_of_eq hg.symm)) hb); have n1_ := Aside0.mk (below_step (by repeat (first | (with_reducible first | exact HB.out | apply below_alloc | apply pw_below_drewN | apply below_drew1) | exact HB.out)) hb); have n2_ := Aside0.mk (hbox); have n3_ := Aside0.mk ((by rw [hg]; exact (below_size (by repeat (first | (with_reducible first | exact HB.out | apply below_alloc | apply pw_below_drewN | apply below_drew1) | exact HB.out))) : w.heap.size ≤ gb272)); have n4_ := Aside0.mk ((by rw [hg]; exact (below_size (by repeat (first | (with_reducible first | exact HB.out | apply below_alloc | apply pw_below_drewN | apply below_drew1) | exact HB.out))) : w.heap.size ≤ gb272)); clear HO_5; clear HB; have HO_5 := n0_; have HB := n1_; have BK272 := n2_; have GW272 := n3_; have GE272 := n4_; clear n0_ n1_ n2_ n3_ n4_; clear hb hbox hg; have hcz89_0 : w88.cell? ⟨gb272, 0, none⟩ = some (.string (⟨#[]⟩ : ByteArray)) := (blk_cell BK272.out 0).trans rfl; have hcz89_1 : w88.cell? ⟨gb272, 1, none⟩ = some (.int .i64 0) := (blk_cell BK272.out 1).trans rfl; have hcz89_2 : w88.cell? ⟨gb272, 2, none⟩ = some (.int .i64 0) := (blk_cell BK272.out 2).trans rfl; have hfz89_0 := blk_frozen BK272.out 0; have hfz89_1 := blk_frozen BK272.out 1; have hfz89_2 := blk_frozen BK272.out 2; have p273 : 0 ≤ (x21_6 : Int) := of_decide_eq_true (by first | (with_reducible assumption) | assumption); have q273 : x21_6 < (t225.length : Int) := of_decide_eq_true (by first | (with_reducible assumption) | assumption); obtain ⟨ad273, e273, hx273_0, hx273_1, hx273_2⟩ := at_T28 (Kd.R_reads' HO_5.out).2.2 x21_6 p273 q273; obtain rfl : ad266 = ad273 := (by injection e273); have hn273_0 : ad266.block ≠ gb272 := Kd.own_blk (Kd.R_away HO_5.out (fun _ hk => hk.2)); have hn273_1 : ad266.block ≠ gb272 := Kd.own_blk (Kd.R_away HO_5.out (fun _ hk => hk.2)); have hn273_2 : ad266.block ≠ gb272 := Kd.own_blk (Kd.R_away HO_5.out (fun _ hk => hk.2)); replace hx273_0 := (cell_far (p := ⟨gb272, 0, none⟩) (by first | (rw [add_block]; exact hn273_0) | (show (Addr.add _ _).block ≠ _; rw [add_block]; exact hn273_0) | exact hn273_0) (.string t268)).trans hx273_0; replace hx273_1 := (cell_far (p := ⟨gb272, 0, none⟩) (by first | (rw [add_block]; exact hn273_0) | (show (Addr.add _ _).block ≠ _; rw [add_block]; exact hn273_0) | exact hn273_0) (.string t268)).trans hx273_1; replace hx273_2 := (cell_far (p := ⟨gb272, 0, none⟩) (by first | (rw [add_block]; exact hn273_0) | (show (Addr.add _ _).block ≠ _; rw [add_block]; exact hn273_0) | exact hn273_0) (.string t268)).trans hx273_2; replace hx273_0 := (cell_far (p := ⟨gb272, 1, none⟩) (by first | (rw [add_block]; exact hn273_1) | (show (Addr.add _ _).block ≠ _; rw [add_block]; exact hn273_1) | exact hn273_1) (.int .i64 t269)).trans hx273_0; replace hx273_1 := (cell_far (p := ⟨gb272, 1, none⟩) (by first | (rw [add_block]; exact hn273_1) | (show (Addr.add _ _).block ≠ _; rw [add_block]; exact hn273_1) | exact hn273_1) (.int .i64 t269)).trans hx273_1; replace hx273_2 := (cell_far (p := ⟨gb272, 1, none⟩) (by first | (rw [add_block]; exact hn273_1) | (show (Addr.add _ _).block ≠ _; rw [add_block]; exact hn273_1) | exact hn273_1) (.int .i64 t269)).trans hx273_2; replace hx273_0 := (cell_far (p := ⟨gb272, 2, none⟩) (by first | (rw [add_block]; exact hn273_2) | (show (Addr.add _ _).block ≠ _; rw [add_block]; exact hn273_2) | exact hn273_2) (.int .i64 t270)).trans hx273_0; replace hx273_1 := (cell_far (p := ⟨gb272, 2, none⟩) (by first | (rw [add_block]; exact hn273_2) | (show (Addr.add _ _).block ≠ _; rw [add_block]; exact hn273_2) | exact hn273_2) (.int .i64 t270)).trans hx273_1; replace hx273_2 := (cell_far (p := ⟨gb272, 2, none⟩) (by first | (rw [add_block]; exact hn273_2) | (show (Addr.add _ _).block ≠ _; rw [add_block]; exact hn273_2) | exact hn273_2) (.int .i64 t270)).trans hx273_2; clear hn273_0; clear hn273_1; clear hn273_2; replace p273 := eq_true p273; replace q273 := eq_true q273))
                            repeat (go_quiet (first | (go_at_call 13; (with_reducible refine (impl_MeterText.calls k6 ((rd_T28 t225 x21_6).f0) ((rd_T28 t225 x21_6).f1) ((rd_T28 t225 x21_6).f2) t267 _ ?side1 A78.out).mono ?_); (case side1 => exact wok_ HWOK_.out (by repeat (first | (with_reducible first | exact HB.out | apply below_alloc | apply pw_below_drewN | apply below_drew1) | exact HB.out))); rintro e w86 ⟨rfl, hb⟩; have n0_ := Aside0.mk (Kd.R_below (by (with_reducible repeat (first | apply Kd.R_alloc | apply Kd.R_drewN | apply Kd.R_drew)); exact HO_5.out) hb); have n1_ := Aside0.mk (below_step (by repeat (first | (with_reducible first | exact HB.out | apply below_alloc | apply pw_below_drewN | apply below_drew1) | exact HB.out)) hb); clear HO_5; clear HB; have HO_5 := n0_; have HB := n1_; clear n0_ n1_; (try clear hb); (try clear hb2); (try clear hk); (try clear hi)) | (go_at_call 12; (with_reducible refine (impl_ReadMeter.calls k6 t267 t268 t269 t270 true _ ?side1 A79.out).mono ?_); (case side1 => exact wok_ HWOK_.out (by repeat (first | (with_reducible first | exact HB.out | apply below_alloc | apply pw_below_drewN | apply below_drew1) | exact HB.out))); rintro e w87 ⟨rfl, hb⟩; have n0_ := Aside0.mk (Kd.R_below (by (with_reducible repeat (first | apply Kd.R_alloc | apply Kd.R_drewN | apply Kd.R_drew)); exact HO_5.out) hb); have n1_ := Aside0.mk (below_step (by repeat (first | (with_reducible first | exact HB.out | apply below_alloc | apply pw_below_drewN | apply below_drew1) | exact HB.out)) hb); clear HO_5; clear HB; have HO_5 := n0_; have HB := n1_; clear n0_ n1_; (try clear hb); (try clear hb2); (try clear hk); (try clear hi)) | ((with_reducible refine gate_dst (N := 22) rfl ?_); (try (refine gate_guard (by rfl) ?_; dsimp only)); refine box_event ?hg (N := 22) ?hd (cs := #[.string (⟨#[]⟩ : ByteArray), .int .i64 0, .int .i64 0]) (t := 28) ?hr ?_; (case hd => rfl); (case hg => rfl); (case hr => first | (go_simp; done) | (go_simp; rfl)); intro gb272 hg w88 hbox hb; have n0_ := Aside0.mk (Kd.R_below (Kd.R_elderB (by (with_reducible repeat (first | apply Kd.R_alloc | apply Kd.R_drewN | apply Kd.R_drew)); exact HO_5.out) gb272 (Nat.le_of_eq hg.symm)) hb); have n1_ := Aside0.mk (below_step (by repeat (first | (with_reducible first | exact HB.out | apply below_alloc | apply pw_below_drewN | apply below_drew1) | exact HB.out)) hb); have n2_ := Aside0.mk (hbox); have n3_ := Aside0.mk ((by rw [hg]; exact (below_size (by repeat (first | (with_reducible first | exact HB.out | apply below_alloc | apply pw_below_drewN | apply below_drew1) | exact HB.out))) : w.heap.size ≤ gb272)); have n4_ := Aside0.mk ((by rw [hg]; exact (below_size (by repeat (first | (with_reducible first | exact HB.out | apply below_alloc | apply pw_below_drewN | apply below_drew1) | exact HB.out))) : w.heap.size ≤ gb272)); clear HO_5; clear HB; have HO_5 := n0_; have HB := n1_; have BK272 := n2_; have GW272 := n3_; have GE272 := n4_; clear n0_ n1_ n2_ n3_ n4_; clear hb hbox hg; have hcz89_0 : w88.cell? ⟨gb272, 0, none⟩ = some (.string (⟨#[]⟩ : ByteArray)) := (blk_cell BK272.out 0).trans rfl; have hcz89_1 : w88.cell? ⟨gb272, 1, none⟩ = some (.int .i64 0) := (blk_cell BK272.out 1).trans rfl; have hcz89_2 : w88.cell? ⟨gb272, 2, none⟩ = some (.int .i64 0) := (blk_cell BK272.out 2).trans rfl; have hfz89_0 := blk_frozen BK272.out 0; have hfz89_1 := blk_frozen BK272.out 1; have hfz89_2 := blk_frozen BK272.out 2; have p273 : 0 ≤ (x21_6 : Int) := of_decide_eq_true (by first | (with_reducible assumption) | assumption); have q273 : x21_6 < (t225.length : Int) := of_decide_eq_true (by first | (with_reducible assumption) | assumption); obtain ⟨ad273, e273, hx273_0, hx273_1, hx273_2⟩ := at_T28 (Kd.R_reads' HO_5.out).2.2 x21_6 p273 q273; obtain rfl : ad266 = ad273 := (by injection e273); have hn273_0 : ad266.block ≠ gb272 := Kd.own_blk (Kd.R_away HO_5.out (fun _ hk => hk.2)); have hn273_1 : ad266.block ≠ gb272 := Kd.own_blk (Kd.R_away HO_5.out (fun _ hk => hk.2)); have hn273_2 : ad266.block ≠ gb272 := Kd.own_blk (Kd.R_away HO_5.out (fun _ hk => hk.2)); replace hx273_0 := (cell_far (p := ⟨gb272, 0, none⟩) (by first | (rw [add_block]; exact hn273_0) | (show (Addr.add _ _).block ≠ _; rw [add_block]; exact hn273_0) | exact hn273_0) (.string t268)).trans hx273_0; replace hx273_1 := (cell_far (p := ⟨gb272, 0, none⟩) (by first | (rw [add_block]; exact hn273_0) | (show (Addr.add _ _).block ≠ _; rw [add_block]; exact hn273_0) | exact hn273_0) (.string t268)).trans hx273_1; replace hx273_2 := (cell_far (p := ⟨gb272, 0, none⟩) (by first | (rw [add_block]; exact hn273_0) | (show (Addr.add _ _).block ≠ _; rw [add_block]; exact hn273_0) | exact hn273_0) (.string t268)).trans hx273_2; replace hx273_0 := (cell_far (p := ⟨gb272, 1, none⟩) (by first | (rw [add_block]; exact hn273_1) | (show (Addr.add _ _).block ≠ _; rw [add_block]; exact hn273_1) | exact hn273_1) (.int .i64 t269)).trans hx273_0; replace hx273_1 := (cell_far (p := ⟨gb272, 1, none⟩) (by first | (rw [add_block]; exact hn273_1) | (show (Addr.add _ _).block ≠ _; rw [add_block]; exact hn273_1) | exact hn273_1) (.int .i64 t269)).trans hx273_1; replace hx273_2 := (cell_far (p := ⟨gb272, 1, none⟩) (by first | (rw [add_block]; exact hn273_1) | (show (Addr.add _ _).block ≠ _; rw [add_block]; exact hn273_1) | exact hn273_1) (.int .i64 t269)).trans hx273_2; replace hx273_0 := (cell_far (p := ⟨gb272, 2, none⟩) (by first | (rw [add_block]; exact hn273_2) | (show (Addr.add _ _).block ≠ _; rw [add_block]; exact hn273_2) | exact hn273_2) (.int .i64 t270)).trans hx273_0; replace hx273_1 := (cell_far (p := ⟨gb272, 2, none⟩) (by first | (rw [add_block]; exact hn273_2) | (show (Addr.add _ _).block ≠ _; rw [add_block]; exact hn273_2) | exact hn273_2) (.int .i64 t270)).trans hx273_1; replace hx273_2 := (cell_far (p := ⟨gb272, 2, none⟩) (by first | (rw [add_block]; exact hn273_2) | (show (Addr.add _ _).block ≠ _; rw [add_block]; exact hn273_2) | exact hn273_2) (.int .i64 t270)).trans hx273_2; clear hn273_0; clear hn273_1; clear hn273_2; replace p273 := eq_true p273; replace q273 := eq_true q273)); try go_wp2_with (first | (go_at_call 13; (with_reducible refine (impl_MeterText.calls k6 ((rd_T28 t225 x21_6).f0) ((rd_T28 t225 x21_6).f1) ((rd_T28 t225 x21_6).f2) t267 _ ?side1 A78.out).mono ?_); (case side1 => exact wok_ HWOK_.out (by repeat (first | (with_reducible first | exact HB.out | apply below_alloc | apply pw_below_drewN | apply below_drew1) | exact HB.out))); rintro e w86 ⟨rfl, hb⟩; have n0_ := Aside0.mk (Kd.R_below (by (with_reducible repeat (first | apply Kd.R_alloc | apply Kd.R_drewN | apply Kd.R_drew)); exact HO_5.out) hb); have n1_ := Aside0.mk (below_step (by repeat (first | (with_reducible first | exact HB.out | apply below_alloc | apply pw_below_drewN | apply below_drew1) | exact HB.out)) hb); clear HO_5; clear HB; have HO_5 := n0_; have HB := n1_; clear n0_ n1_; (try clear hb); (try clear hb2); (try clear hk); (try clear hi)) | (go_at_call 12; (with_reducible refine (impl_ReadMeter.calls k6 t267 t268 t269 t270 true _ ?side1 A79.out).mono ?_); (case side1 => exact wok_ HWOK_.out (by repeat (first | (with_reducible first | exact HB.out | apply below_alloc | apply pw_below_drewN | apply below_drew1) | exact HB.out))); rintro e w87 ⟨rfl, hb⟩; have n0_ := Aside0.mk (Kd.R_below (by (with_reducible repeat (first | apply Kd.R_alloc | apply Kd.R_drewN | apply Kd.R_drew)); exact HO_5.out) hb); have n1_ := Aside0.mk (below_step (by repeat (first | (with_reducible first | exact HB.out | apply below_alloc | apply pw_below_drewN | apply below_drew1) | exact HB.out)) hb); clear HO_5; clear HB; have HO_5 := n0_; have HB := n1_; clear n0_ n1_; (try clear hb); (try clear hb2); (try clear hk); (try clear hi)) | ((with_reducible refine gate_dst (N := 22) rfl ?_); (try (refine gate_guard (by rfl) ?_; dsimp only)); refine box_event ?hg (N := 22) ?hd (cs := #[.string (⟨#[]⟩ : ByteArray), .int .i64 0, .int .i64 0]) (t := 28) ?hr ?_; (case hd => rfl); (case hg => rfl); (case hr => first | (go_simp; done) | (go_simp; rfl)); intro gb272 hg w88 hbox hb; have n0_ := Aside0.mk (Kd.R_below (Kd.R_elderB (by (with_reducible repeat (first | apply Kd.R_alloc | apply Kd.R_drewN | apply Kd.R_drew)); exact HO_5.out) gb272 (Nat.le_of_eq hg.symm)) hb); have n1_ := Aside0.mk (below_step (by repeat (first | (with_reducible first | exact HB.out | apply below_alloc | apply pw_below_drewN | apply below_drew1) | exact HB.out)) hb); have n2_ := Aside0.mk (hbox); have n3_ := Aside0.mk ((by rw [hg]; exact (below_size (by repeat (first | (with_reducible first | exact HB.out | apply below_alloc | apply pw_below_drewN | apply below_drew1) | exact HB.out))) : w.heap.size ≤ gb272)); have n4_ := Aside0.mk ((by rw [hg]; exact (below_size (by repeat (first | (with_reducible first | exact HB.out | apply below_alloc | apply pw_below_drewN | apply below_drew1) | exact HB.out))) : w.heap.size ≤ gb272)); clear HO_5; clear HB; have HO_5 := n0_; have HB := n1_; have BK272 := n2_; have GW272 := n3_; have GE272 := n4_; clear n0_ n1_ n2_ n3_ n4_; clear hb hbox hg; have hcz89_0 : w88.cell? ⟨gb272, 0, none⟩ = some (.string (⟨#[]⟩ : ByteArray)) := (blk_cell BK272.out 0).trans rfl; have hcz89_1 : w88.cell? ⟨gb272, 1, none⟩ = some (.int .i64 0) := (blk_cell BK272.out 1).trans rfl; have hcz89_2 : w88.cell? ⟨gb272, 2, none⟩ = some (.int .i64 0) := (blk_cell BK272.out 2).trans rfl; have hfz89_0 := blk_frozen BK272.out 0; have hfz89_1 := blk_frozen BK272.out 1; have hfz89_2 := blk_frozen BK272.out 2; have p273 : 0 ≤ (x21_6 : Int) := of_decide_eq_true (by first | (with_reducible assumption) | assumption); have q273 : x21_6 < (t225.length : Int) := of_decide_eq_true (by first | (with_reducible assumption) | assumption); obtain ⟨ad273, e273, hx273_0, hx273_1, hx273_2⟩ := at_T28 (Kd.R_reads' HO_5.out).2.2 x21_6 p273 q273; obtain rfl : ad266 = ad273 := (by injection e273); have hn273_0 : ad266.block ≠ gb272 := Kd.own_blk (Kd.R_away HO_5.out (fun _ hk => hk.2)); have hn273_1 : ad266.block ≠ gb272 := Kd.own_blk (Kd.R_away HO_5.out (fun _ hk => hk.2)); have hn273_2 : ad266.block ≠ gb272 := Kd.own_blk (Kd.R_away HO_5.out (fun _ hk => hk.2)); replace hx273_0 := (cell_far (p := ⟨gb272, 0, none⟩) (by first | (rw [add_block]; exact hn273_0) | (show (Addr.add _ _).block ≠ _; rw [add_block]; exact hn273_0) | exact hn273_0) (.string t268)).trans hx273_0; replace hx273_1 := (cell_far (p := ⟨gb272, 0, none⟩) (by first | (rw [add_block]; exact hn273_0) | (show (Addr.add _ _).block ≠ _; rw [add_block]; exact hn273_0) | exact hn273_0) (.string t268)).trans hx273_1; replace hx273_2 := (cell_far (p := ⟨gb272, 0, none⟩) (by first | (rw [add_block]; exact hn273_0) | (show (Addr.add _ _).block ≠ _; rw [add_block]; exact hn273_0) | exact hn273_0) (.string t268)).trans hx273_2; replace hx273_0 := (cell_far (p := ⟨gb272, 1, none⟩) (by first | (rw [add_block]; exact hn273_1) | (show (Addr.add _ _).block ≠ _; rw [add_block]; exact hn273_1) | exact hn273_1) (.int .i64 t269)).trans hx273_0; replace hx273_1 := (cell_far (p := ⟨gb272, 1, none⟩) (by first | (rw [add_block]; exact hn273_1) | (show (Addr.add _ _).block ≠ _; rw [add_block]; exact hn273_1) | exact hn273_1) (.int .i64 t269)).trans hx273_1; replace hx273_2 := (cell_far (p := ⟨gb272, 1, none⟩) (by first | (rw [add_block]; exact hn273_1) | (show (Addr.add _ _).block ≠ _; rw [add_block]; exact hn273_1) | exact hn273_1) (.int .i64 t269)).trans hx273_2; replace hx273_0 := (cell_far (p := ⟨gb272, 2, none⟩) (by first | (rw [add_block]; exact hn273_2) | (show (Addr.add _ _).block ≠ _; rw [add_block]; exact hn273_2) | exact hn273_2) (.int .i64 t270)).trans hx273_0; replace hx273_1 := (cell_far (p := ⟨gb272, 2, none⟩) (by first | (rw [add_block]; exact hn273_2) | (show (Addr.add _ _).block ≠ _; rw [add_block]; exact hn273_2) | exact hn273_2) (.int .i64 t270)).trans hx273_1; replace hx273_2 := (cell_far (p := ⟨gb272, 2, none⟩) (by first | (rw [add_block]; exact hn273_2) | (show (Addr.add _ _).block ≠ _; rw [add_block]; exact hn273_2) | exact hn273_2) (.int .i64 t270)).trans hx273_2; clear hn273_0; clear hn273_1; clear hn273_2; replace p273 := eq_true p273; replace q273 := eq_true q273)))
                            go_roundg k6
                            case measure => have := HK1.out; have := HK2.out; have := HJ20.out; have := HJ39.out; have := HK5.out; have := HK6.out; omega
                            case rel => exact ⟨(wrap64 (x21_6 + 1)), (by first | rfl | (simp; done) | (simp [*]; done)), H', ⟨by have := HK1.out; have := HK2.out; have := HJ20.out; have := HJ39.out; have := HK5.out; have := HK6.out; omega⟩, ⟨by (with_reducible repeat (first | apply Kd.R_alloc | apply Kd.R_drewN | apply Kd.R_drew)); exact Kd.R_mono (Kd.R_far (p := ⟨gb272, 2, none⟩) (Kd.R_far (p := ⟨gb272, 1, none⟩) (Kd.R_far (p := ⟨gb272, 0, none⟩) (Kd.R_mono HO_5.out (fun k_ hk => (⟨hk, hk.2⟩ : _ ∧ k_ ≠ gb272))) (fun _ hk => hk.2) (.string t268)) (fun _ hk => hk.2) (.int .i64 t269)) (fun _ hk => hk.2) (.int .i64 t270)) (fun _ hk => trivial)⟩, ⟨by repeat (first | (with_reducible first | exact HB.out | apply below_alloc | apply pw_below_drewN | apply below_drew1 | refine below_set ?_ GE272.out) | exact HB.out)⟩⟩
                          ·
                           replace c80 := Bool.eq_false_iff.mpr c80
                           subst c80
                           have H1 : (some false) = some r := by rw [if_neg (show ¬ (false = true) by decide)] at H; exact H
                           clear H
                           have H := H1
                           clear H1
                           obtain rfl := Option.some.inj H
                           have p266 : 0 ≤ (x21_6 : Int) := of_decide_eq_true (by first | (with_reducible assumption) | assumption)
                           have q266 : x21_6 < (t225.length : Int) := of_decide_eq_true (by first | (with_reducible assumption) | assumption)
                           obtain ⟨ad266, e266, hx266_0, hx266_1, hx266_2⟩ := at_T28 (Kd.R_reads' HO_5.out).2.2 x21_6 p266 q266
                           cases e266
                           replace p266 := eq_true p266
                           replace q266 := eq_true q266
                           go_wp2_with (first | (go_at_call 13; (with_reducible refine (impl_MeterText.calls k6 ((rd_T28 t225 x21_6).f0) ((rd_T28 t225 x21_6).f1) ((rd_T28 t225 x21_6).f2) t267 _ ?side1 A78.out).mono ?_); (case side1 => exact wok_ HWOK_.out (by repeat (first | (with_reducible first | exact HB.out | apply below_alloc | apply pw_below_drewN | apply below_drew1) | exact HB.out))); rintro e w90 ⟨rfl, hb⟩; have n0_ := Aside0.mk (Kd.R_below (by (with_reducible repeat (first | apply Kd.R_alloc | apply Kd.R_drewN | apply Kd.R_drew)); exact HO_5.out) hb); have n1_ := Aside0.mk (below_step (by repeat (first | (with_reducible first | exact HB.out | apply below_alloc | apply pw_below_drewN | apply below_drew1) | exact HB.out)) hb); clear HO_5; clear HB; have HO_5 := n0_; have HB := n1_; clear n0_ n1_; (try clear hb); (try clear hb2); (try clear hk); (try clear hi)) | (go_at_call 12; (with_reducible refine (impl_ReadMeter.calls k6 t267 t268 t269 t270 false _ ?side1 A79.out).mono ?_); (case side1 => exact wok_ HWOK_.out (by repeat (first | (with_reducible first | exact HB.out | apply below_alloc | apply pw_below_drewN | apply below_drew1) | exact HB.out))); rintro e w91 ⟨rfl, hb⟩; have n0_ := Aside0.mk (Kd.R_below (by (with_reducible repeat (first | apply Kd.R_alloc | apply Kd.R_drewN | apply Kd.R_drew)); exact HO_5.out) hb); have n1_ := Aside0.mk (below_step (by repeat (first | (with_reducible first | exact HB.out | apply below_alloc | apply pw_below_drewN | apply below_drew1) | exact HB.out)) hb); clear HO_5; clear HB; have HO_5 := n0_; have HB := n1_; clear n0_ n1_; (try clear hb); (try clear hb2); (try clear hk); (try clear hi)) | ((with_reducible refine gate_dst (N := 22) rfl ?_); (try (refine gate_guard (by rfl) ?_; dsimp only)); refine box_event ?hg (N := 22) ?hd (cs := #[.string (⟨#[]⟩ : ByteArray), .int .i64 0, .int .i64 0]) (t := 28) ?hr ?_; (case hd => rfl); (case hg => rfl); (case hr => first | (go_simp; done) | (go_simp; rfl)); intro gb272 hg w92 hbox hb; have n0_ := Aside0.mk (Kd.R_below (Kd.R_elderB (by (with_reducible repeat (first | apply Kd.R_alloc | apply Kd.R_drewN | apply Kd.R_drew)); exact HO_5.out) gb272 (Nat.le_of_eq hg.symm)) hb); have n1_ := Aside0.mk (below_step (by repeat (first | (with_reducible first | exact HB.out | apply below_alloc | apply pw_below_drewN | apply below_drew1) | exact HB.out)) hb); have n2_ := Aside0.mk (hbox); have n3_ := Aside0.mk ((by rw [hg]; exact (below_size (by repeat (first | (with_reducible first | exact HB.out | apply below_alloc | apply pw_below_drewN | apply below_drew1) | exact HB.out))) : w.heap.size ≤ gb272)); have n4_ := Aside0.mk ((by rw [hg]; exact (below_size (by repeat (first | (with_reducible first | exact HB.out | apply below_alloc | apply pw_below_drewN | apply below_drew1) | exact HB.out))) : w.heap.size ≤ gb272)); clear HO_5; clear HB; have HO_5 := n0_; have HB := n1_; have BK272 := n2_; have GW272 := n3_; have GE272 := n4_; clear n0_ n1_ n2_ n3_ n4_; clear hb hbox hg; have hcz93_0 : w92.cell? ⟨gb272, 0, none⟩ = some (.string (⟨#[]⟩ : ByteArray)) := (blk_cell BK272.out 0).trans rfl; have hcz93_1 : w92.cell? ⟨gb272, 1, none⟩ = some (.int .i64 0) := (blk_cell BK272.out 1).trans rfl; have hcz93_2 : w92.cell? ⟨gb272, 2, none⟩ = some (.int .i64 0) := (blk_cell BK272.out 2).trans rfl; have hfz93_0 := blk_frozen BK272.out 0; have hfz93_1 := blk_frozen BK272.out 1; have hfz93_2 := blk_frozen BK272.out 2))
                           repeat (go_quiet (first | (go_at_call 13; (with_reducible refine (impl_MeterText.calls k6 ((rd_T28 t225 x21_6).f0) ((rd_T28 t225 x21_6).f1) ((rd_T28 t225 x21_6).f2) t267 _ ?side1 A78.out).mono ?_); (case side1 => exact wok_ HWOK_.out (by repeat (first | (with_reducible first | exact HB.out | apply below_alloc | apply pw_below_drewN | apply below_drew1) | exact HB.out))); rintro e w90 ⟨rfl, hb⟩; have n0_ := Aside0.mk (Kd.R_below (by (with_reducible repeat (first | apply Kd.R_alloc | apply Kd.R_drewN | apply Kd.R_drew)); exact HO_5.out) hb); have n1_ := Aside0.mk (below_step (by repeat (first | (with_reducible first | exact HB.out | apply below_alloc | apply pw_below_drewN | apply below_drew1) | exact HB.out)) hb); clear HO_5; clear HB; have HO_5 := n0_; have HB := n1_; clear n0_ n1_; (try clear hb); (try clear hb2); (try clear hk); (try clear hi)) | (go_at_call 12; (with_reducible refine (impl_ReadMeter.calls k6 t267 t268 t269 t270 false _ ?side1 A79.out).mono ?_); (case side1 => exact wok_ HWOK_.out (by repeat (first | (with_reducible first | exact HB.out | apply below_alloc | apply pw_below_drewN | apply below_drew1) | exact HB.out))); rintro e w91 ⟨rfl, hb⟩; have n0_ := Aside0.mk (Kd.R_below (by (with_reducible repeat (first | apply Kd.R_alloc | apply Kd.R_drewN | apply Kd.R_drew)); exact HO_5.out) hb); have n1_ := Aside0.mk (below_step (by repeat (first | (with_reducible first | exact HB.out | apply below_alloc | apply pw_below_drewN | apply below_drew1) | exact HB.out)) hb); clear HO_5; clear HB; have HO_5 := n0_; have HB := n1_; clear n0_ n1_; (try clear hb); (try clear hb2); (try clear hk); (try clear hi)) | ((with_reducible refine gate_dst (N := 22) rfl ?_); (try (refine gate_guard (by rfl) ?_; dsimp only)); refine box_event ?hg (N := 22) ?hd (cs := #[.string (⟨#[]⟩ : ByteArray), .int .i64 0, .int .i64 0]) (t := 28) ?hr ?_; (case hd => rfl); (case hg => rfl); (case hr => first | (go_simp; done) | (go_simp; rfl)); intro gb272 hg w92 hbox hb; have n0_ := Aside0.mk (Kd.R_below (Kd.R_elderB (by (with_reducible repeat (first | apply Kd.R_alloc | apply Kd.R_drewN | apply Kd.R_drew)); exact HO_5.out) gb272 (Nat.le_of_eq hg.symm)) hb); have n1_ := Aside0.mk (below_step (by repeat (first | (with_reducible first | exact HB.out | apply below_alloc | apply pw_below_drewN | apply below_drew1) | exact HB.out)) hb); have n2_ := Aside0.mk (hbox); have n3_ := Aside0.mk ((by rw [hg]; exact (below_size (by repeat (first | (with_reducible first | exact HB.out | apply below_alloc | apply pw_below_drewN | apply below_drew1) | exact HB.out))) : w.heap.size ≤ gb272)); have n4_ := Aside0.mk ((by rw [hg]; exact (below_size (by repeat (first | (with_reducible first | exact HB.out | apply below_alloc | apply pw_below_drewN | apply below_drew1) | exact HB.out))) : w.heap.size ≤ gb272)); clear HO_5; clear HB; have HO_5 := n0_; have HB := n1_; have BK272 := n2_; have GW272 := n3_; have GE272 := n4_; clear n0_ n1_ n2_ n3_ n4_; clear hb hbox hg; have hcz93_0 : w92.cell? ⟨gb272, 0, none⟩ = some (.string (⟨#[]⟩ : ByteArray)) := (blk_cell BK272.out 0).trans rfl; have hcz93_1 : w92.cell? ⟨gb272, 1, none⟩ = some (.int .i64 0) := (blk_cell BK272.out 1).trans rfl; have hcz93_2 : w92.cell? ⟨gb272, 2, none⟩ = some (.int .i64 0) := (blk_cell BK272.out 2).trans rfl; have hfz93_0 := blk_frozen BK272.out 0; have hfz93_1 := blk_frozen BK272.out 1; have hfz93_2 := blk_frozen BK272.out 2)); try go_wp2_with (first | (go_at_call 13; (with_reducible refine (impl_MeterText.calls k6 ((rd_T28 t225 x21_6).f0) ((rd_T28 t225 x21_6).f1) ((rd_T28 t225 x21_6).f2) t267 _ ?side1 A78.out).mono ?_); (case side1 => exact wok_ HWOK_.out (by repeat (first | (with_reducible first | exact HB.out | apply below_alloc | apply pw_below_drewN | apply below_drew1) | exact HB.out))); rintro e w90 ⟨rfl, hb⟩; have n0_ := Aside0.mk (Kd.R_below (by (with_reducible repeat (first | apply Kd.R_alloc | apply Kd.R_drewN | apply Kd.R_drew)); exact HO_5.out) hb); have n1_ := Aside0.mk (below_step (by repeat (first | (with_reducible first | exact HB.out | apply below_alloc | apply pw_below_drewN | apply below_drew1) | exact HB.out)) hb); clear HO_5; clear HB; have HO_5 := n0_; have HB := n1_; clear n0_ n1_; (try clear hb); (try clear hb2); (try clear hk); (try clear hi)) | (go_at_call 12; (with_reducible refine (impl_ReadMeter.calls k6 t267 t268 t269 t270 false _ ?side1 A79.out).mono ?_); (case side1 => exact wok_ HWOK_.out (by repeat (first | (with_reducible first | exact HB.out | apply below_alloc | apply pw_below_drewN | apply below_drew1) | exact HB.out))); rintro e w91 ⟨rfl, hb⟩; have n0_ := Aside0.mk (Kd.R_below (by (with_reducible repeat (first | apply Kd.R_alloc | apply Kd.R_drewN | apply Kd.R_drew)); exact HO_5.out) hb); have n1_ := Aside0.mk (below_step (by repeat (first | (with_reducible first | exact HB.out | apply below_alloc | apply pw_below_drewN | apply below_drew1) | exact HB.out)) hb); clear HO_5; clear HB; have HO_5 := n0_; have HB := n1_; clear n0_ n1_; (try clear hb); (try clear hb2); (try clear hk); (try clear hi)) | ((with_reducible refine gate_dst (N := 22) rfl ?_); (try (refine gate_guard (by rfl) ?_; dsimp only)); refine box_event ?hg (N := 22) ?hd (cs := #[.string (⟨#[]⟩ : ByteArray), .int .i64 0, .int .i64 0]) (t := 28) ?hr ?_; (case hd => rfl); (case hg => rfl); (case hr => first | (go_simp; done) | (go_simp; rfl)); intro gb272 hg w92 hbox hb; have n0_ := Aside0.mk (Kd.R_below (Kd.R_elderB (by (with_reducible repeat (first | apply Kd.R_alloc | apply Kd.R_drewN | apply Kd.R_drew)); exact HO_5.out) gb272 (Nat.le_of_eq hg.symm)) hb); have n1_ := Aside0.mk (below_step (by repeat (first | (with_reducible first | exact HB.out | apply below_alloc | apply pw_below_drewN | apply below_drew1) | exact HB.out)) hb); have n2_ := Aside0.mk (hbox); have n3_ := Aside0.mk ((by rw [hg]; exact (below_size (by repeat (first | (with_reducible first | exact HB.out | apply below_alloc | apply pw_below_drewN | apply below_drew1) | exact HB.out))) : w.heap.size ≤ gb272)); have n4_ := Aside0.mk ((by rw [hg]; exact (below_size (by repeat (first | (with_reducible first | exact HB.out | apply below_alloc | apply pw_below_drewN | apply below_drew1) | exact HB.out))) : w.heap.size ≤ gb272)); clear HO_5; clear HB; have HO_5 := n0_; have HB := n1_; have BK272 := n2_; have GW272 := n3_; have GE272 := n4_; clear n0_ n1_ n2_ n3_ n4_; clear hb hbox hg; have hcz93_0 : w92.cell? ⟨gb272, 0, none⟩ = some (.string (⟨#[]⟩ : ByteArray)) := (blk_cell BK272.out 0).trans rfl; have hcz93_1 : w92.cell? ⟨gb272, 1, none⟩ = some (.int .i64 0) := (blk_cell BK272.out 1).trans rfl; have hcz93_2 : w92.cell? ⟨gb272, 2, none⟩ = some (.int .i64 0) := (blk_cell BK272.out 2).trans rfl; have hfz93_0 := blk_frozen BK272.out 0; have hfz93_1 := blk_frozen BK272.out 1; have hfz93_2 := blk_frozen BK272.out 2)))
                           go_ret
                           exact ⟨by first | rfl | (simp [errW_none, errW_some] <;> rfl) | (simp [*, errW_none, errW_some] <;> rfl), by repeat (first | (with_reducible first | exact HB.out | apply below_alloc | apply pw_below_drewN | apply below_drew1 | refine below_set ?_ GE272.out) | exact HB.out)⟩
                         ·
                          rw [if_neg c77] at H
                          exact absurd H (by simp)
                        ·
                         rw [if_neg c76] at H
                         have c76b0 : decide (x21_6 < (t225.length : Int)) = false := decide_eq_false c76
                         clear c76
                         replace H := Option.bind_eq_some_iff.mp H
                         obtain ⟨t265, A940, H⟩ := H
                         replace H : (some t265) = some r := H
                         have A94 := Aside0.mk A940
                         clear A940
                         obtain rfl := Option.some.inj H
                         go_wp2_with (first | (go_at_call 14; (with_reducible refine (impl_ValidMeters.calls k6 _ _ t225 t265 _ ?side1 ?side2 A94.out).mono ?_); (case side1 => repeat (first | exact (Kd.R_reads' HO_5.out).2.2 | (with_reducible refine Kd.C_alloc ?_ _) | (with_reducible refine Kd.C_drewN ?_ _) | (with_reducible refine Kd.C_drew ?_))); (case side2 => exact (Kd.R_reads' HO_5.out).2.1); rintro e w95 ⟨rfl, hb⟩; have n0_ := Aside0.mk (Kd.R_below (by (with_reducible repeat (first | apply Kd.R_alloc | apply Kd.R_drewN | apply Kd.R_drew)); exact HO_5.out) hb); have n1_ := Aside0.mk (below_step (by repeat (first | (with_reducible first | exact HB.out | apply below_alloc | apply pw_below_drewN | apply below_drew1) | exact HB.out)) hb); clear HO_5; clear HB; have HO_5 := n0_; have HB := n1_; clear n0_ n1_; (try clear hb); (try clear hb2); (try clear hk); (try clear hi)))
                         repeat (go_quiet (first | (go_at_call 14; (with_reducible refine (impl_ValidMeters.calls k6 _ _ t225 t265 _ ?side1 ?side2 A94.out).mono ?_); (case side1 => repeat (first | exact (Kd.R_reads' HO_5.out).2.2 | (with_reducible refine Kd.C_alloc ?_ _) | (with_reducible refine Kd.C_drewN ?_ _) | (with_reducible refine Kd.C_drew ?_))); (case side2 => exact (Kd.R_reads' HO_5.out).2.1); rintro e w95 ⟨rfl, hb⟩; have n0_ := Aside0.mk (Kd.R_below (by (with_reducible repeat (first | apply Kd.R_alloc | apply Kd.R_drewN | apply Kd.R_drew)); exact HO_5.out) hb); have n1_ := Aside0.mk (below_step (by repeat (first | (with_reducible first | exact HB.out | apply below_alloc | apply pw_below_drewN | apply below_drew1) | exact HB.out)) hb); clear HO_5; clear HB; have HO_5 := n0_; have HB := n1_; clear n0_ n1_; (try clear hb); (try clear hb2); (try clear hk); (try clear hi))); try go_wp2_with (first | (go_at_call 14; (with_reducible refine (impl_ValidMeters.calls k6 _ _ t225 t265 _ ?side1 ?side2 A94.out).mono ?_); (case side1 => repeat (first | exact (Kd.R_reads' HO_5.out).2.2 | (with_reducible refine Kd.C_alloc ?_ _) | (with_reducible refine Kd.C_drewN ?_ _) | (with_reducible refine Kd.C_drew ?_))); (case side2 => exact (Kd.R_reads' HO_5.out).2.1); rintro e w95 ⟨rfl, hb⟩; have n0_ := Aside0.mk (Kd.R_below (by (with_reducible repeat (first | apply Kd.R_alloc | apply Kd.R_drewN | apply Kd.R_drew)); exact HO_5.out) hb); have n1_ := Aside0.mk (below_step (by repeat (first | (with_reducible first | exact HB.out | apply below_alloc | apply pw_below_drewN | apply below_drew1) | exact HB.out)) hb); clear HO_5; clear HB; have HO_5 := n0_; have HB := n1_; clear n0_ n1_; (try clear hb); (try clear hb2); (try clear hk); (try clear hi))))
                         go_ret
                         exact ⟨by first | rfl | (simp [errW_none, errW_some] <;> rfl) | (simp [*, errW_none, errW_some] <;> rfl), by repeat (first | (with_reducible first | exact HB.out | apply below_alloc | apply pw_below_drewN | apply below_drew1) | exact HB.out)⟩
             ·
              rw [if_neg c39] at H
              have c39b0 : (t246 == 0) = false := beq_eq_false_iff_ne.mpr c39
              have c39b1 : (t246 != 0) = true := bne_iff_ne.mpr c39
              by_cases c96 : t246 = 6
              ·
               rw [if_pos c96] at H
               have c96b0 : (t246 == 6) = true := beq_iff_eq.mpr c96
               have c96b1 : (t246 != 6) = false := bne_eq_false_iff_eq.mpr c96
               clear c96
               obtain rfl := Option.some.inj H
               go_wp2_with (first | (go_at_call 10; (with_reducible refine (impl_ZoneBounds.calls kj20 _ _ t225 t245 t246 _ ?side1 ?side2 A37.out).mono ?_); (case side1 => repeat (first | exact (Kd.R_reads' HO_5.out).2.2 | (with_reducible refine Kd.C_alloc ?_ _) | (with_reducible refine Kd.C_drewN ?_ _) | (with_reducible refine Kd.C_drew ?_))); (case side2 => exact (Kd.R_reads' HO_5.out).2.1); rintro e w97 ⟨v247, rfl, ho0, hb⟩; have n0_ := Aside0.mk (Kd.R_below (by (with_reducible repeat (first | apply Kd.R_alloc | apply Kd.R_drewN | apply Kd.R_drew)); exact HO_5.out) hb); have n1_ := Aside0.mk (Kd.S_lower ho0 (below_size (by repeat (first | (with_reducible first | exact HB.out | apply below_alloc | apply pw_below_drewN | apply below_drew1) | exact HB.out)))); have n2_ := Aside0.mk (below_step (by repeat (first | (with_reducible first | exact HB.out | apply below_alloc | apply pw_below_drewN | apply below_drew1) | exact HB.out)) hb); clear HO_5; clear HB; have HO_5 := n0_; have HO248 := n1_; have HB := n2_; clear n0_ n1_ n2_; (try clear hb); (try clear hb2); (try clear hk); (try clear hi); (try clear ho0)) | (go_at_call 11; (with_reducible refine (impl_WorstZone.calls kj20 _ _ t225 t249 t250 t251 _ ?side1 ?side2 A38.out).mono ?_); (case side1 => repeat (first | exact (Kd.R_reads' HO_5.out).2.2 | (with_reducible refine Kd.C_alloc ?_ _) | (with_reducible refine Kd.C_drewN ?_ _) | (with_reducible refine Kd.C_drew ?_))); (case side2 => exact (Kd.R_reads' HO_5.out).2.1); rintro e w98 ⟨rfl, hb⟩; have n0_ := Aside0.mk (Kd.R_below (by (with_reducible repeat (first | apply Kd.R_alloc | apply Kd.R_drewN | apply Kd.R_drew)); exact HO_5.out) hb); have n1_ := Aside0.mk (Kd.S_below (by (with_reducible repeat (first | apply Kd.S_alloc | apply Kd.S_drewN | apply Kd.S_drew)); exact HO248.out) hb); have n2_ := Aside0.mk (below_step (by repeat (first | (with_reducible first | exact HB.out | apply below_alloc | apply pw_below_drewN | apply below_drew1) | exact HB.out)) hb); clear HO_5; clear HO248; clear HB; have HO_5 := n0_; have HO248 := n1_; have HB := n2_; clear n0_ n1_ n2_; (try clear hb); (try clear hb2); (try clear hk); (try clear hi)))
               repeat (go_quiet (first | (go_at_call 10; (with_reducible refine (impl_ZoneBounds.calls kj20 _ _ t225 t245 t246 _ ?side1 ?side2 A37.out).mono ?_); (case side1 => repeat (first | exact (Kd.R_reads' HO_5.out).2.2 | (with_reducible refine Kd.C_alloc ?_ _) | (with_reducible refine Kd.C_drewN ?_ _) | (with_reducible refine Kd.C_drew ?_))); (case side2 => exact (Kd.R_reads' HO_5.out).2.1); rintro e w97 ⟨v247, rfl, ho0, hb⟩; have n0_ := Aside0.mk (Kd.R_below (by (with_reducible repeat (first | apply Kd.R_alloc | apply Kd.R_drewN | apply Kd.R_drew)); exact HO_5.out) hb); have n1_ := Aside0.mk (Kd.S_lower ho0 (below_size (by repeat (first | (with_reducible first | exact HB.out | apply below_alloc | apply pw_below_drewN | apply below_drew1) | exact HB.out)))); have n2_ := Aside0.mk (below_step (by repeat (first | (with_reducible first | exact HB.out | apply below_alloc | apply pw_below_drewN | apply below_drew1) | exact HB.out)) hb); clear HO_5; clear HB; have HO_5 := n0_; have HO248 := n1_; have HB := n2_; clear n0_ n1_ n2_; (try clear hb); (try clear hb2); (try clear hk); (try clear hi); (try clear ho0)) | (go_at_call 11; (with_reducible refine (impl_WorstZone.calls kj20 _ _ t225 t249 t250 t251 _ ?side1 ?side2 A38.out).mono ?_); (case side1 => repeat (first | exact (Kd.R_reads' HO_5.out).2.2 | (with_reducible refine Kd.C_alloc ?_ _) | (with_reducible refine Kd.C_drewN ?_ _) | (with_reducible refine Kd.C_drew ?_))); (case side2 => exact (Kd.R_reads' HO_5.out).2.1); rintro e w98 ⟨rfl, hb⟩; have n0_ := Aside0.mk (Kd.R_below (by (with_reducible repeat (first | apply Kd.R_alloc | apply Kd.R_drewN | apply Kd.R_drew)); exact HO_5.out) hb); have n1_ := Aside0.mk (Kd.S_below (by (with_reducible repeat (first | apply Kd.S_alloc | apply Kd.S_drewN | apply Kd.S_drew)); exact HO248.out) hb); have n2_ := Aside0.mk (below_step (by repeat (first | (with_reducible first | exact HB.out | apply below_alloc | apply pw_below_drewN | apply below_drew1) | exact HB.out)) hb); clear HO_5; clear HO248; clear HB; have HO_5 := n0_; have HO248 := n1_; have HB := n2_; clear n0_ n1_ n2_; (try clear hb); (try clear hb2); (try clear hk); (try clear hi))); try go_wp2_with (first | (go_at_call 10; (with_reducible refine (impl_ZoneBounds.calls kj20 _ _ t225 t245 t246 _ ?side1 ?side2 A37.out).mono ?_); (case side1 => repeat (first | exact (Kd.R_reads' HO_5.out).2.2 | (with_reducible refine Kd.C_alloc ?_ _) | (with_reducible refine Kd.C_drewN ?_ _) | (with_reducible refine Kd.C_drew ?_))); (case side2 => exact (Kd.R_reads' HO_5.out).2.1); rintro e w97 ⟨v247, rfl, ho0, hb⟩; have n0_ := Aside0.mk (Kd.R_below (by (with_reducible repeat (first | apply Kd.R_alloc | apply Kd.R_drewN | apply Kd.R_drew)); exact HO_5.out) hb); have n1_ := Aside0.mk (Kd.S_lower ho0 (below_size (by repeat (first | (with_reducible first | exact HB.out | apply below_alloc | apply pw_below_drewN | apply below_drew1) | exact HB.out)))); have n2_ := Aside0.mk (below_step (by repeat (first | (with_reducible first | exact HB.out | apply below_alloc | apply pw_below_drewN | apply below_drew1) | exact HB.out)) hb); clear HO_5; clear HB; have HO_5 := n0_; have HO248 := n1_; have HB := n2_; clear n0_ n1_ n2_; (try clear hb); (try clear hb2); (try clear hk); (try clear hi); (try clear ho0)) | (go_at_call 11; (with_reducible refine (impl_WorstZone.calls kj20 _ _ t225 t249 t250 t251 _ ?side1 ?side2 A38.out).mono ?_); (case side1 => repeat (first | exact (Kd.R_reads' HO_5.out).2.2 | (with_reducible refine Kd.C_alloc ?_ _) | (with_reducible refine Kd.C_drewN ?_ _) | (with_reducible refine Kd.C_drew ?_))); (case side2 => exact (Kd.R_reads' HO_5.out).2.1); rintro e w98 ⟨rfl, hb⟩; have n0_ := Aside0.mk (Kd.R_below (by (with_reducible repeat (first | apply Kd.R_alloc | apply Kd.R_drewN | apply Kd.R_drew)); exact HO_5.out) hb); have n1_ := Aside0.mk (Kd.S_below (by (with_reducible repeat (first | apply Kd.S_alloc | apply Kd.S_drewN | apply Kd.S_drew)); exact HO248.out) hb); have n2_ := Aside0.mk (below_step (by repeat (first | (with_reducible first | exact HB.out | apply below_alloc | apply pw_below_drewN | apply below_drew1) | exact HB.out)) hb); clear HO_5; clear HO248; clear HB; have HO_5 := n0_; have HO248 := n1_; have HB := n2_; clear n0_ n1_ n2_; (try clear hb); (try clear hb2); (try clear hk); (try clear hi))))
               go_ret
               exact ⟨by first | rfl | (simp [errW_none, errW_some] <;> rfl) | (simp [*, errW_none, errW_some] <;> rfl), by repeat (first | (with_reducible first | exact HB.out | apply below_alloc | apply pw_below_drewN | apply below_drew1) | exact HB.out)⟩
              ·
               rw [if_neg c96] at H
               have c96b0 : (t246 == 6) = false := beq_eq_false_iff_ne.mpr c96
               have c96b1 : (t246 != 6) = true := bne_iff_ne.mpr c96
               obtain rfl := Option.some.inj H
               go_wp2_with (first | (go_at_call 10; (with_reducible refine (impl_ZoneBounds.calls kj20 _ _ t225 t245 t246 _ ?side1 ?side2 A37.out).mono ?_); (case side1 => repeat (first | exact (Kd.R_reads' HO_5.out).2.2 | (with_reducible refine Kd.C_alloc ?_ _) | (with_reducible refine Kd.C_drewN ?_ _) | (with_reducible refine Kd.C_drew ?_))); (case side2 => exact (Kd.R_reads' HO_5.out).2.1); rintro e w99 ⟨v247, rfl, ho0, hb⟩; have n0_ := Aside0.mk (Kd.R_below (by (with_reducible repeat (first | apply Kd.R_alloc | apply Kd.R_drewN | apply Kd.R_drew)); exact HO_5.out) hb); have n1_ := Aside0.mk (Kd.S_lower ho0 (below_size (by repeat (first | (with_reducible first | exact HB.out | apply below_alloc | apply pw_below_drewN | apply below_drew1) | exact HB.out)))); have n2_ := Aside0.mk (below_step (by repeat (first | (with_reducible first | exact HB.out | apply below_alloc | apply pw_below_drewN | apply below_drew1) | exact HB.out)) hb); clear HO_5; clear HB; have HO_5 := n0_; have HO248 := n1_; have HB := n2_; clear n0_ n1_ n2_; (try clear hb); (try clear hb2); (try clear hk); (try clear hi); (try clear ho0)) | (go_at_call 11; (with_reducible refine (impl_WorstZone.calls kj20 _ _ t225 t249 t250 t251 _ ?side1 ?side2 A38.out).mono ?_); (case side1 => repeat (first | exact (Kd.R_reads' HO_5.out).2.2 | (with_reducible refine Kd.C_alloc ?_ _) | (with_reducible refine Kd.C_drewN ?_ _) | (with_reducible refine Kd.C_drew ?_))); (case side2 => exact (Kd.R_reads' HO_5.out).2.1); rintro e w100 ⟨rfl, hb⟩; have n0_ := Aside0.mk (Kd.R_below (by (with_reducible repeat (first | apply Kd.R_alloc | apply Kd.R_drewN | apply Kd.R_drew)); exact HO_5.out) hb); have n1_ := Aside0.mk (Kd.S_below (by (with_reducible repeat (first | apply Kd.S_alloc | apply Kd.S_drewN | apply Kd.S_drew)); exact HO248.out) hb); have n2_ := Aside0.mk (below_step (by repeat (first | (with_reducible first | exact HB.out | apply below_alloc | apply pw_below_drewN | apply below_drew1) | exact HB.out)) hb); clear HO_5; clear HO248; clear HB; have HO_5 := n0_; have HO248 := n1_; have HB := n2_; clear n0_ n1_ n2_; (try clear hb); (try clear hb2); (try clear hk); (try clear hi)))
               repeat (go_quiet (first | (go_at_call 10; (with_reducible refine (impl_ZoneBounds.calls kj20 _ _ t225 t245 t246 _ ?side1 ?side2 A37.out).mono ?_); (case side1 => repeat (first | exact (Kd.R_reads' HO_5.out).2.2 | (with_reducible refine Kd.C_alloc ?_ _) | (with_reducible refine Kd.C_drewN ?_ _) | (with_reducible refine Kd.C_drew ?_))); (case side2 => exact (Kd.R_reads' HO_5.out).2.1); rintro e w99 ⟨v247, rfl, ho0, hb⟩; have n0_ := Aside0.mk (Kd.R_below (by (with_reducible repeat (first | apply Kd.R_alloc | apply Kd.R_drewN | apply Kd.R_drew)); exact HO_5.out) hb); have n1_ := Aside0.mk (Kd.S_lower ho0 (below_size (by repeat (first | (with_reducible first | exact HB.out | apply below_alloc | apply pw_below_drewN | apply below_drew1) | exact HB.out)))); have n2_ := Aside0.mk (below_step (by repeat (first | (with_reducible first | exact HB.out | apply below_alloc | apply pw_below_drewN | apply below_drew1) | exact HB.out)) hb); clear HO_5; clear HB; have HO_5 := n0_; have HO248 := n1_; have HB := n2_; clear n0_ n1_ n2_; (try clear hb); (try clear hb2); (try clear hk); (try clear hi); (try clear ho0)) | (go_at_call 11; (with_reducible refine (impl_WorstZone.calls kj20 _ _ t225 t249 t250 t251 _ ?side1 ?side2 A38.out).mono ?_); (case side1 => repeat (first | exact (Kd.R_reads' HO_5.out).2.2 | (with_reducible refine Kd.C_alloc ?_ _) | (with_reducible refine Kd.C_drewN ?_ _) | (with_reducible refine Kd.C_drew ?_))); (case side2 => exact (Kd.R_reads' HO_5.out).2.1); rintro e w100 ⟨rfl, hb⟩; have n0_ := Aside0.mk (Kd.R_below (by (with_reducible repeat (first | apply Kd.R_alloc | apply Kd.R_drewN | apply Kd.R_drew)); exact HO_5.out) hb); have n1_ := Aside0.mk (Kd.S_below (by (with_reducible repeat (first | apply Kd.S_alloc | apply Kd.S_drewN | apply Kd.S_drew)); exact HO248.out) hb); have n2_ := Aside0.mk (below_step (by repeat (first | (with_reducible first | exact HB.out | apply below_alloc | apply pw_below_drewN | apply below_drew1) | exact HB.out)) hb); clear HO_5; clear HO248; clear HB; have HO_5 := n0_; have HO248 := n1_; have HB := n2_; clear n0_ n1_ n2_; (try clear hb); (try clear hb2); (try clear hk); (try clear hi))); try go_wp2_with (first | (go_at_call 10; (with_reducible refine (impl_ZoneBounds.calls kj20 _ _ t225 t245 t246 _ ?side1 ?side2 A37.out).mono ?_); (case side1 => repeat (first | exact (Kd.R_reads' HO_5.out).2.2 | (with_reducible refine Kd.C_alloc ?_ _) | (with_reducible refine Kd.C_drewN ?_ _) | (with_reducible refine Kd.C_drew ?_))); (case side2 => exact (Kd.R_reads' HO_5.out).2.1); rintro e w99 ⟨v247, rfl, ho0, hb⟩; have n0_ := Aside0.mk (Kd.R_below (by (with_reducible repeat (first | apply Kd.R_alloc | apply Kd.R_drewN | apply Kd.R_drew)); exact HO_5.out) hb); have n1_ := Aside0.mk (Kd.S_lower ho0 (below_size (by repeat (first | (with_reducible first | exact HB.out | apply below_alloc | apply pw_below_drewN | apply below_drew1) | exact HB.out)))); have n2_ := Aside0.mk (below_step (by repeat (first | (with_reducible first | exact HB.out | apply below_alloc | apply pw_below_drewN | apply below_drew1) | exact HB.out)) hb); clear HO_5; clear HB; have HO_5 := n0_; have HO248 := n1_; have HB := n2_; clear n0_ n1_ n2_; (try clear hb); (try clear hb2); (try clear hk); (try clear hi); (try clear ho0)) | (go_at_call 11; (with_reducible refine (impl_WorstZone.calls kj20 _ _ t225 t249 t250 t251 _ ?side1 ?side2 A38.out).mono ?_); (case side1 => repeat (first | exact (Kd.R_reads' HO_5.out).2.2 | (with_reducible refine Kd.C_alloc ?_ _) | (with_reducible refine Kd.C_drewN ?_ _) | (with_reducible refine Kd.C_drew ?_))); (case side2 => exact (Kd.R_reads' HO_5.out).2.1); rintro e w100 ⟨rfl, hb⟩; have n0_ := Aside0.mk (Kd.R_below (by (with_reducible repeat (first | apply Kd.R_alloc | apply Kd.R_drewN | apply Kd.R_drew)); exact HO_5.out) hb); have n1_ := Aside0.mk (Kd.S_below (by (with_reducible repeat (first | apply Kd.S_alloc | apply Kd.S_drewN | apply Kd.S_drew)); exact HO248.out) hb); have n2_ := Aside0.mk (below_step (by repeat (first | (with_reducible first | exact HB.out | apply below_alloc | apply pw_below_drewN | apply below_drew1) | exact HB.out)) hb); clear HO_5; clear HO248; clear HB; have HO_5 := n0_; have HO248 := n1_; have HB := n2_; clear n0_ n1_ n2_; (try clear hb); (try clear hb2); (try clear hk); (try clear hi))))
               go_ret
               exact ⟨by first | rfl | (simp [errW_none, errW_some] <;> rfl) | (simp [*, errW_none, errW_some] <;> rfl), by repeat (first | (with_reducible first | exact HB.out | apply below_alloc | apply pw_below_drewN | apply below_drew1) | exact HB.out)⟩

/-- THE ONE PURE STATEMENT of laws_FnLeaks: yours. -/
def laws_FnLeaks.Pure : Prop := ∀ (l0 : List Int) (l1 : List Int), l0.length ≤ maxLen → l0.length * 1 ≤ 140737488351232 → (∀ x ∈ l0, (Lit.int .u8 x).wf = true) → l1.length ≤ maxLen → l1.length * 1 ≤ 140737488351232 → (∀ x ∈ l1, (Lit.int .u8 x).wf = true) → ∃ k, laws_FnLeaks.f k l0 l1 = some true
theorem laws_FnLeaks.walk (P : laws_FnLeaks.Pure) (a0 : Option Addr) (len0 cap0 : Nat) (z0 : List Int) (a1 : Option Addr) (len1 cap1 : Nat) (z1 : List Int) (w : World) (w0 : (a0 = none ∧ len0 = 0 ∧ cap0 = 0 ∧ z0 = []) ∨ ∃ x, a0 = some x ∧ len0 ≤ cap0 ∧ cap0 ≤ maxLen ∧ z0.length = cap0 ∧ (∀ i, i < z0.length → w.cell? (x.add i) = some (.int .u8 (z0.getD i 0))) ∧ ∀ n ∈ z0, (Lit.int .u8 n).wf = true) (y0 : len0 * 1 ≤ 140737488351232) (w1 : (a1 = none ∧ len1 = 0 ∧ cap1 = 0 ∧ z1 = []) ∨ ∃ x, a1 = some x ∧ len1 ≤ cap1 ∧ cap1 ≤ maxLen ∧ z1.length = cap1 ∧ (∀ i, i < z1.length → w.cell? (x.add i) = some (.int .u8 (z1.getD i 0))) ∧ ∀ n ∈ z1, (Lit.int .u8 n).wf = true) (y1 : len1 * 1 ≤ 140737488351232) (ht_ : WOK w) :
  Calls Tryd.prog 3 #[.slice a0 len0 cap0, .slice a1 len1 cap1] w fun e w' => e = .returned (.bool true) ∧ Below w.heap.size w w' := by
 obtain ⟨l0, rfl, hr0, hm0, hw0, hc0⟩ := ReadsInt.ofRowC w0
 obtain ⟨l1, rfl, hr1, hm1, hw1, hc1⟩ := ReadsInt.ofRowC w1
 obtain ⟨k, h⟩ := P l0 l1 hm0 y0 hw0 hm1 y1 hw1
 refine (laws_FnLeaks.calls k _ _ l0 _ _ l1 true w (Kd.C_of_reads (d := (0 : Int)) (h1 := fun _ => rfl) hr0) hc0 (Kd.C_of_reads (d := (0 : Int)) (h1 := fun _ => rfl) hr1) hc1 ht_ h).mono ?_
 rintro e w' ⟨rfl, hd⟩
 exact ⟨rfl, hd⟩

end Go.Proofs.YtmeimhakaieagaaDoor.PFnLeaks
