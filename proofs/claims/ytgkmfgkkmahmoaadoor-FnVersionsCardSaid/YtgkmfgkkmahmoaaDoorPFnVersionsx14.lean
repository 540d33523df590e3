-- PRINTED by print.py (a twelfth state) out of the translation. Not trusted: Lean checks it.
import Derived.Test.YtgkmfgkkmahmoaaDoorPFnVersionsx0
import Derived.Test.YtgkmfgkkmahmoaaDoorPFnVersionsx2
import Derived.Test.YtgkmfgkkmahmoaaDoorPFnVersionsx4
import Derived.Test.YtgkmfgkkmahmoaaDoorPFnVersionsx6
import Derived.Test.YtgkmfgkkmahmoaaDoorPFnVersionsx7
import Derived.Test.YtgkmfgkkmahmoaaDoorPFnVersionsx8
import Derived.Test.YtgkmfgkkmahmoaaDoorPFnVersionsx9
import Derived.Test.YtgkmfgkkmahmoaaDoorPFnVersionsx10
import Derived.Test.YtgkmfgkkmahmoaaDoorPFnVersionsx11
import Derived.Test.YtgkmfgkkmahmoaaDoorPFnVersionsx12
import Derived.Test.YtgkmfgkkmahmoaaDoorPFnVersionsx13
namespace Go.Proofs.YtgkmfgkkmahmoaaDoor.PFnVersions
open Go.RowKit Go.Proofs.YtgkmfgkkmahmoaaDoorW.PrintWords Go.Proofs.YtgkmfgkkmahmoaaDoorW.PrintLast Go.Proofs.YtgkmfgkkmahmoaaDoorW.PrintMore
attribute [local go_sem] max2_int min2_int max_two min_two max_three min_three max_four min_four   -- for this text's walks alone
set_option linter.unusedVariables false
set_option linter.unusedSimpArgs false

/-! ### laws_FnVersions: function 3 -/
mutual
def laws_FnVersions.j0 : Nat → List Int → List (S48) → List (S96) → Bool → Option (Bool)
 | 0, _, _, _, _ => none
 | k + 1, x1, x5, x6, x59 => if x59 = true then (some false) else ((laws_r8At.f x1 0 (wrap64 ((x5.length : Int) + 1))).bind fun t409 => ((impl_CommitState.f k x5 t409 (⟨#[110, 101, 120, 116]⟩ : ByteArray) x6).bind fun bt410 => ((impl_UndoVersion.f k bt410.1 (wrap64 ((x5.length : Int) + 1))).bind fun bt414 => ((impl_AncestorsOf.f k bt410.1 (wrap64 ((x5.length : Int) + 1))).bind fun bt418 => ((impl_HeadsOf.f k bt410.1).bind fun bt422 => ((impl_CommonAncestor.f k bt410.1 (wrap64 ((x5.length : Int) + 1)) (wrap64 ((x5.length : Int) + 1))).bind fun bt426 => (if bt410.2 = 0 then (if (bt410.1.length : Int) = (wrap64 ((x5.length : Int) + 1)) then (if bt414.2 = 0 then (if (bt414.1.length : Int) = (wrap64 ((wrap64 ((x5.length : Int) + 1)) + 1)) then (if bt418.2 = 0 then (if bt422.2 = 0 then ((laws_r8Has.f k bt422.1 (wrap64 ((x5.length : Int) + 1))).bind fun t428 => (if t428 = true then (if bt426.2 = 0 then (if bt426.1 = (wrap64 ((x5.length : Int) + 1)) then ((spec_ValidHistory.f k bt414.1).bind fun t429 => (laws_FnVersions.j1 k x5 t409 bt410.1 (wrap64 ((x5.length : Int) + 1)) bt414.1 bt418.1 (!t429))) else (laws_FnVersions.j1 k x5 t409 bt410.1 (wrap64 ((x5.length : Int) + 1)) bt414.1 bt418.1 true)) else (laws_FnVersions.j1 k x5 t409 bt410.1 (wrap64 ((x5.length : Int) + 1)) bt414.1 bt418.1 true)) else (laws_FnVersions.j1 k x5 t409 bt410.1 (wrap64 ((x5.length : Int) + 1)) bt414.1 bt418.1 true))) else (laws_FnVersions.j1 k x5 t409 bt410.1 (wrap64 ((x5.length : Int) + 1)) bt414.1 bt418.1 true)) else (laws_FnVersions.j1 k x5 t409 bt410.1 (wrap64 ((x5.length : Int) + 1)) bt414.1 bt418.1 true)) else (laws_FnVersions.j1 k x5 t409 bt410.1 (wrap64 ((x5.length : Int) + 1)) bt414.1 bt418.1 true)) else (laws_FnVersions.j1 k x5 t409 bt410.1 (wrap64 ((x5.length : Int) + 1)) bt414.1 bt418.1 true)) else (laws_FnVersions.j1 k x5 t409 bt410.1 (wrap64 ((x5.length : Int) + 1)) bt414.1 bt418.1 true)) else (laws_FnVersions.j1 k x5 t409 bt410.1 (wrap64 ((x5.length : Int) + 1)) bt414.1 bt418.1 true))))))))
def laws_FnVersions.j1 : Nat → List (S48) → Int → List (S48) → Int → List (S48) → List Int → Bool → Option (Bool)
 | 0, _, _, _, _, _, _, _ => none
 | k + 1, x5, x12, x13, x15, x16, x18, x145 => if x145 = true then (some false) else (if x12 > 0 then (if 0 ≤ (wrap64 (x12 - 1)) then (if (wrap64 (x12 - 1)) < (x5.length : Int) then (if 0 ≤ x15 then (if x15 < (x16.length : Int) then ((spec_SameState.f k ((rd_T48 x16 x15).f3) ((rd_T48 x5 (wrap64 (x12 - 1))).f3)).bind fun t436 => (if t436 = true then ((laws_r8Has.f k x18 x12).bind fun t437 => (laws_FnVersions.j2 k x13 x15 x18 ((decide (x12 > 0)) != t437))) else (laws_FnVersions.j2 k x13 x15 x18 true))) else (none)) else (none)) else (none)) else (none)) else (if 0 ≤ x15 then (if x15 < (x16.length : Int) then ((spec_SameState.f k ((rd_T48 x16 x15).f3) (([] : List (S96)))).bind fun t445 => (if t445 = true then ((laws_r8Has.f k x18 x12).bind fun t446 => (laws_FnVersions.j4 k x13 x15 x18 ((decide (x12 > 0)) != t446))) else (laws_FnVersions.j4 k x13 x15 x18 true))) else (none)) else (none)))
def laws_FnVersions.j2 : Nat → List (S48) → Int → List Int → Bool → Option (Bool)
 | 0, _, _, _, _ => none
 | k + 1, x13, x15, x18, x170 => if x170 = true then (some false) else (laws_FnVersions.l0 k x13 x15 x18 0)
def laws_FnVersions.l0 : Nat → List (S48) → Int → List Int → Int → Option (Bool)
 | 0, _, _, _, _ => none
 | k + 1, x13, x15, x18, x25 => if x25 < (x18.length : Int) then (if 0 ≤ x25 then (if (rd x18 x25) < 1 then (some false) else (if (rd x18 x25) ≥ x15 then (some false) else (if x25 > 0 then (if 0 ≤ (wrap64 (x25 - 1)) then (if (wrap64 (x25 - 1)) < (x18.length : Int) then (if (rd x18 x25) ≥ (rd x18 (wrap64 (x25 - 1))) then (some false) else (laws_FnVersions.l0 k x13 x15 x18 (wrap64 (x25 + 1)))) else (none)) else (none)) else (laws_FnVersions.l0 k x13 x15 x18 (wrap64 (x25 + 1)))))) else (none)) else (if 0 ≤ (wrap64 (x15 - 1)) then (if (wrap64 (x15 - 1)) < (x13.length : Int) then ((impl_VersionText.f k ((rd_T48 x13 (wrap64 (x15 - 1))).f0) ((rd_T48 x13 (wrap64 (x15 - 1))).f1) ((rd_T48 x13 (wrap64 (x15 - 1))).f2) ((rd_T48 x13 (wrap64 (x15 - 1))).f3)).bind fun t443 => (some (t443.toList != ([] : List UInt8)))) else (none)) else (none))
def laws_FnVersions.j4 : Nat → List (S48) → Int → List Int → Bool → Option (Bool)
 | 0, _, _, _, _ => none
 | k + 1, x13, x15, x18, x170 => if x170 = true then (some false) else (laws_FnVersions.l0 k x13 x15 x18 0)
end
def laws_FnVersions.f (k : Nat) (l0 : List Int) (l1 : List Int) : Option (Bool) := (laws_r8Long.f l0 l1).bind fun t390 => (if t390 = true then (some true) else ((spec_R8History.f k l0).bind fun t391 => ((spec_R8State.f k l1).bind fun t394 => ((spec_R8Changed.f k l0 t394).bind fun t397 => ((impl_DiffStates.f k t394 t397).bind fun bt400 => ((impl_ApplyChanges.f k t394 bt400.1).bind fun bt404 => (if bt400.2 = 0 then (if bt404.2 = 0 then ((spec_SameState.f k bt404.1 t397).bind fun t408 => (laws_FnVersions.j0 k l1 t391 t394 (!t408))) else (laws_FnVersions.j0 k l1 t391 t394 true)) else (laws_FnVersions.j0 k l1 t391 t394 true))))))))
theorem laws_FnVersions.mono_l : ∀ k, (∀ y0 y1 y2 y3, LeO (laws_FnVersions.j0 k y0 y1 y2 y3) (laws_FnVersions.j0 (k + 1) y0 y1 y2 y3)) ∧ (∀ y0 y1 y2 y3 y4 y5 y6, LeO (laws_FnVersions.j1 k y0 y1 y2 y3 y4 y5 y6) (laws_FnVersions.j1 (k + 1) y0 y1 y2 y3 y4 y5 y6)) ∧ (∀ y0 y1 y2 y3, LeO (laws_FnVersions.j2 k y0 y1 y2 y3) (laws_FnVersions.j2 (k + 1) y0 y1 y2 y3)) ∧ (∀ y0 y1 y2 y3, LeO (laws_FnVersions.l0 k y0 y1 y2 y3) (laws_FnVersions.l0 (k + 1) y0 y1 y2 y3)) ∧ (∀ y0 y1 y2 y3, LeO (laws_FnVersions.j4 k y0 y1 y2 y3) (laws_FnVersions.j4 (k + 1) y0 y1 y2 y3))
 | 0 => ⟨fun _ _ _ _ r h => by simp [laws_FnVersions.j0] at h, fun _ _ _ _ _ _ _ r h => by simp [laws_FnVersions.j1] at h, fun _ _ _ _ r h => by simp [laws_FnVersions.j2] at h, fun _ _ _ _ r h => by simp [laws_FnVersions.l0] at h, fun _ _ _ _ r h => by simp [laws_FnVersions.j4] at h⟩
 | k + 1 => by
  obtain ⟨ih0, ih1, ih2, ih3, ih4⟩ := laws_FnVersions.mono_l k
  refine ⟨?_, ?_, ?_, ?_, ?_⟩
  ·
   intro y0 y1 y2 y3
   unfold laws_FnVersions.j0
   repeat' first
   | (with_reducible exact ih0 _ _ _ _)
   | (with_reducible exact ih1 _ _ _ _ _ _ _)
   | (with_reducible exact ih2 _ _ _ _)
   | (with_reducible exact ih3 _ _ _ _)
   | (with_reducible exact ih4 _ _ _ _)
   | (with_reducible exact impl_AncestorsOf.mono _ _ _)
   | (with_reducible exact impl_ApplyChanges.mono _ _ _)
   | (with_reducible exact impl_CommitState.mono _ _ _ _ _)
   | (with_reducible exact impl_CommonAncestor.mono _ _ _ _)
   | (with_reducible exact impl_DiffStates.mono _ _ _)
   | (with_reducible exact impl_HeadsOf.mono _ _)
   | (with_reducible exact impl_UndoVersion.mono _ _ _)
   | (with_reducible exact impl_VersionText.mono _ _ _ _ _)
   | (with_reducible exact laws_r8Has.mono _ _ _)
   | (with_reducible exact spec_R8Changed.mono _ _ _)
   | (with_reducible exact spec_R8History.mono _ _)
   | (with_reducible exact spec_R8State.mono _ _)
   | (with_reducible exact spec_SameState.mono _ _ _)
   | (with_reducible exact spec_ValidHistory.mono _ _)
   | (with_reducible exact LeO.refl _)
   | (with_reducible exact LeO.none _)
   | (with_reducible refine LeO.ite ?_ ?_)
   | (with_reducible refine LeO.bind ?_ (fun _ => ?_))
   | exact ih0 _ _ _ _
   | exact ih1 _ _ _ _ _ _ _
   | exact ih2 _ _ _ _
   | exact ih3 _ _ _ _
   | exact ih4 _ _ _ _
   | exact impl_AncestorsOf.mono _ _ _
   | exact impl_ApplyChanges.mono _ _ _
   | exact impl_CommitState.mono _ _ _ _ _
   | exact impl_CommonAncestor.mono _ _ _ _
   | exact impl_DiffStates.mono _ _ _
   | exact impl_HeadsOf.mono _ _
   | exact impl_UndoVersion.mono _ _ _
   | exact impl_VersionText.mono _ _ _ _ _
   | exact laws_r8Has.mono _ _ _
   | exact spec_R8Changed.mono _ _ _
   | exact spec_R8History.mono _ _
   | exact spec_R8State.mono _ _
   | exact spec_SameState.mono _ _ _
   | exact spec_ValidHistory.mono _ _
   | exact LeO.none _
   | refine LeO.ite ?_ ?_
   | refine LeO.bind ?_ (fun _ => ?_)
  ·
   intro y0 y1 y2 y3 y4 y5 y6
   unfold laws_FnVersions.j1
   repeat' first
   | (with_reducible exact ih0 _ _ _ _)
   | (with_reducible exact ih1 _ _ _ _ _ _ _)
   | (with_reducible exact ih2 _ _ _ _)
   | (with_reducible exact ih3 _ _ _ _)
   | (with_reducible exact ih4 _ _ _ _)
   | (with_reducible exact impl_AncestorsOf.mono _ _ _)
   | (with_reducible exact impl_ApplyChanges.mono _ _ _)
   | (with_reducible exact impl_CommitState.mono _ _ _ _ _)
   | (with_reducible exact impl_CommonAncestor.mono _ _ _ _)
   | (with_reducible exact impl_DiffStates.mono _ _ _)
   | (with_reducible exact impl_HeadsOf.mono _ _)
   | (with_reducible exact impl_UndoVersion.mono _ _ _)
   | (with_reducible exact impl_VersionText.mono _ _ _ _ _)
   | (with_reducible exact laws_r8Has.mono _ _ _)
   | (with_reducible exact spec_R8Changed.mono _ _ _)
   | (with_reducible exact spec_R8History.mono _ _)
   | (with_reducible exact spec_R8State.mono _ _)
   | (with_reducible exact spec_SameState.mono _ _ _)
   | (with_reducible exact spec_ValidHistory.mono _ _)
   | (with_reducible exact LeO.refl _)
   | (with_reducible exact LeO.none _)
   | (with_reducible refine LeO.ite ?_ ?_)
   | (with_reducible refine LeO.bind ?_ (fun _ => ?_))
   | exact ih0 _ _ _ _
   | exact ih1 _ _ _ _ _ _ _
   | exact ih2 _ _ _ _
   | exact ih3 _ _ _ _
   | exact ih4 _ _ _ _
   | exact impl_AncestorsOf.mono _ _ _
   | exact impl_ApplyChanges.mono _ _ _
   | exact impl_CommitState.mono _ _ _ _ _
   | exact impl_CommonAncestor.mono _ _ _ _
   | exact impl_DiffStates.mono _ _ _
   | exact impl_HeadsOf.mono _ _
   | exact impl_UndoVersion.mono _ _ _
   | exact impl_VersionText.mono _ _ _ _ _
   | exact laws_r8Has.mono _ _ _
   | exact spec_R8Changed.mono _ _ _
   | exact spec_R8History.mono _ _
   | exact spec_R8State.mono _ _
   | exact spec_SameState.mono _ _ _
   | exact spec_ValidHistory.mono _ _
   | exact LeO.none _
   | refine LeO.ite ?_ ?_
   | refine LeO.bind ?_ (fun _ => ?_)
  ·
   intro y0 y1 y2 y3
   unfold laws_FnVersions.j2
   repeat' first
   | (with_reducible exact ih0 _ _ _ _)
   | (with_reducible exact ih1 _ _ _ _ _ _ _)
   | (with_reducible exact ih2 _ _ _ _)
   | (with_reducible exact ih3 _ _ _ _)
   | (with_reducible exact ih4 _ _ _ _)
   | (with_reducible exact impl_AncestorsOf.mono _ _ _)
   | (with_reducible exact impl_ApplyChanges.mono _ _ _)
   | (with_reducible exact impl_CommitState.mono _ _ _ _ _)
   | (with_reducible exact impl_CommonAncestor.mono _ _ _ _)
   | (with_reducible exact impl_DiffStates.mono _ _ _)
   | (with_reducible exact impl_HeadsOf.mono _ _)
   | (with_reducible exact impl_UndoVersion.mono _ _ _)
   | (with_reducible exact impl_VersionText.mono _ _ _ _ _)
   | (with_reducible exact laws_r8Has.mono _ _ _)
   | (with_reducible exact spec_R8Changed.mono _ _ _)
   | (with_reducible exact spec_R8History.mono _ _)
   | (with_reducible exact spec_R8State.mono _ _)
   | (with_reducible exact spec_SameState.mono _ _ _)
   | (with_reducible exact spec_ValidHistory.mono _ _)
   | (with_reducible exact LeO.refl _)
   | (with_reducible exact LeO.none _)
   | (with_reducible refine LeO.ite ?_ ?_)
   | (with_reducible refine LeO.bind ?_ (fun _ => ?_))
   | exact ih0 _ _ _ _
   | exact ih1 _ _ _ _ _ _ _
   | exact ih2 _ _ _ _
   | exact ih3 _ _ _ _
   | exact ih4 _ _ _ _
   | exact impl_AncestorsOf.mono _ _ _
   | exact impl_ApplyChanges.mono _ _ _
   | exact impl_CommitState.mono _ _ _ _ _
   | exact impl_CommonAncestor.mono _ _ _ _
   | exact impl_DiffStates.mono _ _ _
   | exact impl_HeadsOf.mono _ _
   | exact impl_UndoVersion.mono _ _ _
   | exact impl_VersionText.mono _ _ _ _ _
   | exact laws_r8Has.mono _ _ _
   | exact spec_R8Changed.mono _ _ _
   | exact spec_R8History.mono _ _
   | exact spec_R8State.mono _ _
   | exact spec_SameState.mono _ _ _
   | exact spec_ValidHistory.mono _ _
   | exact LeO.none _
   | refine LeO.ite ?_ ?_
   | refine LeO.bind ?_ (fun _ => ?_)
  ·
   intro y0 y1 y2 y3
   unfold laws_FnVersions.l0
   repeat' first
   | (with_reducible exact ih0 _ _ _ _)
   | (with_reducible exact ih1 _ _ _ _ _ _ _)
   | (with_reducible exact ih2 _ _ _ _)
   | (with_reducible exact ih3 _ _ _ _)
   | (with_reducible exact ih4 _ _ _ _)
   | (with_reducible exact impl_AncestorsOf.mono _ _ _)
   | (with_reducible exact impl_ApplyChanges.mono _ _ _)
   | (with_reducible exact impl_CommitState.mono _ _ _ _ _)
   | (with_reducible exact impl_CommonAncestor.mono _ _ _ _)
   | (with_reducible exact impl_DiffStates.mono _ _ _)
   | (with_reducible exact impl_HeadsOf.mono _ _)
   | (with_reducible exact impl_UndoVersion.mono _ _ _)
   | (with_reducible exact impl_VersionText.mono _ _ _ _ _)
   | (with_reducible exact laws_r8Has.mono _ _ _)
   | (with_reducible exact spec_R8Changed.mono _ _ _)
   | (with_reducible exact spec_R8History.mono _ _)
   | (with_reducible exact spec_R8State.mono _ _)
   | (with_reducible exact spec_SameState.mono _ _ _)
   | (with_reducible exact spec_ValidHistory.mono _ _)
   | (with_reducible exact LeO.refl _)
   | (with_reducible exact LeO.none _)
   | (with_reducible refine LeO.ite ?_ ?_)
   | (with_reducible refine LeO.bind ?_ (fun _ => ?_))
   | exact ih0 _ _ _ _
   | exact ih1 _ _ _ _ _ _ _
   | exact ih2 _ _ _ _
   | exact ih3 _ _ _ _
   | exact ih4 _ _ _ _
   | exact impl_AncestorsOf.mono _ _ _
   | exact impl_ApplyChanges.mono _ _ _
   | exact impl_CommitState.mono _ _ _ _ _
   | exact impl_CommonAncestor.mono _ _ _ _
   | exact impl_DiffStates.mono _ _ _
   | exact impl_HeadsOf.mono _ _
   | exact impl_UndoVersion.mono _ _ _
   | exact impl_VersionText.mono _ _ _ _ _
   | exact laws_r8Has.mono _ _ _
   | exact spec_R8Changed.mono _ _ _
   | exact spec_R8History.mono _ _
   | exact spec_R8State.mono _ _
   | exact spec_SameState.mono _ _ _
   | exact spec_ValidHistory.mono _ _
   | exact LeO.none _
   | refine LeO.ite ?_ ?_
   | refine LeO.bind ?_ (fun _ => ?_)
  ·
   intro y0 y1 y2 y3
   unfold laws_FnVersions.j4
   repeat' first
   | (with_reducible exact ih0 _ _ _ _)
   | (with_reducible exact ih1 _ _ _ _ _ _ _)
   | (with_reducible exact ih2 _ _ _ _)
   | (with_reducible exact ih3 _ _ _ _)
   | (with_reducible exact ih4 _ _ _ _)
   | (with_reducible exact impl_AncestorsOf.mono _ _ _)
   | (with_reducible exact impl_ApplyChanges.mono _ _ _)
   | (with_reducible exact impl_CommitState.mono _ _ _ _ _)
   | (with_reducible exact impl_CommonAncestor.mono _ _ _ _)
   | (with_reducible exact impl_DiffStates.mono _ _ _)
   | (with_reducible exact impl_HeadsOf.mono _ _)
   | (with_reducible exact impl_UndoVersion.mono _ _ _)
   | (with_reducible exact impl_VersionText.mono _ _ _ _ _)
   | (with_reducible exact laws_r8Has.mono _ _ _)
   | (with_reducible exact spec_R8Changed.mono _ _ _)
   | (with_reducible exact spec_R8History.mono _ _)
   | (with_reducible exact spec_R8State.mono _ _)
   | (with_reducible exact spec_SameState.mono _ _ _)
   | (with_reducible exact spec_ValidHistory.mono _ _)
   | (with_reducible exact LeO.refl _)
   | (with_reducible exact LeO.none _)
   | (with_reducible refine LeO.ite ?_ ?_)
   | (with_reducible refine LeO.bind ?_ (fun _ => ?_))
   | exact ih0 _ _ _ _
   | exact ih1 _ _ _ _ _ _ _
   | exact ih2 _ _ _ _
   | exact ih3 _ _ _ _
   | exact ih4 _ _ _ _
   | exact impl_AncestorsOf.mono _ _ _
   | exact impl_ApplyChanges.mono _ _ _
   | exact impl_CommitState.mono _ _ _ _ _
   | exact impl_CommonAncestor.mono _ _ _ _
   | exact impl_DiffStates.mono _ _ _
   | exact impl_HeadsOf.mono _ _
   | exact impl_UndoVersion.mono _ _ _
   | exact impl_VersionText.mono _ _ _ _ _
   | exact laws_r8Has.mono _ _ _
   | exact spec_R8Changed.mono _ _ _
   | exact spec_R8History.mono _ _
   | exact spec_R8State.mono _ _
   | exact spec_SameState.mono _ _ _
   | exact spec_ValidHistory.mono _ _
   | exact LeO.none _
   | refine LeO.ite ?_ ?_
   | refine LeO.bind ?_ (fun _ => ?_)
theorem laws_FnVersions.mono : ∀ a0 a1 k, LeO (laws_FnVersions.f k a0 a1) (laws_FnVersions.f (k + 1) a0 a1) := by
 intro a0 a1 k
 obtain ⟨ih0, ih1, ih2, ih3, ih4⟩ := laws_FnVersions.mono_l k
 unfold laws_FnVersions.f
 repeat' first
   | (with_reducible exact ih0 _ _ _ _)
   | (with_reducible exact ih1 _ _ _ _ _ _ _)
   | (with_reducible exact ih2 _ _ _ _)
   | (with_reducible exact ih3 _ _ _ _)
   | (with_reducible exact ih4 _ _ _ _)
   | (with_reducible exact impl_AncestorsOf.mono _ _ _)
   | (with_reducible exact impl_ApplyChanges.mono _ _ _)
   | (with_reducible exact impl_CommitState.mono _ _ _ _ _)
   | (with_reducible exact impl_CommonAncestor.mono _ _ _ _)
   | (with_reducible exact impl_DiffStates.mono _ _ _)
   | (with_reducible exact impl_HeadsOf.mono _ _)
   | (with_reducible exact impl_UndoVersion.mono _ _ _)
   | (with_reducible exact impl_VersionText.mono _ _ _ _ _)
   | (with_reducible exact laws_r8Has.mono _ _ _)
   | (with_reducible exact spec_R8Changed.mono _ _ _)
   | (with_reducible exact spec_R8History.mono _ _)
   | (with_reducible exact spec_R8State.mono _ _)
   | (with_reducible exact spec_SameState.mono _ _ _)
   | (with_reducible exact spec_ValidHistory.mono _ _)
   | (with_reducible exact LeO.refl _)
   | (with_reducible exact LeO.none _)
   | (with_reducible refine LeO.ite ?_ ?_)
   | (with_reducible refine LeO.bind ?_ (fun _ => ?_))
   | exact ih0 _ _ _ _
   | exact ih1 _ _ _ _ _ _ _
   | exact ih2 _ _ _ _
   | exact ih3 _ _ _ _
   | exact ih4 _ _ _ _
   | exact impl_AncestorsOf.mono _ _ _
   | exact impl_ApplyChanges.mono _ _ _
   | exact impl_CommitState.mono _ _ _ _ _
   | exact impl_CommonAncestor.mono _ _ _ _
   | exact impl_DiffStates.mono _ _ _
   | exact impl_HeadsOf.mono _ _
   | exact impl_UndoVersion.mono _ _ _
   | exact impl_VersionText.mono _ _ _ _ _
   | exact laws_r8Has.mono _ _ _
   | exact spec_R8Changed.mono _ _ _
   | exact spec_R8History.mono _ _
   | exact spec_R8State.mono _ _
   | exact spec_SameState.mono _ _ _
   | exact spec_ValidHistory.mono _ _
   | exact LeO.none _
   | refine LeO.ite ?_ ?_
   | refine LeO.bind ?_ (fun _ => ?_)
set_option maxHeartbeats 8000000 in
set_option maxRecDepth 100000 in
theorem laws_FnVersions.calls (k : Nat) (A0 : Option Addr) (c0 : Nat) (l0 : List Int) (A1 : Option Addr) (c1 : Nat) (l1 : List Int) (r : Bool) (w : World) (hr0 : Kd.C (Kd.int .u8) w A0 l0.length l0) (hc0 : l0.length ≤ c0) (hr1 : Kd.C (Kd.int .u8) w A1 l1.length l1) (hc1 : l1.length ≤ c1) (ht_ : WOK w) (h : laws_FnVersions.f k l0 l1 = some r) :
  Calls Tryd.prog 3 #[.slice A0 l0.length c0, .slice A1 l1.length c1] w fun e w' => e = .returned (.bool r) ∧ Below w.heap.size w w' := by
 have HWOK_ := Aside0.mk ht_
 clear ht_
 have hu48 := Tryd.underlying48
 have HR0 := Aside0.mk hr0
 have HC0 := Aside0.mk hc0
 clear hr0 hc0
 have HR1 := Aside0.mk hr1
 have HC1 := Aside0.mk hc1
 clear hr1 hc1
 have HB := Aside0.mk (Below.refl w.heap.size w)
 have H : ((laws_r8Long.f l0 l1).bind fun t390 => (if t390 = true then (some true) else ((spec_R8History.f k l0).bind fun t391 => ((spec_R8State.f k l1).bind fun t394 => ((spec_R8Changed.f k l0 t394).bind fun t397 => ((impl_DiffStates.f k t394 t397).bind fun bt400 => ((impl_ApplyChanges.f k t394 bt400.1).bind fun bt404 => (if bt400.2 = 0 then (if bt404.2 = 0 then ((spec_SameState.f k bt404.1 t397).bind fun t408 => (laws_FnVersions.j0 k l1 t391 t394 (!t408))) else (laws_FnVersions.j0 k l1 t391 t394 true)) else (laws_FnVersions.j0 k l1 t391 t394 true))))))))) = some r := h
 clear h
 replace H := Option.bind_eq_some_iff.mp H
 obtain ⟨t390, A30, H⟩ := H
 replace H : (if t390 = true then (some true) else ((spec_R8History.f k l0).bind fun t391 => ((spec_R8State.f k l1).bind fun t394 => ((spec_R8Changed.f k l0 t394).bind fun t397 => ((impl_DiffStates.f k t394 t397).bind fun bt400 => ((impl_ApplyChanges.f k t394 bt400.1).bind fun bt404 => (if bt400.2 = 0 then (if bt404.2 = 0 then ((spec_SameState.f k bt404.1 t397).bind fun t408 => (laws_FnVersions.j0 k l1 t391 t394 (!t408))) else (laws_FnVersions.j0 k l1 t391 t394 true)) else (laws_FnVersions.j0 k l1 t391 t394 true)))))))) = some r := H
 have A3 := Aside0.mk A30
 clear A30
 by_cases c4 : t390 = true
 ·
  subst c4
  have H1 : (some true) = some r := by rw [if_pos rfl] at H; exact H
  clear H
  have H := H1
  clear H1
  obtain rfl := Option.some.inj H
  go_enter Tryd.func3, Tryd.ntmps3
  go_wp2_with (first | (go_at_call 7; (with_reducible refine (laws_r8Long.calls _ _ l0 _ _ l1 true _ ?side1 ?side2 ?side3 ?side4 A3.out).mono ?_); (case side1 => exact cA_ HR0.out); (case side2 => exact HC0.out); (case side3 => exact cA_ HR1.out); (case side4 => exact HC1.out); rintro e w' ⟨rfl, ⟨nd, rfl⟩⟩; (try first | exact ⟨rfl, _, World.drewN_drewN _ _ _⟩ | exact ⟨rfl, _, Eq.trans (World.drewN_drewN _ _ _) (congrArg (World.drewN _) (Nat.add_assoc _ _ _))⟩)))
  repeat (go_quiet (first | (go_at_call 7; (with_reducible refine (laws_r8Long.calls _ _ l0 _ _ l1 true _ ?side1 ?side2 ?side3 ?side4 A3.out).mono ?_); (case side1 => exact cA_ HR0.out); (case side2 => exact HC0.out); (case side3 => exact cA_ HR1.out); (case side4 => exact HC1.out); rintro e w' ⟨rfl, ⟨nd, rfl⟩⟩; (try first | exact ⟨rfl, _, World.drewN_drewN _ _ _⟩ | exact ⟨rfl, _, Eq.trans (World.drewN_drewN _ _ _) (congrArg (World.drewN _) (Nat.add_assoc _ _ _))⟩))); try go_wp2_with (first | (go_at_call 7; (with_reducible refine (laws_r8Long.calls _ _ l0 _ _ l1 true _ ?side1 ?side2 ?side3 ?side4 A3.out).mono ?_); (case side1 => exact cA_ HR0.out); (case side2 => exact HC0.out); (case side3 => exact cA_ HR1.out); (case side4 => exact HC1.out); rintro e w' ⟨rfl, ⟨nd, rfl⟩⟩; (try first | exact ⟨rfl, _, World.drewN_drewN _ _ _⟩ | exact ⟨rfl, _, Eq.trans (World.drewN_drewN _ _ _) (congrArg (World.drewN _) (Nat.add_assoc _ _ _))⟩))))
  go_ret
  exact ⟨er_, bB_⟩
 ·
  replace c4 := Bool.eq_false_iff.mpr c4
  subst c4
  have H1 : ((spec_R8History.f k l0).bind fun t391 => ((spec_R8State.f k l1).bind fun t394 => ((spec_R8Changed.f k l0 t394).bind fun t397 => ((impl_DiffStates.f k t394 t397).bind fun bt400 => ((impl_ApplyChanges.f k t394 bt400.1).bind fun bt404 => (if bt400.2 = 0 then (if bt404.2 = 0 then ((spec_SameState.f k bt404.1 t397).bind fun t408 => (laws_FnVersions.j0 k l1 t391 t394 (!t408))) else (laws_FnVersions.j0 k l1 t391 t394 true)) else (laws_FnVersions.j0 k l1 t391 t394 true))))))) = some r := by rw [if_neg (show ¬ (false = true) by decide)] at H; exact H
  clear H
  have H := H1
  clear H1
  replace H := Option.bind_eq_some_iff.mp H
  obtain ⟨t391, A50, H⟩ := H
  replace H : ((spec_R8State.f k l1).bind fun t394 => ((spec_R8Changed.f k l0 t394).bind fun t397 => ((impl_DiffStates.f k t394 t397).bind fun bt400 => ((impl_ApplyChanges.f k t394 bt400.1).bind fun bt404 => (if bt400.2 = 0 then (if bt404.2 = 0 then ((spec_SameState.f k bt404.1 t397).bind fun t408 => (laws_FnVersions.j0 k l1 t391 t394 (!t408))) else (laws_FnVersions.j0 k l1 t391 t394 true)) else (laws_FnVersions.j0 k l1 t391 t394 true)))))) = some r := H
  have A5 := Aside0.mk A50
  clear A50
  replace H := Option.bind_eq_some_iff.mp H
  obtain ⟨t394, A60, H⟩ := H
  replace H : ((spec_R8Changed.f k l0 t394).bind fun t397 => ((impl_DiffStates.f k t394 t397).bind fun bt400 => ((impl_ApplyChanges.f k t394 bt400.1).bind fun bt404 => (if bt400.2 = 0 then (if bt404.2 = 0 then ((spec_SameState.f k bt404.1 t397).bind fun t408 => (laws_FnVersions.j0 k l1 t391 t394 (!t408))) else (laws_FnVersions.j0 k l1 t391 t394 true)) else (laws_FnVersions.j0 k l1 t391 t394 true))))) = some r := H
  have A6 := Aside0.mk A60
  clear A60
  replace H := Option.bind_eq_some_iff.mp H
  obtain ⟨t397, A70, H⟩ := H
  replace H : ((impl_DiffStates.f k t394 t397).bind fun bt400 => ((impl_ApplyChanges.f k t394 bt400.1).bind fun bt404 => (if bt400.2 = 0 then (if bt404.2 = 0 then ((spec_SameState.f k bt404.1 t397).bind fun t408 => (laws_FnVersions.j0 k l1 t391 t394 (!t408))) else (laws_FnVersions.j0 k l1 t391 t394 true)) else (laws_FnVersions.j0 k l1 t391 t394 true)))) = some r := H
  have A7 := Aside0.mk A70
  clear A70
  replace H := Option.bind_eq_some_iff.mp H
  obtain ⟨⟨t400, t401⟩, A80, H⟩ := H
  replace H : ((impl_ApplyChanges.f k t394 t400).bind fun bt404 => (if t401 = 0 then (if bt404.2 = 0 then ((spec_SameState.f k bt404.1 t397).bind fun t408 => (laws_FnVersions.j0 k l1 t391 t394 (!t408))) else (laws_FnVersions.j0 k l1 t391 t394 true)) else (laws_FnVersions.j0 k l1 t391 t394 true))) = some r := H
  have A8 := Aside0.mk A80
  clear A80
  replace H := Option.bind_eq_some_iff.mp H
  obtain ⟨⟨t404, t405⟩, A90, H⟩ := H
  replace H : (if t401 = 0 then (if t405 = 0 then ((spec_SameState.f k t404 t397).bind fun t408 => (laws_FnVersions.j0 k l1 t391 t394 (!t408))) else (laws_FnVersions.j0 k l1 t391 t394 true)) else (laws_FnVersions.j0 k l1 t391 t394 true)) = some r := H
  have A9 := Aside0.mk A90
  clear A90
  have HC10 := Aside0.mk H
  clear H
  go_enter Tryd.func3, Tryd.ntmps3
  go_upto_region 8 with (first | (go_at_call 7; (with_reducible refine (laws_r8Long.calls _ _ l0 _ _ l1 false _ ?side1 ?side2 ?side3 ?side4 A3.out).mono ?_); (case side1 => exact cA_ HR0.out); (case side2 => exact HC0.out); (case side3 => exact cA_ HR1.out); (case side4 => exact HC1.out); rintro e w' ⟨rfl, ⟨nd, rfl⟩⟩; (try first | exact ⟨rfl, _, World.drewN_drewN _ _ _⟩ | exact ⟨rfl, _, Eq.trans (World.drewN_drewN _ _ _) (congrArg (World.drewN _) (Nat.add_assoc _ _ _))⟩)) | (go_at_call 8; (with_reducible refine (spec_R8History.calls k _ _ l0 t391 _ ?side1 ?side2 A5.out).mono ?_); (case side1 => exact cA_ HR0.out); (case side2 => exact HC0.out); rintro e w11 ⟨v392, rfl, ho0, hb⟩; have n0_ := Aside0.mk (Kd.S_lower ho0 (below_size bB_)); have n1_ := Aside0.mk (below_step bB_ hb); clear HB; have HO393 := n0_; have HB := n1_; clear n0_ n1_; (try clear hb); (try clear hb2); (try clear hk); (try clear hi); (try clear ho0)) | (go_at_call 9; (with_reducible refine (spec_R8State.calls k _ _ l1 t394 _ ?side1 ?side2 A6.out).mono ?_); (case side1 => exact cA_ (Kd.C_below HR1.out HB.out)); (case side2 => exact HC1.out); rintro e w12 ⟨v395, rfl, ho0, hb⟩; have n0_ := Aside0.mk (Kd.S_elder' (sA_ HO393.out) (Kd.R_base ho0) hb); have n1_ := Aside0.mk (Kd.R_lower ho0 (below_size bB_)); have n2_ := Aside0.mk (below_step bB_ hb); clear HO393; clear HB; have HO393 := n0_; have HO396 := n1_; have HB := n2_; clear n0_ n1_ n2_; (try clear hb); (try clear hb2); (try clear hk); (try clear hi); (try clear ho0); obtain ⟨Ao13, co13, eo13⟩ := Kd.R_slice HO396.out; subst eo13) | (go_at_call 10; (with_reducible refine (spec_R8Changed.calls k _ _ l0 _ _ t394 t397 _ ?side1 ?side2 ?side3 ?side4 A7.out).mono ?_); (case side1 => exact cA_ (Kd.C_below HR0.out HB.out)); (case side2 => exact HC0.out); (case side3 => repeat (first | exact (Kd.R_reads' HO396.out).2.2 | (with_reducible refine Kd.C_alloc ?_ _) | (with_reducible refine Kd.C_drewN ?_ _) | (with_reducible refine Kd.C_drew ?_))); (case side4 => exact (Kd.R_reads' HO396.out).2.1); rintro e w14 ⟨v398, rfl, ho0, hb⟩; have n0_ := Aside0.mk (Kd.S_elder' (sA_ HO393.out) (Kd.R_base ho0) hb); have n1_ := Aside0.mk (Kd.R_elder' (rA_ HO396.out) (Kd.R_base ho0) hb); have n2_ := Aside0.mk (Kd.R_lower (Kd.R_new' ho0 (Kd.R_lt (rA_ HO396.out))) (below_size bB_)); have n3_ := Aside0.mk (below_step bB_ hb); clear HO393; clear HO396; clear HB; have HO393 := n0_; have HO396 := n1_; have HO399 := n2_; have HB := n3_; clear n0_ n1_ n2_ n3_; (try clear hb); (try clear hb2); (try clear hk); (try clear hi); (try clear ho0); obtain ⟨Ao15, co15, eo15⟩ := Kd.R_slice HO399.out; subst eo15) | (go_at_call 11; (with_reducible refine (impl_DiffStates.calls k _ _ t394 _ _ t397 t400 t401 _ ?side1 ?side2 ?side3 ?side4 A8.out).mono ?_); (case side1 => repeat (first | exact (Kd.R_reads' HO396.out).2.2 | (with_reducible refine Kd.C_alloc ?_ _) | (with_reducible refine Kd.C_drewN ?_ _) | (with_reducible refine Kd.C_drew ?_))); (case side2 => exact (Kd.R_reads' HO396.out).2.1); (case side3 => repeat (first | exact (Kd.R_reads' HO399.out).2.2 | (with_reducible refine Kd.C_alloc ?_ _) | (with_reducible refine Kd.C_drewN ?_ _) | (with_reducible refine Kd.C_drew ?_))); (case side4 => exact (Kd.R_reads' HO399.out).2.1); rintro e w16 ⟨v402, rfl, ho0, hb⟩; have n0_ := Aside0.mk (Kd.S_below (sA_ HO393.out) hb); have n1_ := Aside0.mk (Kd.R_below (rA_ HO396.out) hb); have n2_ := Aside0.mk (Kd.R_below (rA_ HO399.out) hb); have n3_ := Aside0.mk (Kd.R_lower ho0 (below_size bB_)); have n4_ := Aside0.mk (below_step bB_ hb); clear HO393; clear HO396; clear HO399; clear HB; have HO393 := n0_; have HO396 := n1_; have HO399 := n2_; have HO403 := n3_; have HB := n4_; clear n0_ n1_ n2_ n3_ n4_; (try clear hb); (try clear hb2); (try clear hk); (try clear hi); (try clear ho0); obtain ⟨Ao17, co17, eo17⟩ := Kd.R_slice HO403.out; subst eo17) | (go_at_call 12; (with_reducible refine (impl_ApplyChanges.calls k _ _ t394 _ _ t400 t404 t405 _ ?side1 ?side2 ?side3 ?side4 A9.out).mono ?_); (case side1 => repeat (first | exact (Kd.R_reads' HO396.out).2.2 | (with_reducible refine Kd.C_alloc ?_ _) | (with_reducible refine Kd.C_drewN ?_ _) | (with_reducible refine Kd.C_drew ?_))); (case side2 => exact (Kd.R_reads' HO396.out).2.1); (case side3 => repeat (first | exact (Kd.R_reads' HO403.out).2.2 | (with_reducible refine Kd.C_alloc ?_ _) | (with_reducible refine Kd.C_drewN ?_ _) | (with_reducible refine Kd.C_drew ?_))); (case side4 => exact (Kd.R_reads' HO403.out).2.1); rintro e w18 ⟨v406, rfl, ho0, hb⟩; have n0_ := Aside0.mk (Kd.S_elder' (sA_ HO393.out) (Kd.R_base ho0) hb); have n1_ := Aside0.mk (Kd.R_elder' (rA_ HO396.out) (Kd.R_base ho0) hb); have n2_ := Aside0.mk (Kd.R_elder' (rA_ HO399.out) (Kd.R_base ho0) hb); have n3_ := Aside0.mk (Kd.R_below (rA_ HO403.out) hb); have n4_ := Aside0.mk (Kd.R_lower (Kd.R_new' (Kd.R_new' ho0 (Kd.R_lt (rA_ HO396.out))) (Kd.R_lt (rA_ HO399.out))) (below_size bB_)); have n5_ := Aside0.mk (below_step bB_ hb); clear HO393; clear HO396; clear HO399; clear HO403; clear HB; have HO393 := n0_; have HO396 := n1_; have HO399 := n2_; have HO403 := n3_; have HO407 := n4_; have HB := n5_; clear n0_ n1_ n2_ n3_ n4_ n5_; (try clear hb); (try clear hb2); (try clear hk); (try clear hi); (try clear ho0)))
  repeat (go_quiet (first | (go_at_call 7; (with_reducible refine (laws_r8Long.calls _ _ l0 _ _ l1 false _ ?side1 ?side2 ?side3 ?side4 A3.out).mono ?_); (case side1 => exact cA_ HR0.out); (case side2 => exact HC0.out); (case side3 => exact cA_ HR1.out); (case side4 => exact HC1.out); rintro e w' ⟨rfl, ⟨nd, rfl⟩⟩; (try first | exact ⟨rfl, _, World.drewN_drewN _ _ _⟩ | exact ⟨rfl, _, Eq.trans (World.drewN_drewN _ _ _) (congrArg (World.drewN _) (Nat.add_assoc _ _ _))⟩)) | (go_at_call 8; (with_reducible refine (spec_R8History.calls k _ _ l0 t391 _ ?side1 ?side2 A5.out).mono ?_); (case side1 => exact cA_ HR0.out); (case side2 => exact HC0.out); rintro e w11 ⟨v392, rfl, ho0, hb⟩; have n0_ := Aside0.mk (Kd.S_lower ho0 (below_size bB_)); have n1_ := Aside0.mk (below_step bB_ hb); clear HB; have HO393 := n0_; have HB := n1_; clear n0_ n1_; (try clear hb); (try clear hb2); (try clear hk); (try clear hi); (try clear ho0)) | (go_at_call 9; (with_reducible refine (spec_R8State.calls k _ _ l1 t394 _ ?side1 ?side2 A6.out).mono ?_); (case side1 => exact cA_ (Kd.C_below HR1.out HB.out)); (case side2 => exact HC1.out); rintro e w12 ⟨v395, rfl, ho0, hb⟩; have n0_ := Aside0.mk (Kd.S_elder' (sA_ HO393.out) (Kd.R_base ho0) hb); have n1_ := Aside0.mk (Kd.R_lower ho0 (below_size bB_)); have n2_ := Aside0.mk (below_step bB_ hb); clear HO393; clear HB; have HO393 := n0_; have HO396 := n1_; have HB := n2_; clear n0_ n1_ n2_; (try clear hb); (try clear hb2); (try clear hk); (try clear hi); (try clear ho0); obtain ⟨Ao13, co13, eo13⟩ := Kd.R_slice HO396.out; subst eo13) | (go_at_call 10; (with_reducible refine (spec_R8Changed.calls k _ _ l0 _ _ t394 t397 _ ?side1 ?side2 ?side3 ?side4 A7.out).mono ?_); (case side1 => exact cA_ (Kd.C_below HR0.out HB.out)); (case side2 => exact HC0.out); (case side3 => repeat (first | exact (Kd.R_reads' HO396.out).2.2 | (with_reducible refine Kd.C_alloc ?_ _) | (with_reducible refine Kd.C_drewN ?_ _) | (with_reducible refine Kd.C_drew ?_))); (case side4 => exact (Kd.R_reads' HO396.out).2.1); rintro e w14 ⟨v398, rfl, ho0, hb⟩; have n0_ := Aside0.mk (Kd.S_elder' (sA_ HO393.out) (Kd.R_base ho0) hb); have n1_ := Aside0.mk (Kd.R_elder' (rA_ HO396.out) (Kd.R_base ho0) hb); have n2_ := Aside0.mk (Kd.R_lower (Kd.R_new' ho0 (Kd.R_lt (rA_ HO396.out))) (below_size bB_)); have n3_ := Aside0.mk (below_step bB_ hb); clear HO393; clear HO396; clear HB; have HO393 := n0_; have HO396 := n1_; have HO399 := n2_; have HB := n3_; clear n0_ n1_ n2_ n3_; (try clear hb); (try clear hb2); (try clear hk); (try clear hi); (try clear ho0); obtain ⟨Ao15, co15, eo15⟩ := Kd.R_slice HO399.out; subst eo15) | (go_at_call 11; (with_reducible refine (impl_DiffStates.calls k _ _ t394 _ _ t397 t400 t401 _ ?side1 ?side2 ?side3 ?side4 A8.out).mono ?_); (case side1 => repeat (first | exact (Kd.R_reads' HO396.out).2.2 | (with_reducible refine Kd.C_alloc ?_ _) | (with_reducible refine Kd.C_drewN ?_ _) | (with_reducible refine Kd.C_drew ?_))); (case side2 => exact (Kd.R_reads' HO396.out).2.1); (case side3 => repeat (first | exact (Kd.R_reads' HO399.out).2.2 | (with_reducible refine Kd.C_alloc ?_ _) | (with_reducible refine Kd.C_drewN ?_ _) | (with_reducible refine Kd.C_drew ?_))); (case side4 => exact (Kd.R_reads' HO399.out).2.1); rintro e w16 ⟨v402, rfl, ho0, hb⟩; have n0_ := Aside0.mk (Kd.S_below (sA_ HO393.out) hb); have n1_ := Aside0.mk (Kd.R_below (rA_ HO396.out) hb); have n2_ := Aside0.mk (Kd.R_below (rA_ HO399.out) hb); have n3_ := Aside0.mk (Kd.R_lower ho0 (below_size bB_)); have n4_ := Aside0.mk (below_step bB_ hb); clear HO393; clear HO396; clear HO399; clear HB; have HO393 := n0_; have HO396 := n1_; have HO399 := n2_; have HO403 := n3_; have HB := n4_; clear n0_ n1_ n2_ n3_ n4_; (try clear hb); (try clear hb2); (try clear hk); (try clear hi); (try clear ho0); obtain ⟨Ao17, co17, eo17⟩ := Kd.R_slice HO403.out; subst eo17) | (go_at_call 12; (with_reducible refine (impl_ApplyChanges.calls k _ _ t394 _ _ t400 t404 t405 _ ?side1 ?side2 ?side3 ?side4 A9.out).mono ?_); (case side1 => repeat (first | exact (Kd.R_reads' HO396.out).2.2 | (with_reducible refine Kd.C_alloc ?_ _) | (with_reducible refine Kd.C_drewN ?_ _) | (with_reducible refine Kd.C_drew ?_))); (case side2 => exact (Kd.R_reads' HO396.out).2.1); (case side3 => repeat (first | exact (Kd.R_reads' HO403.out).2.2 | (with_reducible refine Kd.C_alloc ?_ _) | (with_reducible refine Kd.C_drewN ?_ _) | (with_reducible refine Kd.C_drew ?_))); (case side4 => exact (Kd.R_reads' HO403.out).2.1); rintro e w18 ⟨v406, rfl, ho0, hb⟩; have n0_ := Aside0.mk (Kd.S_elder' (sA_ HO393.out) (Kd.R_base ho0) hb); have n1_ := Aside0.mk (Kd.R_elder' (rA_ HO396.out) (Kd.R_base ho0) hb); have n2_ := Aside0.mk (Kd.R_elder' (rA_ HO399.out) (Kd.R_base ho0) hb); have n3_ := Aside0.mk (Kd.R_below (rA_ HO403.out) hb); have n4_ := Aside0.mk (Kd.R_lower (Kd.R_new' (Kd.R_new' ho0 (Kd.R_lt (rA_ HO396.out))) (Kd.R_lt (rA_ HO399.out))) (below_size bB_)); have n5_ := Aside0.mk (below_step bB_ hb); clear HO393; clear HO396; clear HO399; clear HO403; clear HB; have HO393 := n0_; have HO396 := n1_; have HO399 := n2_; have HO403 := n3_; have HO407 := n4_; have HB := n5_; clear n0_ n1_ n2_ n3_ n4_ n5_; (try clear hb); (try clear hb2); (try clear hk); (try clear hi); (try clear ho0))); go_upto_region 8 with (first | (go_at_call 7; (with_reducible refine (laws_r8Long.calls _ _ l0 _ _ l1 false _ ?side1 ?side2 ?side3 ?side4 A3.out).mono ?_); (case side1 => exact cA_ HR0.out); (case side2 => exact HC0.out); (case side3 => exact cA_ HR1.out); (case side4 => exact HC1.out); rintro e w' ⟨rfl, ⟨nd, rfl⟩⟩; (try first | exact ⟨rfl, _, World.drewN_drewN _ _ _⟩ | exact ⟨rfl, _, Eq.trans (World.drewN_drewN _ _ _) (congrArg (World.drewN _) (Nat.add_assoc _ _ _))⟩)) | (go_at_call 8; (with_reducible refine (spec_R8History.calls k _ _ l0 t391 _ ?side1 ?side2 A5.out).mono ?_); (case side1 => exact cA_ HR0.out); (case side2 => exact HC0.out); rintro e w11 ⟨v392, rfl, ho0, hb⟩; have n0_ := Aside0.mk (Kd.S_lower ho0 (below_size bB_)); have n1_ := Aside0.mk (below_step bB_ hb); clear HB; have HO393 := n0_; have HB := n1_; clear n0_ n1_; (try clear hb); (try clear hb2); (try clear hk); (try clear hi); (try clear ho0)) | (go_at_call 9; (with_reducible refine (spec_R8State.calls k _ _ l1 t394 _ ?side1 ?side2 A6.out).mono ?_); (case side1 => exact cA_ (Kd.C_below HR1.out HB.out)); (case side2 => exact HC1.out); rintro e w12 ⟨v395, rfl, ho0, hb⟩; have n0_ := Aside0.mk (Kd.S_elder' (sA_ HO393.out) (Kd.R_base ho0) hb); have n1_ := Aside0.mk (Kd.R_lower ho0 (below_size bB_)); have n2_ := Aside0.mk (below_step bB_ hb); clear HO393; clear HB; have HO393 := n0_; have HO396 := n1_; have HB := n2_; clear n0_ n1_ n2_; (try clear hb); (try clear hb2); (try clear hk); (try clear hi); (try clear ho0); obtain ⟨Ao13, co13, eo13⟩ := Kd.R_slice HO396.out; subst eo13) | (go_at_call 10; (with_reducible refine (spec_R8Changed.calls k _ _ l0 _ _ t394 t397 _ ?side1 ?side2 ?side3 ?side4 A7.out).mono ?_); (case side1 => exact cA_ (Kd.C_below HR0.out HB.out)); (case side2 => exact HC0.out); (case side3 => repeat (first | exact (Kd.R_reads' HO396.out).2.2 | (with_reducible refine Kd.C_alloc ?_ _) | (with_reducible refine Kd.C_drewN ?_ _) | (with_reducible refine Kd.C_drew ?_))); (case side4 => exact (Kd.R_reads' HO396.out).2.1); rintro e w14 ⟨v398, rfl, ho0, hb⟩; have n0_ := Aside0.mk (Kd.S_elder' (sA_ HO393.out) (Kd.R_base ho0) hb); have n1_ := Aside0.mk (Kd.R_elder' (rA_ HO396.out) (Kd.R_base ho0) hb); have n2_ := Aside0.mk (Kd.R_lower (Kd.R_new' ho0 (Kd.R_lt (rA_ HO396.out))) (below_size bB_)); have n3_ := Aside0.mk (below_step bB_ hb); clear HO393; clear HO396; clear HB; have HO393 := n0_; have HO396 := n1_; have HO399 := n2_; have HB := n3_; clear n0_ n1_ n2_ n3_; (try clear hb); (try clear hb2); (try clear hk); (try clear hi); (try clear ho0); obtain ⟨Ao15, co15, eo15⟩ := Kd.R_slice HO399.out; subst eo15) | (go_at_call 11; (with_reducible refine (impl_DiffStates.calls k _ _ t394 _ _ t397 t400 t401 _ ?side1 ?side2 ?side3 ?side4 A8.out).mono ?_); (case side1 => repeat (first | exact (Kd.R_reads' HO396.out).2.2 | (with_reducible refine Kd.C_alloc ?_ _) | (with_reducible refine Kd.C_drewN ?_ _) | (with_reducible refine Kd.C_drew ?_))); (case side2 => exact (Kd.R_reads' HO396.out).2.1); (case side3 => repeat (first | exact (Kd.R_reads' HO399.out).2.2 | (with_reducible refine Kd.C_alloc ?_ _) | (with_reducible refine Kd.C_drewN ?_ _) | (with_reducible refine Kd.C_drew ?_))); (case side4 => exact (Kd.R_reads' HO399.out).2.1); rintro e w16 ⟨v402, rfl, ho0, hb⟩; have n0_ := Aside0.mk (Kd.S_below (sA_ HO393.out) hb); have n1_ := Aside0.mk (Kd.R_below (rA_ HO396.out) hb); have n2_ := Aside0.mk (Kd.R_below (rA_ HO399.out) hb); have n3_ := Aside0.mk (Kd.R_lower ho0 (below_size bB_)); have n4_ := Aside0.mk (below_step bB_ hb); clear HO393; clear HO396; clear HO399; clear HB; have HO393 := n0_; have HO396 := n1_; have HO399 := n2_; have HO403 := n3_; have HB := n4_; clear n0_ n1_ n2_ n3_ n4_; (try clear hb); (try clear hb2); (try clear hk); (try clear hi); (try clear ho0); obtain ⟨Ao17, co17, eo17⟩ := Kd.R_slice HO403.out; subst eo17) | (go_at_call 12; (with_reducible refine (impl_ApplyChanges.calls k _ _ t394 _ _ t400 t404 t405 _ ?side1 ?side2 ?side3 ?side4 A9.out).mono ?_); (case side1 => repeat (first | exact (Kd.R_reads' HO396.out).2.2 | (with_reducible refine Kd.C_alloc ?_ _) | (with_reducible refine Kd.C_drewN ?_ _) | (with_reducible refine Kd.C_drew ?_))); (case side2 => exact (Kd.R_reads' HO396.out).2.1); (case side3 => repeat (first | exact (Kd.R_reads' HO403.out).2.2 | (with_reducible refine Kd.C_alloc ?_ _) | (with_reducible refine Kd.C_drewN ?_ _) | (with_reducible refine Kd.C_drew ?_))); (case side4 => exact (Kd.R_reads' HO403.out).2.1); rintro e w18 ⟨v406, rfl, ho0, hb⟩; have n0_ := Aside0.mk (Kd.S_elder' (sA_ HO393.out) (Kd.R_base ho0) hb); have n1_ := Aside0.mk (Kd.R_elder' (rA_ HO396.out) (Kd.R_base ho0) hb); have n2_ := Aside0.mk (Kd.R_elder' (rA_ HO399.out) (Kd.R_base ho0) hb); have n3_ := Aside0.mk (Kd.R_below (rA_ HO403.out) hb); have n4_ := Aside0.mk (Kd.R_lower (Kd.R_new' (Kd.R_new' ho0 (Kd.R_lt (rA_ HO396.out))) (Kd.R_lt (rA_ HO399.out))) (below_size bB_)); have n5_ := Aside0.mk (below_step bB_ hb); clear HO393; clear HO396; clear HO399; clear HO403; clear HB; have HO393 := n0_; have HO396 := n1_; have HO399 := n2_; have HO403 := n3_; have HO407 := n4_; have HB := n5_; clear n0_ n1_ n2_ n3_ n4_ n5_; (try clear hb); (try clear hb2); (try clear hk); (try clear hi); (try clear ho0))))
  (try simp only [Act.put, List.setIfInBounds_toArray, List.set_cons_zero, List.set_cons_succ])
  go_cut [59] (fun v59 wc => ∃ (kq : Nat) (x59_9 : Bool), v59 = .bool x59_9 ∧ Aside0 (laws_FnVersions.j0 kq l1 t391 t394 x59_9 = some r) ∧ Aside0 (kq ≤ k) ∧ Aside0 (Kd.S k48 48 wc w.heap.size (fun k_ => some k_ ≠ ((.slice Ao13 t394.length co13) : Value).ownBlock) v392 t391) ∧ Aside0 (Kd.R k96 96 wc w.heap.size (fun _ => True) (.slice Ao13 t394.length co13) t394) ∧ Aside0 (Below w.heap.size w wc))
  case first =>
   as_aux_lemma =>
    have H := HC10.out
    clear HC10
    by_cases c19 : t401 = 0
    ·
     rw [if_pos c19] at H
     have c19b0 : (t401 == 0) = true := beq_iff_eq.mpr c19
     have c19b1 : (t401 != 0) = false := bne_eq_false_iff_eq.mpr c19
     clear c19
     (first | rw [c19b0] | (simp only [i64_w, i32_w]; rw [c19b0]) | skip)
     by_cases c20 : t405 = 0
     ·
      rw [if_pos c20] at H
      have c20b0 : (t405 == 0) = true := beq_iff_eq.mpr c20
      have c20b1 : (t405 != 0) = false := bne_eq_false_iff_eq.mpr c20
      clear c20
      replace H := Option.bind_eq_some_iff.mp H
      obtain ⟨t408, A210, H⟩ := H
      replace H : (laws_FnVersions.j0 k l1 t391 t394 (!t408)) = some r := H
      have A21 := Aside0.mk A210
      clear A210
      have H' := Aside0.mk H
      clear H
      obtain ⟨Ao22, co22, eo22⟩ := Kd.R_slice HO407.out
      subst eo22
      go_wp2_with (first | (go_at_call 13; (with_reducible refine (spec_SameState.calls k _ _ t404 _ _ t397 t408 _ ?side1 ?side2 ?side3 ?side4 A21.out).mono ?_); (case side1 => repeat (first | exact (Kd.R_reads' HO407.out).2.2 | (with_reducible refine Kd.C_alloc ?_ _) | (with_reducible refine Kd.C_drewN ?_ _) | (with_reducible refine Kd.C_drew ?_))); (case side2 => exact (Kd.R_reads' HO407.out).2.1); (case side3 => repeat (first | exact (Kd.R_reads' HO399.out).2.2 | (with_reducible refine Kd.C_alloc ?_ _) | (with_reducible refine Kd.C_drewN ?_ _) | (with_reducible refine Kd.C_drew ?_))); (case side4 => exact (Kd.R_reads' HO399.out).2.1); rintro e w' ⟨rfl, ⟨nd, rfl⟩⟩; (try first | exact ⟨rfl, _, World.drewN_drewN _ _ _⟩ | exact ⟨rfl, _, Eq.trans (World.drewN_drewN _ _ _) (congrArg (World.drewN _) (Nat.add_assoc _ _ _))⟩)))
      repeat (go_quiet (first | (go_at_call 13; (with_reducible refine (spec_SameState.calls k _ _ t404 _ _ t397 t408 _ ?side1 ?side2 ?side3 ?side4 A21.out).mono ?_); (case side1 => repeat (first | exact (Kd.R_reads' HO407.out).2.2 | (with_reducible refine Kd.C_alloc ?_ _) | (with_reducible refine Kd.C_drewN ?_ _) | (with_reducible refine Kd.C_drew ?_))); (case side2 => exact (Kd.R_reads' HO407.out).2.1); (case side3 => repeat (first | exact (Kd.R_reads' HO399.out).2.2 | (with_reducible refine Kd.C_alloc ?_ _) | (with_reducible refine Kd.C_drewN ?_ _) | (with_reducible refine Kd.C_drew ?_))); (case side4 => exact (Kd.R_reads' HO399.out).2.1); rintro e w' ⟨rfl, ⟨nd, rfl⟩⟩; (try first | exact ⟨rfl, _, World.drewN_drewN _ _ _⟩ | exact ⟨rfl, _, Eq.trans (World.drewN_drewN _ _ _) (congrArg (World.drewN _) (Nat.add_assoc _ _ _))⟩))); try go_wp2_with (first | (go_at_call 13; (with_reducible refine (spec_SameState.calls k _ _ t404 _ _ t397 t408 _ ?side1 ?side2 ?side3 ?side4 A21.out).mono ?_); (case side1 => repeat (first | exact (Kd.R_reads' HO407.out).2.2 | (with_reducible refine Kd.C_alloc ?_ _) | (with_reducible refine Kd.C_drewN ?_ _) | (with_reducible refine Kd.C_drew ?_))); (case side2 => exact (Kd.R_reads' HO407.out).2.1); (case side3 => repeat (first | exact (Kd.R_reads' HO399.out).2.2 | (with_reducible refine Kd.C_alloc ?_ _) | (with_reducible refine Kd.C_drewN ?_ _) | (with_reducible refine Kd.C_drew ?_))); (case side4 => exact (Kd.R_reads' HO399.out).2.1); rintro e w' ⟨rfl, ⟨nd, rfl⟩⟩; (try first | exact ⟨rfl, _, World.drewN_drewN _ _ _⟩ | exact ⟨rfl, _, Eq.trans (World.drewN_drewN _ _ _) (congrArg (World.drewN _) (Nat.add_assoc _ _ _))⟩))))
      go_meet
      case rel => exact ⟨_, (!t408), rs_, H', ⟨by first | omega | exact Nat.le_refl _⟩, ⟨by (with_reducible repeat (first | apply Kd.S_alloc | apply Kd.S_drewN | apply Kd.S_drew)); exact Kd.S_mono HO393.out (fun _ hk => hk.1.1.2)⟩, ⟨by (with_reducible repeat (first | apply Kd.R_alloc | apply Kd.R_drewN | apply Kd.R_drew)); exact Kd.R_mono HO396.out (fun _ hk => trivial)⟩, ⟨bB_⟩⟩
     ·
      rw [if_neg c20] at H
      have c20b0 : (t405 == 0) = false := beq_eq_false_iff_ne.mpr c20
      have c20b1 : (t405 != 0) = true := bne_iff_ne.mpr c20
      have H' := Aside0.mk H
      clear H
      go_wp2
      repeat (go_quiet (fail); try go_wp2)
      go_meet
      case rel => exact ⟨_, (true), rs_, H', ⟨by first | omega | exact Nat.le_refl _⟩, ⟨by (with_reducible repeat (first | apply Kd.S_alloc | apply Kd.S_drewN | apply Kd.S_drew)); exact Kd.S_mono HO393.out (fun _ hk => hk.1.1.2)⟩, ⟨by (with_reducible repeat (first | apply Kd.R_alloc | apply Kd.R_drewN | apply Kd.R_drew)); exact Kd.R_mono HO396.out (fun _ hk => trivial)⟩, ⟨bB_⟩⟩
    ·
     rw [if_neg c19] at H
     have c19b0 : (t401 == 0) = false := beq_eq_false_iff_ne.mpr c19
     have c19b1 : (t401 != 0) = true := bne_iff_ne.mpr c19
     (first | rw [c19b0] | (simp only [i64_w, i32_w]; rw [c19b0]) | skip)
     have H' := Aside0.mk H
     clear H
     go_wp2
     repeat (go_quiet (fail); try go_wp2)
     go_meet
     case rel => exact ⟨_, (true), rs_, H', ⟨by first | omega | exact Nat.le_refl _⟩, ⟨by (with_reducible repeat (first | apply Kd.S_alloc | apply Kd.S_drewN | apply Kd.S_drew)); exact Kd.S_mono HO393.out (fun _ hk => hk.1.1.2)⟩, ⟨by (with_reducible repeat (first | apply Kd.R_alloc | apply Kd.R_drewN | apply Kd.R_drew)); exact Kd.R_mono HO396.out (fun _ hk => trivial)⟩, ⟨bB_⟩⟩
  case rest =>
   clear HC10
   try clear c1
   try clear c2
   try clear p2
   try clear c3
   try clear c4
   try clear c19
   try clear c19b0
   try clear c19b1
   try clear c20
   try clear c20b0
   try clear c20b1
   obtain ⟨kq, x59_9, rfl, HA, HJ9, HO_5, HO_6, HB⟩ := hcut
   cases kq with
   | zero => exact absurd HA.out (by simp [laws_FnVersions.j0])
   | succ kj9 =>
    have H := HA.out
    clear HA
    simp only [laws_FnVersions.j0] at H
    by_cases c23 : x59_9 = true
    ·
     subst c23
     have H1 : (some false) = some r := by rw [if_pos rfl] at H; exact H
     clear H
     have H := H1
     clear H1
     obtain rfl := Option.some.inj H
     go_wp2
     repeat (go_quiet (fail); try go_wp2)
     go_ret
     exact ⟨er_, bB_⟩
    ·
     replace c23 := Bool.eq_false_iff.mpr c23
     subst c23
     have H1 : ((laws_r8At.f l1 0 (wrap64 ((t391.length : Int) + 1))).bind fun t409 => ((impl_CommitState.f kj9 t391 t409 (⟨#[110, 101, 120, 116]⟩ : ByteArray) t394).bind fun bt410 => ((impl_UndoVersion.f kj9 bt410.1 (wrap64 ((t391.length : Int) + 1))).bind fun bt414 => ((impl_AncestorsOf.f kj9 bt410.1 (wrap64 ((t391.length : Int) + 1))).bind fun bt418 => ((impl_HeadsOf.f kj9 bt410.1).bind fun bt422 => ((impl_CommonAncestor.f kj9 bt410.1 (wrap64 ((t391.length : Int) + 1)) (wrap64 ((t391.length : Int) + 1))).bind fun bt426 => (if bt410.2 = 0 then (if (bt410.1.length : Int) = (wrap64 ((t391.length : Int) + 1)) then (if bt414.2 = 0 then (if (bt414.1.length : Int) = (wrap64 ((wrap64 ((t391.length : Int) + 1)) + 1)) then (if bt418.2 = 0 then (if bt422.2 = 0 then ((laws_r8Has.f kj9 bt422.1 (wrap64 ((t391.length : Int) + 1))).bind fun t428 => (if t428 = true then (if bt426.2 = 0 then (if bt426.1 = (wrap64 ((t391.length : Int) + 1)) then ((spec_ValidHistory.f kj9 bt414.1).bind fun t429 => (laws_FnVersions.j1 kj9 t391 t409 bt410.1 (wrap64 ((t391.length : Int) + 1)) bt414.1 bt418.1 (!t429))) else (laws_FnVersions.j1 kj9 t391 t409 bt410.1 (wrap64 ((t391.length : Int) + 1)) bt414.1 bt418.1 true)) else (laws_FnVersions.j1 kj9 t391 t409 bt410.1 (wrap64 ((t391.length : Int) + 1)) bt414.1 bt418.1 true)) else (laws_FnVersions.j1 kj9 t391 t409 bt410.1 (wrap64 ((t391.length : Int) + 1)) bt414.1 bt418.1 true))) else (laws_FnVersions.j1 kj9 t391 t409 bt410.1 (wrap64 ((t391.length : Int) + 1)) bt414.1 bt418.1 true)) else (laws_FnVersions.j1 kj9 t391 t409 bt410.1 (wrap64 ((t391.length : Int) + 1)) bt414.1 bt418.1 true)) else (laws_FnVersions.j1 kj9 t391 t409 bt410.1 (wrap64 ((t391.length : Int) + 1)) bt414.1 bt418.1 true)) else (laws_FnVersions.j1 kj9 t391 t409 bt410.1 (wrap64 ((t391.length : Int) + 1)) bt414.1 bt418.1 true)) else (laws_FnVersions.j1 kj9 t391 t409 bt410.1 (wrap64 ((t391.length : Int) + 1)) bt414.1 bt418.1 true)) else (laws_FnVersions.j1 kj9 t391 t409 bt410.1 (wrap64 ((t391.length : Int) + 1)) bt414.1 bt418.1 true)))))))) = some r := by rw [if_neg (show ¬ (false = true) by decide)] at H; exact H
     clear H
     have H := H1
     clear H1
     replace H := Option.bind_eq_some_iff.mp H
     obtain ⟨t409, A240, H⟩ := H
     replace H : ((impl_CommitState.f kj9 t391 t409 (⟨#[110, 101, 120, 116]⟩ : ByteArray) t394).bind fun bt410 => ((impl_UndoVersion.f kj9 bt410.1 (wrap64 ((t391.length : Int) + 1))).bind fun bt414 => ((impl_AncestorsOf.f kj9 bt410.1 (wrap64 ((t391.length : Int) + 1))).bind fun bt418 => ((impl_HeadsOf.f kj9 bt410.1).bind fun bt422 => ((impl_CommonAncestor.f kj9 bt410.1 (wrap64 ((t391.length : Int) + 1)) (wrap64 ((t391.length : Int) + 1))).bind fun bt426 => (if bt410.2 = 0 then (if (bt410.1.length : Int) = (wrap64 ((t391.length : Int) + 1)) then (if bt414.2 = 0 then (if (bt414.1.length : Int) = (wrap64 ((wrap64 ((t391.length : Int) + 1)) + 1)) then (if bt418.2 = 0 then (if bt422.2 = 0 then ((laws_r8Has.f kj9 bt422.1 (wrap64 ((t391.length : Int) + 1))).bind fun t428 => (if t428 = true then (if bt426.2 = 0 then (if bt426.1 = (wrap64 ((t391.length : Int) + 1)) then ((spec_ValidHistory.f kj9 bt414.1).bind fun t429 => (laws_FnVersions.j1 kj9 t391 t409 bt410.1 (wrap64 ((t391.length : Int) + 1)) bt414.1 bt418.1 (!t429))) else (laws_FnVersions.j1 kj9 t391 t409 bt410.1 (wrap64 ((t391.length : Int) + 1)) bt414.1 bt418.1 true)) else (laws_FnVersions.j1 kj9 t391 t409 bt410.1 (wrap64 ((t391.length : Int) + 1)) bt414.1 bt418.1 true)) else (laws_FnVersions.j1 kj9 t391 t409 bt410.1 (wrap64 ((t391.length : Int) + 1)) bt414.1 bt418.1 true))) else (laws_FnVersions.j1 kj9 t391 t409 bt410.1 (wrap64 ((t391.length : Int) + 1)) bt414.1 bt418.1 true)) else (laws_FnVersions.j1 kj9 t391 t409 bt410.1 (wrap64 ((t391.length : Int) + 1)) bt414.1 bt418.1 true)) else (laws_FnVersions.j1 kj9 t391 t409 bt410.1 (wrap64 ((t391.length : Int) + 1)) bt414.1 bt418.1 true)) else (laws_FnVersions.j1 kj9 t391 t409 bt410.1 (wrap64 ((t391.length : Int) + 1)) bt414.1 bt418.1 true)) else (laws_FnVersions.j1 kj9 t391 t409 bt410.1 (wrap64 ((t391.length : Int) + 1)) bt414.1 bt418.1 true)) else (laws_FnVersions.j1 kj9 t391 t409 bt410.1 (wrap64 ((t391.length : Int) + 1)) bt414.1 bt418.1 true))))))) = some r := H
     have A24 := Aside0.mk A240
     clear A240
     replace H := Option.bind_eq_some_iff.mp H
     obtain ⟨⟨t410, t411⟩, A250, H⟩ := H
     replace H : ((impl_UndoVersion.f kj9 t410 (wrap64 ((t391.length : Int) + 1))).bind fun bt414 => ((impl_AncestorsOf.f kj9 t410 (wrap64 ((t391.length : Int) + 1))).bind fun bt418 => ((impl_HeadsOf.f kj9 t410).bind fun bt422 => ((impl_CommonAncestor.f kj9 t410 (wrap64 ((t391.length : Int) + 1)) (wrap64 ((t391.length : Int) + 1))).bind fun bt426 => (if t411 = 0 then (if (t410.length : Int) = (wrap64 ((t391.length : Int) + 1)) then (if bt414.2 = 0 then (if (bt414.1.length : Int) = (wrap64 ((wrap64 ((t391.length : Int) + 1)) + 1)) then (if bt418.2 = 0 then (if bt422.2 = 0 then ((laws_r8Has.f kj9 bt422.1 (wrap64 ((t391.length : Int) + 1))).bind fun t428 => (if t428 = true then (if bt426.2 = 0 then (if bt426.1 = (wrap64 ((t391.length : Int) + 1)) then ((spec_ValidHistory.f kj9 bt414.1).bind fun t429 => (laws_FnVersions.j1 kj9 t391 t409 t410 (wrap64 ((t391.length : Int) + 1)) bt414.1 bt418.1 (!t429))) else (laws_FnVersions.j1 kj9 t391 t409 t410 (wrap64 ((t391.length : Int) + 1)) bt414.1 bt418.1 true)) else (laws_FnVersions.j1 kj9 t391 t409 t410 (wrap64 ((t391.length : Int) + 1)) bt414.1 bt418.1 true)) else (laws_FnVersions.j1 kj9 t391 t409 t410 (wrap64 ((t391.length : Int) + 1)) bt414.1 bt418.1 true))) else (laws_FnVersions.j1 kj9 t391 t409 t410 (wrap64 ((t391.length : Int) + 1)) bt414.1 bt418.1 true)) else (laws_FnVersions.j1 kj9 t391 t409 t410 (wrap64 ((t391.length : Int) + 1)) bt414.1 bt418.1 true)) else (laws_FnVersions.j1 kj9 t391 t409 t410 (wrap64 ((t391.length : Int) + 1)) bt414.1 bt418.1 true)) else (laws_FnVersions.j1 kj9 t391 t409 t410 (wrap64 ((t391.length : Int) + 1)) bt414.1 bt418.1 true)) else (laws_FnVersions.j1 kj9 t391 t409 t410 (wrap64 ((t391.length : Int) + 1)) bt414.1 bt418.1 true)) else (laws_FnVersions.j1 kj9 t391 t409 t410 (wrap64 ((t391.length : Int) + 1)) bt414.1 bt418.1 true)))))) = some r := H
     have A25 := Aside0.mk A250
     clear A250
     replace H := Option.bind_eq_some_iff.mp H
     obtain ⟨⟨t414, t415⟩, A260, H⟩ := H
     replace H : ((impl_AncestorsOf.f kj9 t410 (wrap64 ((t391.length : Int) + 1))).bind fun bt418 => ((impl_HeadsOf.f kj9 t410).bind fun bt422 => ((impl_CommonAncestor.f kj9 t410 (wrap64 ((t391.length : Int) + 1)) (wrap64 ((t391.length : Int) + 1))).bind fun bt426 => (if t411 = 0 then (if (t410.length : Int) = (wrap64 ((t391.length : Int) + 1)) then (if t415 = 0 then (if (t414.length : Int) = (wrap64 ((wrap64 ((t391.length : Int) + 1)) + 1)) then (if bt418.2 = 0 then (if bt422.2 = 0 then ((laws_r8Has.f kj9 bt422.1 (wrap64 ((t391.length : Int) + 1))).bind fun t428 => (if t428 = true then (if bt426.2 = 0 then (if bt426.1 = (wrap64 ((t391.length : Int) + 1)) then ((spec_ValidHistory.f kj9 t414).bind fun t429 => (laws_FnVersions.j1 kj9 t391 t409 t410 (wrap64 ((t391.length : Int) + 1)) t414 bt418.1 (!t429))) else (laws_FnVersions.j1 kj9 t391 t409 t410 (wrap64 ((t391.length : Int) + 1)) t414 bt418.1 true)) else (laws_FnVersions.j1 kj9 t391 t409 t410 (wrap64 ((t391.length : Int) + 1)) t414 bt418.1 true)) else (laws_FnVersions.j1 kj9 t391 t409 t410 (wrap64 ((t391.length : Int) + 1)) t414 bt418.1 true))) else (laws_FnVersions.j1 kj9 t391 t409 t410 (wrap64 ((t391.length : Int) + 1)) t414 bt418.1 true)) else (laws_FnVersions.j1 kj9 t391 t409 t410 (wrap64 ((t391.length : Int) + 1)) t414 bt418.1 true)) else (laws_FnVersions.j1 kj9 t391 t409 t410 (wrap64 ((t391.length : Int) + 1)) t414 bt418.1 true)) else (laws_FnVersions.j1 kj9 t391 t409 t410 (wrap64 ((t391.length : Int) + 1)) t414 bt418.1 true)) else (laws_FnVersions.j1 kj9 t391 t409 t410 (wrap64 ((t391.length : Int) + 1)) t414 bt418.1 true)) else (laws_FnVersions.j1 kj9 t391 t409 t410 (wrap64 ((t391.length : Int) + 1)) t414 bt418.1 true))))) = some r := H
     have A26 := Aside0.mk A260
     clear A260
     replace H := Option.bind_eq_some_iff.mp H
     obtain ⟨⟨t418, t419⟩, A270, H⟩ := H
     replace H : ((impl_HeadsOf.f kj9 t410).bind fun bt422 => ((impl_CommonAncestor.f kj9 t410 (wrap64 ((t391.length : Int) + 1)) (wrap64 ((t391.length : Int) + 1))).bind fun bt426 => (if t411 = 0 then (if (t410.length : Int) = (wrap64 ((t391.length : Int) + 1)) then (if t415 = 0 then (if (t414.length : Int) = (wrap64 ((wrap64 ((t391.length : Int) + 1)) + 1)) then (if t419 = 0 then (if bt422.2 = 0 then ((laws_r8Has.f kj9 bt422.1 (wrap64 ((t391.length : Int) + 1))).bind fun t428 => (if t428 = true then (if bt426.2 = 0 then (if bt426.1 = (wrap64 ((t391.length : Int) + 1)) then ((spec_ValidHistory.f kj9 t414).bind fun t429 => (laws_FnVersions.j1 kj9 t391 t409 t410 (wrap64 ((t391.length : Int) + 1)) t414 t418 (!t429))) else (laws_FnVersions.j1 kj9 t391 t409 t410 (wrap64 ((t391.length : Int) + 1)) t414 t418 true)) else (laws_FnVersions.j1 kj9 t391 t409 t410 (wrap64 ((t391.length : Int) + 1)) t414 t418 true)) else (laws_FnVersions.j1 kj9 t391 t409 t410 (wrap64 ((t391.length : Int) + 1)) t414 t418 true))) else (laws_FnVersions.j1 kj9 t391 t409 t410 (wrap64 ((t391.length : Int) + 1)) t414 t418 true)) else (laws_FnVersions.j1 kj9 t391 t409 t410 (wrap64 ((t391.length : Int) + 1)) t414 t418 true)) else (laws_FnVersions.j1 kj9 t391 t409 t410 (wrap64 ((t391.length : Int) + 1)) t414 t418 true)) else (laws_FnVersions.j1 kj9 t391 t409 t410 (wrap64 ((t391.length : Int) + 1)) t414 t418 true)) else (laws_FnVersions.j1 kj9 t391 t409 t410 (wrap64 ((t391.length : Int) + 1)) t414 t418 true)) else (laws_FnVersions.j1 kj9 t391 t409 t410 (wrap64 ((t391.length : Int) + 1)) t414 t418 true)))) = some r := H
     have A27 := Aside0.mk A270
     clear A270
     replace H := Option.bind_eq_some_iff.mp H
     obtain ⟨⟨t422, t423⟩, A280, H⟩ := H
     replace H : ((impl_CommonAncestor.f kj9 t410 (wrap64 ((t391.length : Int) + 1)) (wrap64 ((t391.length : Int) + 1))).bind fun bt426 => (if t411 = 0 then (if (t410.length : Int) = (wrap64 ((t391.length : Int) + 1)) then (if t415 = 0 then (if (t414.length : Int) = (wrap64 ((wrap64 ((t391.length : Int) + 1)) + 1)) then (if t419 = 0 then (if t423 = 0 then ((laws_r8Has.f kj9 t422 (wrap64 ((t391.length : Int) + 1))).bind fun t428 => (if t428 = true then (if bt426.2 = 0 then (if bt426.1 = (wrap64 ((t391.length : Int) + 1)) then ((spec_ValidHistory.f kj9 t414).bind fun t429 => (laws_FnVersions.j1 kj9 t391 t409 t410 (wrap64 ((t391.length : Int) + 1)) t414 t418 (!t429))) else (laws_FnVersions.j1 kj9 t391 t409 t410 (wrap64 ((t391.length : Int) + 1)) t414 t418 true)) else (laws_FnVersions.j1 kj9 t391 t409 t410 (wrap64 ((t391.length : Int) + 1)) t414 t418 true)) else (laws_FnVersions.j1 kj9 t391 t409 t410 (wrap64 ((t391.length : Int) + 1)) t414 t418 true))) else (laws_FnVersions.j1 kj9 t391 t409 t410 (wrap64 ((t391.length : Int) + 1)) t414 t418 true)) else (laws_FnVersions.j1 kj9 t391 t409 t410 (wrap64 ((t391.length : Int) + 1)) t414 t418 true)) else (laws_FnVersions.j1 kj9 t391 t409 t410 (wrap64 ((t391.length : Int) + 1)) t414 t418 true)) else (laws_FnVersions.j1 kj9 t391 t409 t410 (wrap64 ((t391.length : Int) + 1)) t414 t418 true)) else (laws_FnVersions.j1 kj9 t391 t409 t410 (wrap64 ((t391.length : Int) + 1)) t414 t418 true)) else (laws_FnVersions.j1 kj9 t391 t409 t410 (wrap64 ((t391.length : Int) + 1)) t414 t418 true))) = some r := H
     have A28 := Aside0.mk A280
     clear A280
     replace H := Option.bind_eq_some_iff.mp H
     obtain ⟨⟨t426, t427⟩, A290, H⟩ := H
     replace H : (if t411 = 0 then (if (t410.length : Int) = (wrap64 ((t391.length : Int) + 1)) then (if t415 = 0 then (if (t414.length : Int) = (wrap64 ((wrap64 ((t391.length : Int) + 1)) + 1)) then (if t419 = 0 then (if t423 = 0 then ((laws_r8Has.f kj9 t422 (wrap64 ((t391.length : Int) + 1))).bind fun t428 => (if t428 = true then (if t427 = 0 then (if t426 = (wrap64 ((t391.length : Int) + 1)) then ((spec_ValidHistory.f kj9 t414).bind fun t429 => (laws_FnVersions.j1 kj9 t391 t409 t410 (wrap64 ((t391.length : Int) + 1)) t414 t418 (!t429))) else (laws_FnVersions.j1 kj9 t391 t409 t410 (wrap64 ((t391.length : Int) + 1)) t414 t418 true)) else (laws_FnVersions.j1 kj9 t391 t409 t410 (wrap64 ((t391.length : Int) + 1)) t414 t418 true)) else (laws_FnVersions.j1 kj9 t391 t409 t410 (wrap64 ((t391.length : Int) + 1)) t414 t418 true))) else (laws_FnVersions.j1 kj9 t391 t409 t410 (wrap64 ((t391.length : Int) + 1)) t414 t418 true)) else (laws_FnVersions.j1 kj9 t391 t409 t410 (wrap64 ((t391.length : Int) + 1)) t414 t418 true)) else (laws_FnVersions.j1 kj9 t391 t409 t410 (wrap64 ((t391.length : Int) + 1)) t414 t418 true)) else (laws_FnVersions.j1 kj9 t391 t409 t410 (wrap64 ((t391.length : Int) + 1)) t414 t418 true)) else (laws_FnVersions.j1 kj9 t391 t409 t410 (wrap64 ((t391.length : Int) + 1)) t414 t418 true)) else (laws_FnVersions.j1 kj9 t391 t409 t410 (wrap64 ((t391.length : Int) + 1)) t414 t418 true)) = some r := H
     have A29 := Aside0.mk A290
     clear A290
     have HC30 := Aside0.mk H
     clear H
     obtain ⟨Ao31, co31, eo31⟩ := Kd.S_slice HO_5.out
     subst eo31
     go_upto_region 17 with (first | (go_at_call 14; (with_reducible refine (laws_r8At.calls _ _ l1 0 (wrap64 ((t391.length : Int) + 1)) t409 _ ?side1 ?side2 A24.out).mono ?_); (case side1 => exact cA_ (Kd.C_below HR1.out HB.out)); (case side2 => exact HC1.out); rintro e w' ⟨rfl, ⟨nd, rfl⟩⟩; (try first | exact ⟨rfl, _, World.drewN_drewN _ _ _⟩ | exact ⟨rfl, _, Eq.trans (World.drewN_drewN _ _ _) (congrArg (World.drewN _) (Nat.add_assoc _ _ _))⟩)) | (go_at_call 15; (with_reducible refine (impl_CommitState.calls kj9 _ _ t391 t409 (⟨#[110, 101, 120, 116]⟩ : ByteArray) _ _ t394 t410 t411 _ ?side1 ?side2 ?side3 ?side4 A25.out).mono ?_); (case side1 => repeat (first | exact (Kd.S_reads' HO_5.out).2.2 | (with_reducible refine Kd.C_alloc ?_ _) | (with_reducible refine Kd.C_drewN ?_ _) | (with_reducible refine Kd.C_drew ?_))); (case side2 => exact (Kd.S_reads' HO_5.out).2.1); (case side3 => repeat (first | exact (Kd.R_reads' HO_6.out).2.2 | (with_reducible refine Kd.C_alloc ?_ _) | (with_reducible refine Kd.C_drewN ?_ _) | (with_reducible refine Kd.C_drew ?_))); (case side4 => exact (Kd.R_reads' HO_6.out).2.1); rintro e w32 ⟨v412, rfl, ho0, hb⟩; have n0_ := Aside0.mk (Kd.S_elder' (sA_ HO_5.out) (Kd.S_base ho0) hb); have n1_ := Aside0.mk (Kd.R_below (rA_ HO_6.out) hb); have n2_ := Aside0.mk (Kd.S_lower (Kd.S_new' (Kd.S_new' ho0 (Kd.S_lt (sA_ HO_5.out))) (Kd.R_lt (rA_ HO_6.out))) (below_size bB_)); have n3_ := Aside0.mk (below_step bB_ hb); clear HO_5; clear HO_6; clear HB; have HO_5 := n0_; have HO_6 := n1_; have HO413 := n2_; have HB := n3_; clear n0_ n1_ n2_ n3_; (try clear hb); (try clear hb2); (try clear hk); (try clear hi); (try clear ho0); obtain ⟨Ao33, co33, eo33⟩ := Kd.S_slice HO413.out; subst eo33) | (go_at_call 16; (with_reducible refine (impl_UndoVersion.calls kj9 _ _ t410 (wrap64 ((t391.length : Int) + 1)) t414 t415 _ ?side1 ?side2 ?side3 A26.out).mono ?_); (case side1 => repeat (first | exact (Kd.S_reads' HO413.out).2.2 | (with_reducible refine Kd.C_alloc ?_ _) | (with_reducible refine Kd.C_drewN ?_ _) | (with_reducible refine Kd.C_drew ?_))); (case side2 => exact (Kd.S_reads' HO413.out).2.1); (case side3 => exact wok_ HWOK_.out bB_); rintro e w34 ⟨v416, rfl, ho0, hb⟩; have n0_ := Aside0.mk (Kd.S_elder' (sA_ HO_5.out) (Kd.S_base ho0) hb); have n1_ := Aside0.mk (Kd.R_below (rA_ HO_6.out) hb); have n2_ := Aside0.mk (Kd.S_elder' (sA_ HO413.out) (Kd.S_base ho0) hb); have n3_ := Aside0.mk (Kd.S_lower (Kd.S_new' (Kd.S_new' (Kd.S_new' ho0 (Kd.S_lt (sA_ HO_5.out))) (Kd.R_lt (rA_ HO_6.out))) (Kd.S_lt (sA_ HO413.out))) (below_size bB_)); have n4_ := Aside0.mk (below_step bB_ hb); clear HO_5; clear HO_6; clear HO413; clear HB; have HO_5 := n0_; have HO_6 := n1_; have HO413 := n2_; have HO417 := n3_; have HB := n4_; clear n0_ n1_ n2_ n3_ n4_; (try clear hb); (try clear hb2); (try clear hk); (try clear hi); (try clear ho0)) | (go_at_call 17; (with_reducible refine (impl_AncestorsOf.calls kj9 _ _ t410 (wrap64 ((t391.length : Int) + 1)) t418 t419 _ ?side1 ?side2 A27.out).mono ?_); (case side1 => repeat (first | exact (Kd.S_reads' HO413.out).2.2 | (with_reducible refine Kd.C_alloc ?_ _) | (with_reducible refine Kd.C_drewN ?_ _) | (with_reducible refine Kd.C_drew ?_))); (case side2 => exact (Kd.S_reads' HO413.out).2.1); rintro e w35 ⟨v420, rfl, ho0, hb⟩; have n0_ := Aside0.mk (Kd.S_below (sA_ HO_5.out) hb); have n1_ := Aside0.mk (Kd.R_below (rA_ HO_6.out) hb); have n2_ := Aside0.mk (Kd.S_below (sA_ HO413.out) hb); have n3_ := Aside0.mk (Kd.S_below (sA_ HO417.out) hb); have n4_ := Aside0.mk (Kd.Q_lower ho0 (below_size bB_)); have n5_ := Aside0.mk (below_step bB_ hb); clear HO_5; clear HO_6; clear HO413; clear HO417; clear HB; have HO_5 := n0_; have HO_6 := n1_; have HO413 := n2_; have HO417 := n3_; have HO421 := n4_; have HB := n5_; clear n0_ n1_ n2_ n3_ n4_ n5_; (try clear hb); (try clear hb2); (try clear hk); (try clear hi); (try clear ho0)) | (go_at_call 18; (with_reducible refine (impl_HeadsOf.calls kj9 _ _ t410 t422 t423 _ ?side1 ?side2 A28.out).mono ?_); (case side1 => repeat (first | exact (Kd.S_reads' HO413.out).2.2 | (with_reducible refine Kd.C_alloc ?_ _) | (with_reducible refine Kd.C_drewN ?_ _) | (with_reducible refine Kd.C_drew ?_))); (case side2 => exact (Kd.S_reads' HO413.out).2.1); rintro e w36 ⟨v424, rfl, ho0, hb⟩; have n0_ := Aside0.mk (Kd.S_below (sA_ HO_5.out) hb); have n1_ := Aside0.mk (Kd.R_below (rA_ HO_6.out) hb); have n2_ := Aside0.mk (Kd.S_below (sA_ HO413.out) hb); have n3_ := Aside0.mk (Kd.S_below (sA_ HO417.out) hb); have n4_ := Aside0.mk (Kd.Q_elder' (qA_ HO421.out) (Kd.R_base ho0) hb); have n5_ := Aside0.mk (Kd.R_lower (Kd.R_new' ho0 (Kd.Q_lt (qA_ HO421.out))) (below_size bB_)); have n6_ := Aside0.mk (below_step bB_ hb); clear HO_5; clear HO_6; clear HO413; clear HO417; clear HO421; clear HB; have HO_5 := n0_; have HO_6 := n1_; have HO413 := n2_; have HO417 := n3_; have HO421 := n4_; have HO425 := n5_; have HB := n6_; clear n0_ n1_ n2_ n3_ n4_ n5_ n6_; (try clear hb); (try clear hb2); (try clear hk); (try clear hi); (try clear ho0)) | (go_at_call 19; (with_reducible refine (impl_CommonAncestor.calls kj9 _ _ t410 (wrap64 ((t391.length : Int) + 1)) (wrap64 ((t391.length : Int) + 1)) t426 t427 _ ?side1 ?side2 A29.out).mono ?_); (case side1 => repeat (first | exact (Kd.S_reads' HO413.out).2.2 | (with_reducible refine Kd.C_alloc ?_ _) | (with_reducible refine Kd.C_drewN ?_ _) | (with_reducible refine Kd.C_drew ?_))); (case side2 => exact (Kd.S_reads' HO413.out).2.1); rintro e w37 ⟨rfl, hb⟩; have n0_ := Aside0.mk (Kd.S_below (sA_ HO_5.out) hb); have n1_ := Aside0.mk (Kd.R_below (rA_ HO_6.out) hb); have n2_ := Aside0.mk (Kd.S_below (sA_ HO413.out) hb); have n3_ := Aside0.mk (Kd.S_below (sA_ HO417.out) hb); have n4_ := Aside0.mk (Kd.Q_below (qA_ HO421.out) hb); have n5_ := Aside0.mk (Kd.R_below (rA_ HO425.out) hb); have n6_ := Aside0.mk (below_step bB_ hb); clear HO_5; clear HO_6; clear HO413; clear HO417; clear HO421; clear HO425; clear HB; have HO_5 := n0_; have HO_6 := n1_; have HO413 := n2_; have HO417 := n3_; have HO421 := n4_; have HO425 := n5_; have HB := n6_; clear n0_ n1_ n2_ n3_ n4_ n5_ n6_; (try clear hb); (try clear hb2); (try clear hk); (try clear hi)))
     repeat (go_quiet (first | (go_at_call 14; (try simp only [i64_w]); (with_reducible refine (laws_r8At.calls _ _ l1 0 (wrap64 ((t391.length : Int) + 1)) t409 _ ?side1 ?side2 A24.out).mono ?_); (case side1 => exact cA_ (Kd.C_below HR1.out HB.out)); (case side2 => exact HC1.out); rintro e w' ⟨rfl, ⟨nd, rfl⟩⟩; (try first | exact ⟨rfl, _, World.drewN_drewN _ _ _⟩ | exact ⟨rfl, _, Eq.trans (World.drewN_drewN _ _ _) (congrArg (World.drewN _) (Nat.add_assoc _ _ _))⟩)) | (go_at_call 15; (with_reducible refine (impl_CommitState.calls kj9 _ _ t391 t409 (⟨#[110, 101, 120, 116]⟩ : ByteArray) _ _ t394 t410 t411 _ ?side1 ?side2 ?side3 ?side4 A25.out).mono ?_); (case side1 => repeat (first | exact (Kd.S_reads' HO_5.out).2.2 | (with_reducible refine Kd.C_alloc ?_ _) | (with_reducible refine Kd.C_drewN ?_ _) | (with_reducible refine Kd.C_drew ?_))); (case side2 => exact (Kd.S_reads' HO_5.out).2.1); (case side3 => repeat (first | exact (Kd.R_reads' HO_6.out).2.2 | (with_reducible refine Kd.C_alloc ?_ _) | (with_reducible refine Kd.C_drewN ?_ _) | (with_reducible refine Kd.C_drew ?_))); (case side4 => exact (Kd.R_reads' HO_6.out).2.1); rintro e w32 ⟨v412, rfl, ho0, hb⟩; have n0_ := Aside0.mk (Kd.S_elder' (sA_ HO_5.out) (Kd.S_base ho0) hb); have n1_ := Aside0.mk (Kd.R_below (rA_ HO_6.out) hb); have n2_ := Aside0.mk (Kd.S_lower (Kd.S_new' (Kd.S_new' ho0 (Kd.S_lt (sA_ HO_5.out))) (Kd.R_lt (rA_ HO_6.out))) (below_size bB_)); have n3_ := Aside0.mk (below_step bB_ hb); clear HO_5; clear HO_6; clear HB; have HO_5 := n0_; have HO_6 := n1_; have HO413 := n2_; have HB := n3_; clear n0_ n1_ n2_ n3_; (try clear hb); (try clear hb2); (try clear hk); (try clear hi); (try clear ho0); obtain ⟨Ao33, co33, eo33⟩ := Kd.S_slice HO413.out; subst eo33) | (go_at_call 16; (try simp only [i64_w]); (with_reducible refine (impl_UndoVersion.calls kj9 _ _ t410 (wrap64 ((t391.length : Int) + 1)) t414 t415 _ ?side1 ?side2 ?side3 A26.out).mono ?_); (case side1 => repeat (first | exact (Kd.S_reads' HO413.out).2.2 | (with_reducible refine Kd.C_alloc ?_ _) | (with_reducible refine Kd.C_drewN ?_ _) | (with_reducible refine Kd.C_drew ?_))); (case side2 => exact (Kd.S_reads' HO413.out).2.1); (case side3 => exact wok_ HWOK_.out bB_); rintro e w34 ⟨v416, rfl, ho0, hb⟩; have n0_ := Aside0.mk (Kd.S_elder' (sA_ HO_5.out) (Kd.S_base ho0) hb); have n1_ := Aside0.mk (Kd.R_below (rA_ HO_6.out) hb); have n2_ := Aside0.mk (Kd.S_elder' (sA_ HO413.out) (Kd.S_base ho0) hb); have n3_ := Aside0.mk (Kd.S_lower (Kd.S_new' (Kd.S_new' (Kd.S_new' ho0 (Kd.S_lt (sA_ HO_5.out))) (Kd.R_lt (rA_ HO_6.out))) (Kd.S_lt (sA_ HO413.out))) (below_size bB_)); have n4_ := Aside0.mk (below_step bB_ hb); clear HO_5; clear HO_6; clear HO413; clear HB; have HO_5 := n0_; have HO_6 := n1_; have HO413 := n2_; have HO417 := n3_; have HB := n4_; clear n0_ n1_ n2_ n3_ n4_; (try clear hb); (try clear hb2); (try clear hk); (try clear hi); (try clear ho0)) | (go_at_call 17; (try simp only [i64_w]); (with_reducible refine (impl_AncestorsOf.calls kj9 _ _ t410 (wrap64 ((t391.length : Int) + 1)) t418 t419 _ ?side1 ?side2 A27.out).mono ?_); (case side1 => repeat (first | exact (Kd.S_reads' HO413.out).2.2 | (with_reducible refine Kd.C_alloc ?_ _) | (with_reducible refine Kd.C_drewN ?_ _) | (with_reducible refine Kd.C_drew ?_))); (case side2 => exact (Kd.S_reads' HO413.out).2.1); rintro e w35 ⟨v420, rfl, ho0, hb⟩; have n0_ := Aside0.mk (Kd.S_below (sA_ HO_5.out) hb); have n1_ := Aside0.mk (Kd.R_below (rA_ HO_6.out) hb); have n2_ := Aside0.mk (Kd.S_below (sA_ HO413.out) hb); have n3_ := Aside0.mk (Kd.S_below (sA_ HO417.out) hb); have n4_ := Aside0.mk (Kd.Q_lower ho0 (below_size bB_)); have n5_ := Aside0.mk (below_step bB_ hb); clear HO_5; clear HO_6; clear HO413; clear HO417; clear HB; have HO_5 := n0_; have HO_6 := n1_; have HO413 := n2_; have HO417 := n3_; have HO421 := n4_; have HB := n5_; clear n0_ n1_ n2_ n3_ n4_ n5_; (try clear hb); (try clear hb2); (try clear hk); (try clear hi); (try clear ho0)) | (go_at_call 18; (with_reducible refine (impl_HeadsOf.calls kj9 _ _ t410 t422 t423 _ ?side1 ?side2 A28.out).mono ?_); (case side1 => repeat (first | exact (Kd.S_reads' HO413.out).2.2 | (with_reducible refine Kd.C_alloc ?_ _) | (with_reducible refine Kd.C_drewN ?_ _) | (with_reducible refine Kd.C_drew ?_))); (case side2 => exact (Kd.S_reads' HO413.out).2.1); rintro e w36 ⟨v424, rfl, ho0, hb⟩; have n0_ := Aside0.mk (Kd.S_below (sA_ HO_5.out) hb); have n1_ := Aside0.mk (Kd.R_below (rA_ HO_6.out) hb); have n2_ := Aside0.mk (Kd.S_below (sA_ HO413.out) hb); have n3_ := Aside0.mk (Kd.S_below (sA_ HO417.out) hb); have n4_ := Aside0.mk (Kd.Q_elder' (qA_ HO421.out) (Kd.R_base ho0) hb); have n5_ := Aside0.mk (Kd.R_lower (Kd.R_new' ho0 (Kd.Q_lt (qA_ HO421.out))) (below_size bB_)); have n6_ := Aside0.mk (below_step bB_ hb); clear HO_5; clear HO_6; clear HO413; clear HO417; clear HO421; clear HB; have HO_5 := n0_; have HO_6 := n1_; have HO413 := n2_; have HO417 := n3_; have HO421 := n4_; have HO425 := n5_; have HB := n6_; clear n0_ n1_ n2_ n3_ n4_ n5_ n6_; (try clear hb); (try clear hb2); (try clear hk); (try clear hi); (try clear ho0)) | (go_at_call 19; (try simp only [i64_w]); (with_reducible refine (impl_CommonAncestor.calls kj9 _ _ t410 (wrap64 ((t391.length : Int) + 1)) (wrap64 ((t391.length : Int) + 1)) t426 t427 _ ?side1 ?side2 A29.out).mono ?_); (case side1 => repeat (first | exact (Kd.S_reads' HO413.out).2.2 | (with_reducible refine Kd.C_alloc ?_ _) | (with_reducible refine Kd.C_drewN ?_ _) | (with_reducible refine Kd.C_drew ?_))); (case side2 => exact (Kd.S_reads' HO413.out).2.1); rintro e w37 ⟨rfl, hb⟩; have n0_ := Aside0.mk (Kd.S_below (sA_ HO_5.out) hb); have n1_ := Aside0.mk (Kd.R_below (rA_ HO_6.out) hb); have n2_ := Aside0.mk (Kd.S_below (sA_ HO413.out) hb); have n3_ := Aside0.mk (Kd.S_below (sA_ HO417.out) hb); have n4_ := Aside0.mk (Kd.Q_below (qA_ HO421.out) hb); have n5_ := Aside0.mk (Kd.R_below (rA_ HO425.out) hb); have n6_ := Aside0.mk (below_step bB_ hb); clear HO_5; clear HO_6; clear HO413; clear HO417; clear HO421; clear HO425; clear HB; have HO_5 := n0_; have HO_6 := n1_; have HO413 := n2_; have HO417 := n3_; have HO421 := n4_; have HO425 := n5_; have HB := n6_; clear n0_ n1_ n2_ n3_ n4_ n5_ n6_; (try clear hb); (try clear hb2); (try clear hk); (try clear hi))); go_upto_region 17 with (first | (go_at_call 14; (try simp only [i64_w]); (with_reducible refine (laws_r8At.calls _ _ l1 0 (wrap64 ((t391.length : Int) + 1)) t409 _ ?side1 ?side2 A24.out).mono ?_); (case side1 => exact cA_ (Kd.C_below HR1.out HB.out)); (case side2 => exact HC1.out); rintro e w' ⟨rfl, ⟨nd, rfl⟩⟩; (try first | exact ⟨rfl, _, World.drewN_drewN _ _ _⟩ | exact ⟨rfl, _, Eq.trans (World.drewN_drewN _ _ _) (congrArg (World.drewN _) (Nat.add_assoc _ _ _))⟩)) | (go_at_call 15; (with_reducible refine (impl_CommitState.calls kj9 _ _ t391 t409 (⟨#[110, 101, 120, 116]⟩ : ByteArray) _ _ t394 t410 t411 _ ?side1 ?side2 ?side3 ?side4 A25.out).mono ?_); (case side1 => repeat (first | exact (Kd.S_reads' HO_5.out).2.2 | (with_reducible refine Kd.C_alloc ?_ _) | (with_reducible refine Kd.C_drewN ?_ _) | (with_reducible refine Kd.C_drew ?_))); (case side2 => exact (Kd.S_reads' HO_5.out).2.1); (case side3 => repeat (first | exact (Kd.R_reads' HO_6.out).2.2 | (with_reducible refine Kd.C_alloc ?_ _) | (with_reducible refine Kd.C_drewN ?_ _) | (with_reducible refine Kd.C_drew ?_))); (case side4 => exact (Kd.R_reads' HO_6.out).2.1); rintro e w32 ⟨v412, rfl, ho0, hb⟩; have n0_ := Aside0.mk (Kd.S_elder' (sA_ HO_5.out) (Kd.S_base ho0) hb); have n1_ := Aside0.mk (Kd.R_below (rA_ HO_6.out) hb); have n2_ := Aside0.mk (Kd.S_lower (Kd.S_new' (Kd.S_new' ho0 (Kd.S_lt (sA_ HO_5.out))) (Kd.R_lt (rA_ HO_6.out))) (below_size bB_)); have n3_ := Aside0.mk (below_step bB_ hb); clear HO_5; clear HO_6; clear HB; have HO_5 := n0_; have HO_6 := n1_; have HO413 := n2_; have HB := n3_; clear n0_ n1_ n2_ n3_; (try clear hb); (try clear hb2); (try clear hk); (try clear hi); (try clear ho0); obtain ⟨Ao33, co33, eo33⟩ := Kd.S_slice HO413.out; subst eo33) | (go_at_call 16; (try simp only [i64_w]); (with_reducible refine (impl_UndoVersion.calls kj9 _ _ t410 (wrap64 ((t391.length : Int) + 1)) t414 t415 _ ?side1 ?side2 ?side3 A26.out).mono ?_); (case side1 => repeat (first | exact (Kd.S_reads' HO413.out).2.2 | (with_reducible refine Kd.C_alloc ?_ _) | (with_reducible refine Kd.C_drewN ?_ _) | (with_reducible refine Kd.C_drew ?_))); (case side2 => exact (Kd.S_reads' HO413.out).2.1); (case side3 => exact wok_ HWOK_.out bB_); rintro e w34 ⟨v416, rfl, ho0, hb⟩; have n0_ := Aside0.mk (Kd.S_elder' (sA_ HO_5.out) (Kd.S_base ho0) hb); have n1_ := Aside0.mk (Kd.R_below (rA_ HO_6.out) hb); have n2_ := Aside0.mk (Kd.S_elder' (sA_ HO413.out) (Kd.S_base ho0) hb); have n3_ := Aside0.mk (Kd.S_lower (Kd.S_new' (Kd.S_new' (Kd.S_new' ho0 (Kd.S_lt (sA_ HO_5.out))) (Kd.R_lt (rA_ HO_6.out))) (Kd.S_lt (sA_ HO413.out))) (below_size bB_)); have n4_ := Aside0.mk (below_step bB_ hb); clear HO_5; clear HO_6; clear HO413; clear HB; have HO_5 := n0_; have HO_6 := n1_; have HO413 := n2_; have HO417 := n3_; have HB := n4_; clear n0_ n1_ n2_ n3_ n4_; (try clear hb); (try clear hb2); (try clear hk); (try clear hi); (try clear ho0)) | (go_at_call 17; (try simp only [i64_w]); (with_reducible refine (impl_AncestorsOf.calls kj9 _ _ t410 (wrap64 ((t391.length : Int) + 1)) t418 t419 _ ?side1 ?side2 A27.out).mono ?_); (case side1 => repeat (first | exact (Kd.S_reads' HO413.out).2.2 | (with_reducible refine Kd.C_alloc ?_ _) | (with_reducible refine Kd.C_drewN ?_ _) | (with_reducible refine Kd.C_drew ?_))); (case side2 => exact (Kd.S_reads' HO413.out).2.1); rintro e w35 ⟨v420, rfl, ho0, hb⟩; have n0_ := Aside0.mk (Kd.S_below (sA_ HO_5.out) hb); have n1_ := Aside0.mk (Kd.R_below (rA_ HO_6.out) hb); have n2_ := Aside0.mk (Kd.S_below (sA_ HO413.out) hb); have n3_ := Aside0.mk (Kd.S_below (sA_ HO417.out) hb); have n4_ := Aside0.mk (Kd.Q_lower ho0 (below_size bB_)); have n5_ := Aside0.mk (below_step bB_ hb); clear HO_5; clear HO_6; clear HO413; clear HO417; clear HB; have HO_5 := n0_; have HO_6 := n1_; have HO413 := n2_; have HO417 := n3_; have HO421 := n4_; have HB := n5_; clear n0_ n1_ n2_ n3_ n4_ n5_; (try clear hb); (try clear hb2); (try clear hk); (try clear hi); (try clear ho0)) | (go_at_call 18; (with_reducible refine (impl_HeadsOf.calls kj9 _ _ t410 t422 t423 _ ?side1 ?side2 A28.out).mono ?_); (case side1 => repeat (first | exact (Kd.S_reads' HO413.out).2.2 | (with_reducible refine Kd.C_alloc ?_ _) | (with_reducible refine Kd.C_drewN ?_ _) | (with_reducible refine Kd.C_drew ?_))); (case side2 => exact (Kd.S_reads' HO413.out).2.1); rintro e w36 ⟨v424, rfl, ho0, hb⟩; have n0_ := Aside0.mk (Kd.S_below (sA_ HO_5.out) hb); have n1_ := Aside0.mk (Kd.R_below (rA_ HO_6.out) hb); have n2_ := Aside0.mk (Kd.S_below (sA_ HO413.out) hb); have n3_ := Aside0.mk (Kd.S_below (sA_ HO417.out) hb); have n4_ := Aside0.mk (Kd.Q_elder' (qA_ HO421.out) (Kd.R_base ho0) hb); have n5_ := Aside0.mk (Kd.R_lower (Kd.R_new' ho0 (Kd.Q_lt (qA_ HO421.out))) (below_size bB_)); have n6_ := Aside0.mk (below_step bB_ hb); clear HO_5; clear HO_6; clear HO413; clear HO417; clear HO421; clear HB; have HO_5 := n0_; have HO_6 := n1_; have HO413 := n2_; have HO417 := n3_; have HO421 := n4_; have HO425 := n5_; have HB := n6_; clear n0_ n1_ n2_ n3_ n4_ n5_ n6_; (try clear hb); (try clear hb2); (try clear hk); (try clear hi); (try clear ho0)) | (go_at_call 19; (try simp only [i64_w]); (with_reducible refine (impl_CommonAncestor.calls kj9 _ _ t410 (wrap64 ((t391.length : Int) + 1)) (wrap64 ((t391.length : Int) + 1)) t426 t427 _ ?side1 ?side2 A29.out).mono ?_); (case side1 => repeat (first | exact (Kd.S_reads' HO413.out).2.2 | (with_reducible refine Kd.C_alloc ?_ _) | (with_reducible refine Kd.C_drewN ?_ _) | (with_reducible refine Kd.C_drew ?_))); (case side2 => exact (Kd.S_reads' HO413.out).2.1); rintro e w37 ⟨rfl, hb⟩; have n0_ := Aside0.mk (Kd.S_below (sA_ HO_5.out) hb); have n1_ := Aside0.mk (Kd.R_below (rA_ HO_6.out) hb); have n2_ := Aside0.mk (Kd.S_below (sA_ HO413.out) hb); have n3_ := Aside0.mk (Kd.S_below (sA_ HO417.out) hb); have n4_ := Aside0.mk (Kd.Q_below (qA_ HO421.out) hb); have n5_ := Aside0.mk (Kd.R_below (rA_ HO425.out) hb); have n6_ := Aside0.mk (below_step bB_ hb); clear HO_5; clear HO_6; clear HO413; clear HO417; clear HO421; clear HO425; clear HB; have HO_5 := n0_; have HO_6 := n1_; have HO413 := n2_; have HO417 := n3_; have HO421 := n4_; have HO425 := n5_; have HB := n6_; clear n0_ n1_ n2_ n3_ n4_ n5_ n6_; (try clear hb); (try clear hb2); (try clear hk); (try clear hi))))
     (try simp only [Act.put, List.setIfInBounds_toArray, List.set_cons_zero, List.set_cons_succ])
     go_cut [145] (fun v145 wc => ∃ (kq : Nat) (x145_29 : Bool), v145 = .bool x145_29 ∧ Aside0 (laws_FnVersions.j1 kq t391 t409 t410 (wrap64 ((t391.length : Int) + 1)) t414 t418 x145_29 = some r) ∧ Aside0 (kq ≤ kj9) ∧ Aside0 (Kd.S k48 48 wc w.heap.size (fun k_ => some k_ ≠ ((.slice Ao33 t410.length co33) : Value).ownBlock ∧ some k_ ≠ (v416 : Value).ownBlock) (.slice Ao31 t391.length co31) t391) ∧ Aside0 (Kd.S k48 48 wc w.heap.size (fun k_ => some k_ ≠ ((.slice Ao31 t391.length co31) : Value).ownBlock ∧ some k_ ≠ (v416 : Value).ownBlock) (.slice Ao33 t410.length co33) t410) ∧ Aside0 (Kd.S k48 48 wc w.heap.size (fun k_ => some k_ ≠ ((.slice Ao31 t391.length co31) : Value).ownBlock ∧ some k_ ≠ ((.slice Ao33 t410.length co33) : Value).ownBlock) v416 t414) ∧ Aside0 (Kd.Q (Kd.int .i64) 2 wc w.heap.size (fun _ => True) v420 t418) ∧ Aside0 (Below w.heap.size w wc))
     case first =>
      as_aux_lemma =>
       have H := HC30.out
       clear HC30
       by_cases c38 : t411 = 0
       ·
        rw [if_pos c38] at H
        have c38b0 : (t411 == 0) = true := beq_iff_eq.mpr c38
        have c38b1 : (t411 != 0) = false := bne_eq_false_iff_eq.mpr c38
        clear c38
        (first | rw [c38b0] | (simp only [i64_w, i32_w]; rw [c38b0]) | skip)
        by_cases c39 : (t410.length : Int) = (wrap64 ((t391.length : Int) + 1))
        ·
         rw [if_pos c39] at H
         have c39b0 : ((t410.length : Int) == (wrap64 ((t391.length : Int) + 1))) = true := beq_iff_eq.mpr c39
         have c39b1 : ((t410.length : Int) != (wrap64 ((t391.length : Int) + 1))) = false := bne_eq_false_iff_eq.mpr c39
         clear c39
         by_cases c40 : t415 = 0
         ·
          rw [if_pos c40] at H
          have c40b0 : (t415 == 0) = true := beq_iff_eq.mpr c40
          have c40b1 : (t415 != 0) = false := bne_eq_false_iff_eq.mpr c40
          clear c40
          by_cases c41 : (t414.length : Int) = (wrap64 ((wrap64 ((t391.length : Int) + 1)) + 1))
          ·
           rw [if_pos c41] at H
           have c41b0 : ((t414.length : Int) == (wrap64 ((wrap64 ((t391.length : Int) + 1)) + 1))) = true := beq_iff_eq.mpr c41
           have c41b1 : ((t414.length : Int) != (wrap64 ((wrap64 ((t391.length : Int) + 1)) + 1))) = false := bne_eq_false_iff_eq.mpr c41
           clear c41
           by_cases c42 : t419 = 0
           ·
            rw [if_pos c42] at H
            have c42b0 : (t419 == 0) = true := beq_iff_eq.mpr c42
            have c42b1 : (t419 != 0) = false := bne_eq_false_iff_eq.mpr c42
            clear c42
            by_cases c43 : t423 = 0
            ·
             rw [if_pos c43] at H
             have c43b0 : (t423 == 0) = true := beq_iff_eq.mpr c43
             have c43b1 : (t423 != 0) = false := bne_eq_false_iff_eq.mpr c43
             clear c43
             replace H := Option.bind_eq_some_iff.mp H
             obtain ⟨t428, A440, H⟩ := H
             replace H : (if t428 = true then (if t427 = 0 then (if t426 = (wrap64 ((t391.length : Int) + 1)) then ((spec_ValidHistory.f kj9 t414).bind fun t429 => (laws_FnVersions.j1 kj9 t391 t409 t410 (wrap64 ((t391.length : Int) + 1)) t414 t418 (!t429))) else (laws_FnVersions.j1 kj9 t391 t409 t410 (wrap64 ((t391.length : Int) + 1)) t414 t418 true)) else (laws_FnVersions.j1 kj9 t391 t409 t410 (wrap64 ((t391.length : Int) + 1)) t414 t418 true)) else (laws_FnVersions.j1 kj9 t391 t409 t410 (wrap64 ((t391.length : Int) + 1)) t414 t418 true)) = some r := H
             have A44 := Aside0.mk A440
             clear A440
             by_cases c45 : t428 = true
             ·
              subst c45
              have H1 : (if t427 = 0 then (if t426 = (wrap64 ((t391.length : Int) + 1)) then ((spec_ValidHistory.f kj9 t414).bind fun t429 => (laws_FnVersions.j1 kj9 t391 t409 t410 (wrap64 ((t391.length : Int) + 1)) t414 t418 (!t429))) else (laws_FnVersions.j1 kj9 t391 t409 t410 (wrap64 ((t391.length : Int) + 1)) t414 t418 true)) else (laws_FnVersions.j1 kj9 t391 t409 t410 (wrap64 ((t391.length : Int) + 1)) t414 t418 true)) = some r := by rw [if_pos rfl] at H; exact H
              clear H
              have H := H1
              clear H1
              by_cases c46 : t427 = 0
              ·
               rw [if_pos c46] at H
               have c46b0 : (t427 == 0) = true := beq_iff_eq.mpr c46
               have c46b1 : (t427 != 0) = false := bne_eq_false_iff_eq.mpr c46
               clear c46
               by_cases c47 : t426 = (wrap64 ((t391.length : Int) + 1))
               ·
                rw [if_pos c47] at H
                have c47b0 : (t426 == (wrap64 ((t391.length : Int) + 1))) = true := beq_iff_eq.mpr c47
                have c47b1 : (t426 != (wrap64 ((t391.length : Int) + 1))) = false := bne_eq_false_iff_eq.mpr c47
                clear c47
                replace H := Option.bind_eq_some_iff.mp H
                obtain ⟨t429, A480, H⟩ := H
                replace H : (laws_FnVersions.j1 kj9 t391 t409 t410 (wrap64 ((t391.length : Int) + 1)) t414 t418 (!t429)) = some r := H
                have A48 := Aside0.mk A480
                clear A480
                have H' := Aside0.mk H
                clear H
                obtain ⟨Ao49, co49, eo49⟩ := Kd.S_slice HO417.out
                subst eo49
                obtain ⟨Ao50, co50, eo50⟩ := Kd.R_slice HO425.out
                subst eo50
                go_wp2_with (first | (go_at_call 20; (with_reducible refine (laws_r8Has.calls kj9 _ _ t422 (wrap64 ((t391.length : Int) + 1)) true _ ?side1 ?side2 A44.out).mono ?_); (case side1 => repeat (first | exact (Kd.R_reads' HO425.out).2.2 | (with_reducible refine Kd.C_alloc ?_ _) | (with_reducible refine Kd.C_drewN ?_ _) | (with_reducible refine Kd.C_drew ?_))); (case side2 => exact (Kd.R_reads' HO425.out).2.1); rintro e w' ⟨rfl, ⟨nd, rfl⟩⟩; (try first | exact ⟨rfl, _, World.drewN_drewN _ _ _⟩ | exact ⟨rfl, _, Eq.trans (World.drewN_drewN _ _ _) (congrArg (World.drewN _) (Nat.add_assoc _ _ _))⟩)) | (go_at_call 21; (with_reducible refine (spec_ValidHistory.calls kj9 _ _ t414 t429 _ ?side1 ?side2 A48.out).mono ?_); (case side1 => repeat (first | exact (Kd.S_reads' HO417.out).2.2 | (with_reducible refine Kd.C_alloc ?_ _) | (with_reducible refine Kd.C_drewN ?_ _) | (with_reducible refine Kd.C_drew ?_))); (case side2 => exact (Kd.S_reads' HO417.out).2.1); rintro e w51 ⟨rfl, hb⟩; have n0_ := Aside0.mk (Kd.S_below (sA_ HO_5.out) hb); have n1_ := Aside0.mk (Kd.R_below (rA_ HO_6.out) hb); have n2_ := Aside0.mk (Kd.S_below (sA_ HO413.out) hb); have n3_ := Aside0.mk (Kd.S_below (sA_ HO417.out) hb); have n4_ := Aside0.mk (Kd.Q_below (qA_ HO421.out) hb); have n5_ := Aside0.mk (Kd.R_below (rA_ HO425.out) hb); have n6_ := Aside0.mk (below_step bB_ hb); clear HO_5; clear HO_6; clear HO413; clear HO417; clear HO421; clear HO425; clear HB; have HO_5 := n0_; have HO_6 := n1_; have HO413 := n2_; have HO417 := n3_; have HO421 := n4_; have HO425 := n5_; have HB := n6_; clear n0_ n1_ n2_ n3_ n4_ n5_ n6_; (try clear hb); (try clear hb2); (try clear hk); (try clear hi)))
                repeat (go_quiet (first | (go_at_call 20; (try simp only [i64_w]); (with_reducible refine (laws_r8Has.calls kj9 _ _ t422 (wrap64 ((t391.length : Int) + 1)) true _ ?side1 ?side2 A44.out).mono ?_); (case side1 => repeat (first | exact (Kd.R_reads' HO425.out).2.2 | (with_reducible refine Kd.C_alloc ?_ _) | (with_reducible refine Kd.C_drewN ?_ _) | (with_reducible refine Kd.C_drew ?_))); (case side2 => exact (Kd.R_reads' HO425.out).2.1); rintro e w' ⟨rfl, ⟨nd, rfl⟩⟩; (try first | exact ⟨rfl, _, World.drewN_drewN _ _ _⟩ | exact ⟨rfl, _, Eq.trans (World.drewN_drewN _ _ _) (congrArg (World.drewN _) (Nat.add_assoc _ _ _))⟩)) | (go_at_call 21; (with_reducible refine (spec_ValidHistory.calls kj9 _ _ t414 t429 _ ?side1 ?side2 A48.out).mono ?_); (case side1 => repeat (first | exact (Kd.S_reads' HO417.out).2.2 | (with_reducible refine Kd.C_alloc ?_ _) | (with_reducible refine Kd.C_drewN ?_ _) | (with_reducible refine Kd.C_drew ?_))); (case side2 => exact (Kd.S_reads' HO417.out).2.1); rintro e w51 ⟨rfl, hb⟩; have n0_ := Aside0.mk (Kd.S_below (sA_ HO_5.out) hb); have n1_ := Aside0.mk (Kd.R_below (rA_ HO_6.out) hb); have n2_ := Aside0.mk (Kd.S_below (sA_ HO413.out) hb); have n3_ := Aside0.mk (Kd.S_below (sA_ HO417.out) hb); have n4_ := Aside0.mk (Kd.Q_below (qA_ HO421.out) hb); have n5_ := Aside0.mk (Kd.R_below (rA_ HO425.out) hb); have n6_ := Aside0.mk (below_step bB_ hb); clear HO_5; clear HO_6; clear HO413; clear HO417; clear HO421; clear HO425; clear HB; have HO_5 := n0_; have HO_6 := n1_; have HO413 := n2_; have HO417 := n3_; have HO421 := n4_; have HO425 := n5_; have HB := n6_; clear n0_ n1_ n2_ n3_ n4_ n5_ n6_; (try clear hb); (try clear hb2); (try clear hk); (try clear hi))); try go_wp2_with (first | (go_at_call 20; (try simp only [i64_w]); (with_reducible refine (laws_r8Has.calls kj9 _ _ t422 (wrap64 ((t391.length : Int) + 1)) true _ ?side1 ?side2 A44.out).mono ?_); (case side1 => repeat (first | exact (Kd.R_reads' HO425.out).2.2 | (with_reducible refine Kd.C_alloc ?_ _) | (with_reducible refine Kd.C_drewN ?_ _) | (with_reducible refine Kd.C_drew ?_))); (case side2 => exact (Kd.R_reads' HO425.out).2.1); rintro e w' ⟨rfl, ⟨nd, rfl⟩⟩; (try first | exact ⟨rfl, _, World.drewN_drewN _ _ _⟩ | exact ⟨rfl, _, Eq.trans (World.drewN_drewN _ _ _) (congrArg (World.drewN _) (Nat.add_assoc _ _ _))⟩)) | (go_at_call 21; (with_reducible refine (spec_ValidHistory.calls kj9 _ _ t414 t429 _ ?side1 ?side2 A48.out).mono ?_); (case side1 => repeat (first | exact (Kd.S_reads' HO417.out).2.2 | (with_reducible refine Kd.C_alloc ?_ _) | (with_reducible refine Kd.C_drewN ?_ _) | (with_reducible refine Kd.C_drew ?_))); (case side2 => exact (Kd.S_reads' HO417.out).2.1); rintro e w51 ⟨rfl, hb⟩; have n0_ := Aside0.mk (Kd.S_below (sA_ HO_5.out) hb); have n1_ := Aside0.mk (Kd.R_below (rA_ HO_6.out) hb); have n2_ := Aside0.mk (Kd.S_below (sA_ HO413.out) hb); have n3_ := Aside0.mk (Kd.S_below (sA_ HO417.out) hb); have n4_ := Aside0.mk (Kd.Q_below (qA_ HO421.out) hb); have n5_ := Aside0.mk (Kd.R_below (rA_ HO425.out) hb); have n6_ := Aside0.mk (below_step bB_ hb); clear HO_5; clear HO_6; clear HO413; clear HO417; clear HO421; clear HO425; clear HB; have HO_5 := n0_; have HO_6 := n1_; have HO413 := n2_; have HO417 := n3_; have HO421 := n4_; have HO425 := n5_; have HB := n6_; clear n0_ n1_ n2_ n3_ n4_ n5_ n6_; (try clear hb); (try clear hb2); (try clear hk); (try clear hi))))
                go_meet
                case rel => exact ⟨_, (!t429), rs_, H', ⟨by have := HJ9.out; first | omega | exact Nat.le_refl _⟩, ⟨by (with_reducible repeat (first | apply Kd.S_alloc | apply Kd.S_drewN | apply Kd.S_drew)); exact Kd.S_mono HO_5.out (fun _ hk => ⟨hk.1.2, hk.2⟩)⟩, ⟨by (with_reducible repeat (first | apply Kd.S_alloc | apply Kd.S_drewN | apply Kd.S_drew)); exact Kd.S_mono HO413.out (fun _ hk => ⟨hk.1.1.2, hk.2⟩)⟩, ⟨by (with_reducible repeat (first | apply Kd.S_alloc | apply Kd.S_drewN | apply Kd.S_drew)); exact Kd.S_mono HO417.out (fun _ hk => ⟨hk.1.1.2, hk.2⟩)⟩, ⟨by (with_reducible repeat (first | apply Kd.Q_alloc | apply Kd.Q_drewN | apply Kd.Q_drew)); exact Kd.Q_mono HO421.out (fun _ hk => trivial)⟩, ⟨bB_⟩⟩
               ·
                rw [if_neg c47] at H
                have c47b0 : (t426 == (wrap64 ((t391.length : Int) + 1))) = false := beq_eq_false_iff_ne.mpr c47
                have c47b1 : (t426 != (wrap64 ((t391.length : Int) + 1))) = true := bne_iff_ne.mpr c47
                have H' := Aside0.mk H
                clear H
                obtain ⟨Ao52, co52, eo52⟩ := Kd.S_slice HO417.out
                subst eo52
                obtain ⟨Ao53, co53, eo53⟩ := Kd.R_slice HO425.out
                subst eo53
                go_wp2_with (first | (go_at_call 20; (with_reducible refine (laws_r8Has.calls kj9 _ _ t422 (wrap64 ((t391.length : Int) + 1)) true _ ?side1 ?side2 A44.out).mono ?_); (case side1 => repeat (first | exact (Kd.R_reads' HO425.out).2.2 | (with_reducible refine Kd.C_alloc ?_ _) | (with_reducible refine Kd.C_drewN ?_ _) | (with_reducible refine Kd.C_drew ?_))); (case side2 => exact (Kd.R_reads' HO425.out).2.1); rintro e w' ⟨rfl, ⟨nd, rfl⟩⟩; (try first | exact ⟨rfl, _, World.drewN_drewN _ _ _⟩ | exact ⟨rfl, _, Eq.trans (World.drewN_drewN _ _ _) (congrArg (World.drewN _) (Nat.add_assoc _ _ _))⟩)))
                repeat (go_quiet (first | (go_at_call 20; (try simp only [i64_w]); (with_reducible refine (laws_r8Has.calls kj9 _ _ t422 (wrap64 ((t391.length : Int) + 1)) true _ ?side1 ?side2 A44.out).mono ?_); (case side1 => repeat (first | exact (Kd.R_reads' HO425.out).2.2 | (with_reducible refine Kd.C_alloc ?_ _) | (with_reducible refine Kd.C_drewN ?_ _) | (with_reducible refine Kd.C_drew ?_))); (case side2 => exact (Kd.R_reads' HO425.out).2.1); rintro e w' ⟨rfl, ⟨nd, rfl⟩⟩; (try first | exact ⟨rfl, _, World.drewN_drewN _ _ _⟩ | exact ⟨rfl, _, Eq.trans (World.drewN_drewN _ _ _) (congrArg (World.drewN _) (Nat.add_assoc _ _ _))⟩))); try go_wp2_with (first | (go_at_call 20; (try simp only [i64_w]); (with_reducible refine (laws_r8Has.calls kj9 _ _ t422 (wrap64 ((t391.length : Int) + 1)) true _ ?side1 ?side2 A44.out).mono ?_); (case side1 => repeat (first | exact (Kd.R_reads' HO425.out).2.2 | (with_reducible refine Kd.C_alloc ?_ _) | (with_reducible refine Kd.C_drewN ?_ _) | (with_reducible refine Kd.C_drew ?_))); (case side2 => exact (Kd.R_reads' HO425.out).2.1); rintro e w' ⟨rfl, ⟨nd, rfl⟩⟩; (try first | exact ⟨rfl, _, World.drewN_drewN _ _ _⟩ | exact ⟨rfl, _, Eq.trans (World.drewN_drewN _ _ _) (congrArg (World.drewN _) (Nat.add_assoc _ _ _))⟩))))
                go_meet
                case rel => exact ⟨_, (true), rs_, H', ⟨by have := HJ9.out; first | omega | exact Nat.le_refl _⟩, ⟨by (with_reducible repeat (first | apply Kd.S_alloc | apply Kd.S_drewN | apply Kd.S_drew)); exact Kd.S_mono HO_5.out (fun _ hk => ⟨hk.1.2, hk.2⟩)⟩, ⟨by (with_reducible repeat (first | apply Kd.S_alloc | apply Kd.S_drewN | apply Kd.S_drew)); exact Kd.S_mono HO413.out (fun _ hk => ⟨hk.1.1.2, hk.2⟩)⟩, ⟨by (with_reducible repeat (first | apply Kd.S_alloc | apply Kd.S_drewN | apply Kd.S_drew)); exact Kd.S_mono HO417.out (fun _ hk => ⟨hk.1.1.2, hk.2⟩)⟩, ⟨by (with_reducible repeat (first | apply Kd.Q_alloc | apply Kd.Q_drewN | apply Kd.Q_drew)); exact Kd.Q_mono HO421.out (fun _ hk => trivial)⟩, ⟨bB_⟩⟩
              ·
               rw [if_neg c46] at H
               have c46b0 : (t427 == 0) = false := beq_eq_false_iff_ne.mpr c46
               have c46b1 : (t427 != 0) = true := bne_iff_ne.mpr c46
               have H' := Aside0.mk H
               clear H
               obtain ⟨Ao54, co54, eo54⟩ := Kd.S_slice HO417.out
               subst eo54
               obtain ⟨Ao55, co55, eo55⟩ := Kd.R_slice HO425.out
               subst eo55
               go_wp2_with (first | (go_at_call 20; (with_reducible refine (laws_r8Has.calls kj9 _ _ t422 (wrap64 ((t391.length : Int) + 1)) true _ ?side1 ?side2 A44.out).mono ?_); (case side1 => repeat (first | exact (Kd.R_reads' HO425.out).2.2 | (with_reducible refine Kd.C_alloc ?_ _) | (with_reducible refine Kd.C_drewN ?_ _) | (with_reducible refine Kd.C_drew ?_))); (case side2 => exact (Kd.R_reads' HO425.out).2.1); rintro e w' ⟨rfl, ⟨nd, rfl⟩⟩; (try first | exact ⟨rfl, _, World.drewN_drewN _ _ _⟩ | exact ⟨rfl, _, Eq.trans (World.drewN_drewN _ _ _) (congrArg (World.drewN _) (Nat.add_assoc _ _ _))⟩)))
               repeat (go_quiet (first | (go_at_call 20; (try simp only [i64_w]); (with_reducible refine (laws_r8Has.calls kj9 _ _ t422 (wrap64 ((t391.length : Int) + 1)) true _ ?side1 ?side2 A44.out).mono ?_); (case side1 => repeat (first | exact (Kd.R_reads' HO425.out).2.2 | (with_reducible refine Kd.C_alloc ?_ _) | (with_reducible refine Kd.C_drewN ?_ _) | (with_reducible refine Kd.C_drew ?_))); (case side2 => exact (Kd.R_reads' HO425.out).2.1); rintro e w' ⟨rfl, ⟨nd, rfl⟩⟩; (try first | exact ⟨rfl, _, World.drewN_drewN _ _ _⟩ | exact ⟨rfl, _, Eq.trans (World.drewN_drewN _ _ _) (congrArg (World.drewN _) (Nat.add_assoc _ _ _))⟩))); try go_wp2_with (first | (go_at_call 20; (try simp only [i64_w]); (with_reducible refine (laws_r8Has.calls kj9 _ _ t422 (wrap64 ((t391.length : Int) + 1)) true _ ?side1 ?side2 A44.out).mono ?_); (case side1 => repeat (first | exact (Kd.R_reads' HO425.out).2.2 | (with_reducible refine Kd.C_alloc ?_ _) | (with_reducible refine Kd.C_drewN ?_ _) | (with_reducible refine Kd.C_drew ?_))); (case side2 => exact (Kd.R_reads' HO425.out).2.1); rintro e w' ⟨rfl, ⟨nd, rfl⟩⟩; (try first | exact ⟨rfl, _, World.drewN_drewN _ _ _⟩ | exact ⟨rfl, _, Eq.trans (World.drewN_drewN _ _ _) (congrArg (World.drewN _) (Nat.add_assoc _ _ _))⟩))))
               go_meet
               case rel => exact ⟨_, (true), rs_, H', ⟨by have := HJ9.out; first | omega | exact Nat.le_refl _⟩, ⟨by (with_reducible repeat (first | apply Kd.S_alloc | apply Kd.S_drewN | apply Kd.S_drew)); exact Kd.S_mono HO_5.out (fun _ hk => ⟨hk.1.2, hk.2⟩)⟩, ⟨by (with_reducible repeat (first | apply Kd.S_alloc | apply Kd.S_drewN | apply Kd.S_drew)); exact Kd.S_mono HO413.out (fun _ hk => ⟨hk.1.1.2, hk.2⟩)⟩, ⟨by (with_reducible repeat (first | apply Kd.S_alloc | apply Kd.S_drewN | apply Kd.S_drew)); exact Kd.S_mono HO417.out (fun _ hk => ⟨hk.1.1.2, hk.2⟩)⟩, ⟨by (with_reducible repeat (first | apply Kd.Q_alloc | apply Kd.Q_drewN | apply Kd.Q_drew)); exact Kd.Q_mono HO421.out (fun _ hk => trivial)⟩, ⟨bB_⟩⟩
             ·
              replace c45 := Bool.eq_false_iff.mpr c45
              subst c45
              have H1 : (laws_FnVersions.j1 kj9 t391 t409 t410 (wrap64 ((t391.length : Int) + 1)) t414 t418 true) = some r := by rw [if_neg (show ¬ (false = true) by decide)] at H; exact H
              clear H
              have H := H1
              clear H1
              have H' := Aside0.mk H
              clear H
              obtain ⟨Ao56, co56, eo56⟩ := Kd.S_slice HO417.out
              subst eo56
              obtain ⟨Ao57, co57, eo57⟩ := Kd.R_slice HO425.out
              subst eo57
              go_wp2_with (first | (go_at_call 20; (with_reducible refine (laws_r8Has.calls kj9 _ _ t422 (wrap64 ((t391.length : Int) + 1)) false _ ?side1 ?side2 A44.out).mono ?_); (case side1 => repeat (first | exact (Kd.R_reads' HO425.out).2.2 | (with_reducible refine Kd.C_alloc ?_ _) | (with_reducible refine Kd.C_drewN ?_ _) | (with_reducible refine Kd.C_drew ?_))); (case side2 => exact (Kd.R_reads' HO425.out).2.1); rintro e w' ⟨rfl, ⟨nd, rfl⟩⟩; (try first | exact ⟨rfl, _, World.drewN_drewN _ _ _⟩ | exact ⟨rfl, _, Eq.trans (World.drewN_drewN _ _ _) (congrArg (World.drewN _) (Nat.add_assoc _ _ _))⟩)))
              repeat (go_quiet (first | (go_at_call 20; (try simp only [i64_w]); (with_reducible refine (laws_r8Has.calls kj9 _ _ t422 (wrap64 ((t391.length : Int) + 1)) false _ ?side1 ?side2 A44.out).mono ?_); (case side1 => repeat (first | exact (Kd.R_reads' HO425.out).2.2 | (with_reducible refine Kd.C_alloc ?_ _) | (with_reducible refine Kd.C_drewN ?_ _) | (with_reducible refine Kd.C_drew ?_))); (case side2 => exact (Kd.R_reads' HO425.out).2.1); rintro e w' ⟨rfl, ⟨nd, rfl⟩⟩; (try first | exact ⟨rfl, _, World.drewN_drewN _ _ _⟩ | exact ⟨rfl, _, Eq.trans (World.drewN_drewN _ _ _) (congrArg (World.drewN _) (Nat.add_assoc _ _ _))⟩))); try go_wp2_with (first | (go_at_call 20; (try simp only [i64_w]); (with_reducible refine (laws_r8Has.calls kj9 _ _ t422 (wrap64 ((t391.length : Int) + 1)) false _ ?side1 ?side2 A44.out).mono ?_); (case side1 => repeat (first | exact (Kd.R_reads' HO425.out).2.2 | (with_reducible refine Kd.C_alloc ?_ _) | (with_reducible refine Kd.C_drewN ?_ _) | (with_reducible refine Kd.C_drew ?_))); (case side2 => exact (Kd.R_reads' HO425.out).2.1); rintro e w' ⟨rfl, ⟨nd, rfl⟩⟩; (try first | exact ⟨rfl, _, World.drewN_drewN _ _ _⟩ | exact ⟨rfl, _, Eq.trans (World.drewN_drewN _ _ _) (congrArg (World.drewN _) (Nat.add_assoc _ _ _))⟩))))
              go_meet
              case rel => exact ⟨_, (true), rs_, H', ⟨by have := HJ9.out; first | omega | exact Nat.le_refl _⟩, ⟨by (with_reducible repeat (first | apply Kd.S_alloc | apply Kd.S_drewN | apply Kd.S_drew)); exact Kd.S_mono HO_5.out (fun _ hk => ⟨hk.1.2, hk.2⟩)⟩, ⟨by (with_reducible repeat (first | apply Kd.S_alloc | apply Kd.S_drewN | apply Kd.S_drew)); exact Kd.S_mono HO413.out (fun _ hk => ⟨hk.1.1.2, hk.2⟩)⟩, ⟨by (with_reducible repeat (first | apply Kd.S_alloc | apply Kd.S_drewN | apply Kd.S_drew)); exact Kd.S_mono HO417.out (fun _ hk => ⟨hk.1.1.2, hk.2⟩)⟩, ⟨by (with_reducible repeat (first | apply Kd.Q_alloc | apply Kd.Q_drewN | apply Kd.Q_drew)); exact Kd.Q_mono HO421.out (fun _ hk => trivial)⟩, ⟨bB_⟩⟩
            ·
             rw [if_neg c43] at H
             have c43b0 : (t423 == 0) = false := beq_eq_false_iff_ne.mpr c43
             have c43b1 : (t423 != 0) = true := bne_iff_ne.mpr c43
             have H' := Aside0.mk H
             clear H
             obtain ⟨Ao58, co58, eo58⟩ := Kd.S_slice HO417.out
             subst eo58
             go_wp2
             repeat (go_quiet (fail); try go_wp2)
             go_meet
             case rel => exact ⟨_, (true), rs_, H', ⟨by have := HJ9.out; first | omega | exact Nat.le_refl _⟩, ⟨by (with_reducible repeat (first | apply Kd.S_alloc | apply Kd.S_drewN | apply Kd.S_drew)); exact Kd.S_mono HO_5.out (fun _ hk => ⟨hk.1.2, hk.2⟩)⟩, ⟨by (with_reducible repeat (first | apply Kd.S_alloc | apply Kd.S_drewN | apply Kd.S_drew)); exact Kd.S_mono HO413.out (fun _ hk => ⟨hk.1.1.2, hk.2⟩)⟩, ⟨by (with_reducible repeat (first | apply Kd.S_alloc | apply Kd.S_drewN | apply Kd.S_drew)); exact Kd.S_mono HO417.out (fun _ hk => ⟨hk.1.1.2, hk.2⟩)⟩, ⟨by (with_reducible repeat (first | apply Kd.Q_alloc | apply Kd.Q_drewN | apply Kd.Q_drew)); exact Kd.Q_mono HO421.out (fun _ hk => trivial)⟩, ⟨bB_⟩⟩
           ·
            rw [if_neg c42] at H
            have c42b0 : (t419 == 0) = false := beq_eq_false_iff_ne.mpr c42
            have c42b1 : (t419 != 0) = true := bne_iff_ne.mpr c42
            have H' := Aside0.mk H
            clear H
            obtain ⟨Ao59, co59, eo59⟩ := Kd.S_slice HO417.out
            subst eo59
            go_wp2
            repeat (go_quiet (fail); try go_wp2)
            go_meet
            case rel => exact ⟨_, (true), rs_, H', ⟨by have := HJ9.out; first | omega | exact Nat.le_refl _⟩, ⟨by (with_reducible repeat (first | apply Kd.S_alloc | apply Kd.S_drewN | apply Kd.S_drew)); exact Kd.S_mono HO_5.out (fun _ hk => ⟨hk.1.2, hk.2⟩)⟩, ⟨by (with_reducible repeat (first | apply Kd.S_alloc | apply Kd.S_drewN | apply Kd.S_drew)); exact Kd.S_mono HO413.out (fun _ hk => ⟨hk.1.1.2, hk.2⟩)⟩, ⟨by (with_reducible repeat (first | apply Kd.S_alloc | apply Kd.S_drewN | apply Kd.S_drew)); exact Kd.S_mono HO417.out (fun _ hk => ⟨hk.1.1.2, hk.2⟩)⟩, ⟨by (with_reducible repeat (first | apply Kd.Q_alloc | apply Kd.Q_drewN | apply Kd.Q_drew)); exact Kd.Q_mono HO421.out (fun _ hk => trivial)⟩, ⟨bB_⟩⟩
          ·
           rw [if_neg c41] at H
           have c41b0 : ((t414.length : Int) == (wrap64 ((wrap64 ((t391.length : Int) + 1)) + 1))) = false := beq_eq_false_iff_ne.mpr c41
           have c41b1 : ((t414.length : Int) != (wrap64 ((wrap64 ((t391.length : Int) + 1)) + 1))) = true := bne_iff_ne.mpr c41
           have H' := Aside0.mk H
           clear H
           obtain ⟨Ao60, co60, eo60⟩ := Kd.S_slice HO417.out
           subst eo60
           go_wp2
           repeat (go_quiet (fail); try go_wp2)
           go_meet
           case rel => exact ⟨_, (true), rs_, H', ⟨by have := HJ9.out; first | omega | exact Nat.le_refl _⟩, ⟨by (with_reducible repeat (first | apply Kd.S_alloc | apply Kd.S_drewN | apply Kd.S_drew)); exact Kd.S_mono HO_5.out (fun _ hk => ⟨hk.1.2, hk.2⟩)⟩, ⟨by (with_reducible repeat (first | apply Kd.S_alloc | apply Kd.S_drewN | apply Kd.S_drew)); exact Kd.S_mono HO413.out (fun _ hk => ⟨hk.1.1.2, hk.2⟩)⟩, ⟨by (with_reducible repeat (first | apply Kd.S_alloc | apply Kd.S_drewN | apply Kd.S_drew)); exact Kd.S_mono HO417.out (fun _ hk => ⟨hk.1.1.2, hk.2⟩)⟩, ⟨by (with_reducible repeat (first | apply Kd.Q_alloc | apply Kd.Q_drewN | apply Kd.Q_drew)); exact Kd.Q_mono HO421.out (fun _ hk => trivial)⟩, ⟨bB_⟩⟩
         ·
          rw [if_neg c40] at H
          have c40b0 : (t415 == 0) = false := beq_eq_false_iff_ne.mpr c40
          have c40b1 : (t415 != 0) = true := bne_iff_ne.mpr c40
          have H' := Aside0.mk H
          clear H
          go_wp2
          repeat (go_quiet (fail); try go_wp2)
          go_meet
          case rel => exact ⟨_, (true), rs_, H', ⟨by have := HJ9.out; first | omega | exact Nat.le_refl _⟩, ⟨by (with_reducible repeat (first | apply Kd.S_alloc | apply Kd.S_drewN | apply Kd.S_drew)); exact Kd.S_mono HO_5.out (fun _ hk => ⟨hk.1.2, hk.2⟩)⟩, ⟨by (with_reducible repeat (first | apply Kd.S_alloc | apply Kd.S_drewN | apply Kd.S_drew)); exact Kd.S_mono HO413.out (fun _ hk => ⟨hk.1.1.2, hk.2⟩)⟩, ⟨by (with_reducible repeat (first | apply Kd.S_alloc | apply Kd.S_drewN | apply Kd.S_drew)); exact Kd.S_mono HO417.out (fun _ hk => ⟨hk.1.1.2, hk.2⟩)⟩, ⟨by (with_reducible repeat (first | apply Kd.Q_alloc | apply Kd.Q_drewN | apply Kd.Q_drew)); exact Kd.Q_mono HO421.out (fun _ hk => trivial)⟩, ⟨bB_⟩⟩
        ·
         rw [if_neg c39] at H
         have c39b0 : ((t410.length : Int) == (wrap64 ((t391.length : Int) + 1))) = false := beq_eq_false_iff_ne.mpr c39
         have c39b1 : ((t410.length : Int) != (wrap64 ((t391.length : Int) + 1))) = true := bne_iff_ne.mpr c39
         have H' := Aside0.mk H
         clear H
         go_wp2
         repeat (go_quiet (fail); try go_wp2)
         go_meet
         case rel => exact ⟨_, (true), rs_, H', ⟨by have := HJ9.out; first | omega | exact Nat.le_refl _⟩, ⟨by (with_reducible repeat (first | apply Kd.S_alloc | apply Kd.S_drewN | apply Kd.S_drew)); exact Kd.S_mono HO_5.out (fun _ hk => ⟨hk.1.2, hk.2⟩)⟩, ⟨by (with_reducible repeat (first | apply Kd.S_alloc | apply Kd.S_drewN | apply Kd.S_drew)); exact Kd.S_mono HO413.out (fun _ hk => ⟨hk.1.1.2, hk.2⟩)⟩, ⟨by (with_reducible repeat (first | apply Kd.S_alloc | apply Kd.S_drewN | apply Kd.S_drew)); exact Kd.S_mono HO417.out (fun _ hk => ⟨hk.1.1.2, hk.2⟩)⟩, ⟨by (with_reducible repeat (first | apply Kd.Q_alloc | apply Kd.Q_drewN | apply Kd.Q_drew)); exact Kd.Q_mono HO421.out (fun _ hk => trivial)⟩, ⟨bB_⟩⟩
       ·
        rw [if_neg c38] at H
        have c38b0 : (t411 == 0) = false := beq_eq_false_iff_ne.mpr c38
        have c38b1 : (t411 != 0) = true := bne_iff_ne.mpr c38
        (first | rw [c38b0] | (simp only [i64_w, i32_w]; rw [c38b0]) | skip)
        have H' := Aside0.mk H
        clear H
        go_wp2
        repeat (go_quiet (fail); try go_wp2)
        go_meet
        case rel => exact ⟨_, (true), rs_, H', ⟨by have := HJ9.out; first | omega | exact Nat.le_refl _⟩, ⟨by (with_reducible repeat (first | apply Kd.S_alloc | apply Kd.S_drewN | apply Kd.S_drew)); exact Kd.S_mono HO_5.out (fun _ hk => ⟨hk.1.2, hk.2⟩)⟩, ⟨by (with_reducible repeat (first | apply Kd.S_alloc | apply Kd.S_drewN | apply Kd.S_drew)); exact Kd.S_mono HO413.out (fun _ hk => ⟨hk.1.1.2, hk.2⟩)⟩, ⟨by (with_reducible repeat (first | apply Kd.S_alloc | apply Kd.S_drewN | apply Kd.S_drew)); exact Kd.S_mono HO417.out (fun _ hk => ⟨hk.1.1.2, hk.2⟩)⟩, ⟨by (with_reducible repeat (first | apply Kd.Q_alloc | apply Kd.Q_drewN | apply Kd.Q_drew)); exact Kd.Q_mono HO421.out (fun _ hk => trivial)⟩, ⟨bB_⟩⟩
     case rest =>
      clear HC30
      try clear c1
      try clear c2
      try clear p2
      try clear c3
      try clear c4
      try clear p6
      try clear c19
      try clear c19b0
      try clear c19b1
      try clear c20
      try clear c20b0
      try clear c20b1
      try clear c23
      try clear c38
      try clear c38b0
      try clear c38b1
      try clear c39
      try clear c39b0
      try clear c39b1
      try clear c40
      try clear c40b0
      try clear c40b1
      try clear c41
      try clear c41b0
      try clear c41b1
      try clear c42
      try clear c42b0
      try clear c42b1
      try clear c43
      try clear c43b0
      try clear c43b1
      try clear c45
      try clear c46
      try clear c46b0
      try clear c46b1
      try clear c47
      try clear c47b0
      try clear c47b1
      try clear p2
      obtain ⟨kq, x145_29, rfl, HA, HJ29, HO_5, HO_13, HO_16, HO_18, HB⟩ := hcut
      cases kq with
      | zero => exact absurd HA.out (by simp [laws_FnVersions.j1])
      | succ kj29 =>
       have H := HA.out
       clear HA
       simp only [laws_FnVersions.j1] at H
       by_cases c61 : x145_29 = true
       ·
        subst c61
        have H1 : (some false) = some r := by rw [if_pos rfl] at H; exact H
        clear H
        have H := H1
        clear H1
        obtain rfl := Option.some.inj H
        go_wp2
        repeat (go_quiet (fail); try go_wp2)
        go_ret
        exact ⟨er_, bB_⟩
       ·
        replace c61 := Bool.eq_false_iff.mpr c61
        subst c61
        have H1 : (if t409 > 0 then (if 0 ≤ (wrap64 (t409 - 1)) then (if (wrap64 (t409 - 1)) < (t391.length : Int) then (if 0 ≤ (wrap64 ((t391.length : Int) + 1)) then (if (wrap64 ((t391.length : Int) + 1)) < (t414.length : Int) then ((spec_SameState.f kj29 ((rd_T48 t414 (wrap64 ((t391.length : Int) + 1))).f3) ((rd_T48 t391 (wrap64 (t409 - 1))).f3)).bind fun t436 => (if t436 = true then ((laws_r8Has.f kj29 t418 t409).bind fun t437 => (laws_FnVersions.j2 kj29 t410 (wrap64 ((t391.length : Int) + 1)) t418 ((decide (t409 > 0)) != t437))) else (laws_FnVersions.j2 kj29 t410 (wrap64 ((t391.length : Int) + 1)) t418 true))) else (none)) else (none)) else (none)) else (none)) else (if 0 ≤ (wrap64 ((t391.length : Int) + 1)) then (if (wrap64 ((t391.length : Int) + 1)) < (t414.length : Int) then ((spec_SameState.f kj29 ((rd_T48 t414 (wrap64 ((t391.length : Int) + 1))).f3) (([] : List (S96)))).bind fun t445 => (if t445 = true then ((laws_r8Has.f kj29 t418 t409).bind fun t446 => (laws_FnVersions.j4 kj29 t410 (wrap64 ((t391.length : Int) + 1)) t418 ((decide (t409 > 0)) != t446))) else (laws_FnVersions.j4 kj29 t410 (wrap64 ((t391.length : Int) + 1)) t418 true))) else (none)) else (none))) = some r := by rw [if_neg (show ¬ (false = true) by decide)] at H; exact H
        clear H
        have H := H1
        clear H1
        obtain ⟨y430, hy430⟩ : ∃ y_ : List (S96), y_ = (([] : List (S96))) := ⟨_, rfl⟩
        replace H : (if t409 > 0 then (if 0 ≤ (wrap64 (t409 - 1)) then (if (wrap64 (t409 - 1)) < (t391.length : Int) then (if 0 ≤ (wrap64 ((t391.length : Int) + 1)) then (if (wrap64 ((t391.length : Int) + 1)) < (t414.length : Int) then ((spec_SameState.f kj29 ((rd_T48 t414 (wrap64 ((t391.length : Int) + 1))).f3) ((rd_T48 t391 (wrap64 (t409 - 1))).f3)).bind fun t436 => (if t436 = true then ((laws_r8Has.f kj29 t418 t409).bind fun t437 => (laws_FnVersions.j2 kj29 t410 (wrap64 ((t391.length : Int) + 1)) t418 ((decide (t409 > 0)) != t437))) else (laws_FnVersions.j2 kj29 t410 (wrap64 ((t391.length : Int) + 1)) t418 true))) else (none)) else (none)) else (none)) else (none)) else (if 0 ≤ (wrap64 ((t391.length : Int) + 1)) then (if (wrap64 ((t391.length : Int) + 1)) < (t414.length : Int) then ((spec_SameState.f kj29 ((rd_T48 t414 (wrap64 ((t391.length : Int) + 1))).f3) y430).bind fun t445 => (if t445 = true then ((laws_r8Has.f kj29 t418 t409).bind fun t446 => (laws_FnVersions.j4 kj29 t410 (wrap64 ((t391.length : Int) + 1)) t418 ((decide (t409 > 0)) != t446))) else (laws_FnVersions.j4 kj29 t410 (wrap64 ((t391.length : Int) + 1)) t418 true))) else (none)) else (none))) = some r := by first | (rw [hy430]; with_reducible exact H) | (have H2_ := (Option.bind_some _ _).symm.trans H; rw [hy430]; with_reducible exact H2_) | (have H2_ := (Option.bind_some _ _).symm.trans H; with_reducible exact H2_) | with_reducible exact H | (rw [hy430]; exact H) | exact H
        have Ny430 := Aside0.mk hy430
        clear hy430
        by_cases c62 : t409 > 0
        ·
         rw [if_pos c62] at H
         have c62b0 : decide (0 < t409) = true := decide_eq_true c62
         clear c62
         obtain ⟨ji63, hji63⟩ : ∃ j_ : Int, (wrap64 (t409 - 1)) = j_ := ⟨_, rfl⟩
         replace H : (if 0 ≤ (ji63) then (if (ji63) < (t391.length : Int) then (if 0 ≤ (wrap64 ((t391.length : Int) + 1)) then (if (wrap64 ((t391.length : Int) + 1)) < (t414.length : Int) then ((spec_SameState.f kj29 ((rd_T48 t414 (wrap64 ((t391.length : Int) + 1))).f3) ((rd_T48 t391 (ji63)).f3)).bind fun t436 => (if t436 = true then ((laws_r8Has.f kj29 t418 t409).bind fun t437 => (laws_FnVersions.j2 kj29 t410 (wrap64 ((t391.length : Int) + 1)) t418 ((decide (t409 > 0)) != t437))) else (laws_FnVersions.j2 kj29 t410 (wrap64 ((t391.length : Int) + 1)) t418 true))) else (none)) else (none)) else (none)) else (none)) = some r := by first | (rw [hji63] at H; exact H) | (simp only [hji63] at H ⊢; exact H)
         have hji63w : (IntKind.i64.wrap (t409 - 1)) = ji63 := (i64_w _).trans hji63
         by_cases c64 : 0 ≤ (ji63)
         ·
          rw [if_pos c64] at H
          have c64b0 : decide (0 ≤ (ji63)) = true := decide_eq_true c64
          clear c64
          by_cases c65 : (ji63) < (t391.length : Int)
          ·
           rw [if_pos c65] at H
           have c65b0 : decide ((ji63) < (t391.length : Int)) = true := decide_eq_true c65
           clear c65
           have HC66 := Aside0.mk H
           clear H
           go_upto_region 22 with (first | ((with_reducible refine gate_dst (N := 146) rfl ?_); (try (refine gate_guard (by rfl) ?_; dsimp only)); refine Kd.R_lit k96 _ 96 ?hg (N := 146) ?hd (xs := ([] : List (S96))) (inner := []) (ok := fun _ => True) (okp := fun _ => True) ?hr ?hp (fun _ hk => hk) trivial (Below.refl _ _) (Nat.le_refl _) (by simp) ?_; (case hd => rfl); (case hg => rfl); (case hr => first | (go_simp; done) | (go_simp; rfl)); (case hp => exact (Reps.none _ _)); intro v431 w67 ho68 hb hg_ hnew_; clear hg_ hnew_; (first | rw [← Ny430.out] at ho68 | (simp only [Int.reduceToNat] at ho68; rw [← Ny430.out] at ho68)); have n0_ := Aside0.mk (Kd.S_elder' (sA_ HO_5.out) (Kd.R_base ho68) hb); have n1_ := Aside0.mk (Kd.S_elder' (sA_ HO_13.out) (Kd.R_base ho68) hb); have n2_ := Aside0.mk (Kd.S_elder' (sA_ HO_16.out) (Kd.R_base ho68) hb); have n3_ := Aside0.mk (Kd.Q_below (qA_ HO_18.out) hb); have n4_ := Aside0.mk (Kd.R_lower ho68 (below_size bB_)); have n5_ := Aside0.mk (below_step bB_ hb); clear HO_5; clear HO_13; clear HO_16; clear HO_18; clear HB; have HO_5 := n0_; have HO_13 := n1_; have HO_16 := n2_; have HO_18 := n3_; have HO432 := n4_; have HB := n5_; clear n0_ n1_ n2_ n3_ n4_ n5_; clear hb ho68; have p433 : 0 ≤ ((ji63) : Int) := of_decide_eq_true as_; have q433 : (ji63) < (t391.length : Int) := of_decide_eq_true as_; obtain ⟨ad433, A433_3, c433_3, e433, hx433_0, hx433_1, hx433_2, hx433_3, hl433_3, hi433_3⟩ := at_T48 (Kd.S_reads' HO_5.out).2.2 (ji63) p433 q433; cases e433; obtain ⟨ce433, hce433, hMe433, hcc433⟩ := Kd.S_get HO_5.out z48 (ji63) p433 (by first | exact q433 | exact of_decide_eq_true as_ | (have e_ := (Kd.S_reads' HO_5.out).1; omega)); obtain ⟨ve433_3, rfl, ge433_3⟩ := k48_openM hMe433; have hv433_3 := hcc433 3 _ rfl; rw [add_field _ _ 3 (by omega)] at hv433_3; replace hv433_3 := Option.some.inj (hv433_3.symm.trans hx433_3); rw [hv433_3] at ge433_3; have HL433_3 := Aside0.mk (show Kd.R k96 96 _ _ _ _ ((rd_T48 t391 (ji63)).f3) from ge433_3); clear hv433_3 ge433_3; clear hcc433 hce433; have HR433_3 := Aside0.mk hi433_3; have HC433_3 := Aside0.mk hl433_3; clear hi433_3 hl433_3; replace p433 := eq_true p433; replace q433 := eq_true q433))
           repeat (go_quiet (first | ((with_reducible refine gate_dst (N := 146) rfl ?_); (try (refine gate_guard (by rfl) ?_; dsimp only)); refine Kd.R_lit k96 _ 96 ?hg (N := 146) ?hd (xs := ([] : List (S96))) (inner := []) (ok := fun _ => True) (okp := fun _ => True) ?hr ?hp (fun _ hk => hk) trivial (Below.refl _ _) (Nat.le_refl _) (by simp) ?_; (case hd => rfl); (case hg => rfl); (case hr => first | (go_simp; done) | (go_simp; rfl)); (case hp => exact (Reps.none _ _)); intro v431 w67 ho68 hb hg_ hnew_; clear hg_ hnew_; (first | rw [← Ny430.out] at ho68 | (simp only [Int.reduceToNat] at ho68; rw [← Ny430.out] at ho68)); have n0_ := Aside0.mk (Kd.S_elder' (sA_ HO_5.out) (Kd.R_base ho68) hb); have n1_ := Aside0.mk (Kd.S_elder' (sA_ HO_13.out) (Kd.R_base ho68) hb); have n2_ := Aside0.mk (Kd.S_elder' (sA_ HO_16.out) (Kd.R_base ho68) hb); have n3_ := Aside0.mk (Kd.Q_below (qA_ HO_18.out) hb); have n4_ := Aside0.mk (Kd.R_lower ho68 (below_size bB_)); have n5_ := Aside0.mk (below_step bB_ hb); clear HO_5; clear HO_13; clear HO_16; clear HO_18; clear HB; have HO_5 := n0_; have HO_13 := n1_; have HO_16 := n2_; have HO_18 := n3_; have HO432 := n4_; have HB := n5_; clear n0_ n1_ n2_ n3_ n4_ n5_; clear hb ho68; have p433 : 0 ≤ ((ji63) : Int) := of_decide_eq_true as_; have q433 : (ji63) < (t391.length : Int) := of_decide_eq_true as_; obtain ⟨ad433, A433_3, c433_3, e433, hx433_0, hx433_1, hx433_2, hx433_3, hl433_3, hi433_3⟩ := at_T48 (Kd.S_reads' HO_5.out).2.2 (ji63) p433 q433; cases e433; obtain ⟨ce433, hce433, hMe433, hcc433⟩ := Kd.S_get HO_5.out z48 (ji63) p433 (by first | exact q433 | exact of_decide_eq_true as_ | (have e_ := (Kd.S_reads' HO_5.out).1; omega)); obtain ⟨ve433_3, rfl, ge433_3⟩ := k48_openM hMe433; have hv433_3 := hcc433 3 _ rfl; rw [add_field _ _ 3 (by omega)] at hv433_3; replace hv433_3 := Option.some.inj (hv433_3.symm.trans hx433_3); rw [hv433_3] at ge433_3; have HL433_3 := Aside0.mk (show Kd.R k96 96 _ _ _ _ ((rd_T48 t391 (ji63)).f3) from ge433_3); clear hv433_3 ge433_3; clear hcc433 hce433; have HR433_3 := Aside0.mk hi433_3; have HC433_3 := Aside0.mk hl433_3; clear hi433_3 hl433_3; replace p433 := eq_true p433; replace q433 := eq_true q433)); go_upto_region 22 with (first | ((with_reducible refine gate_dst (N := 146) rfl ?_); (try (refine gate_guard (by rfl) ?_; dsimp only)); refine Kd.R_lit k96 _ 96 ?hg (N := 146) ?hd (xs := ([] : List (S96))) (inner := []) (ok := fun _ => True) (okp := fun _ => True) ?hr ?hp (fun _ hk => hk) trivial (Below.refl _ _) (Nat.le_refl _) (by simp) ?_; (case hd => rfl); (case hg => rfl); (case hr => first | (go_simp; done) | (go_simp; rfl)); (case hp => exact (Reps.none _ _)); intro v431 w67 ho68 hb hg_ hnew_; clear hg_ hnew_; (first | rw [← Ny430.out] at ho68 | (simp only [Int.reduceToNat] at ho68; rw [← Ny430.out] at ho68)); have n0_ := Aside0.mk (Kd.S_elder' (sA_ HO_5.out) (Kd.R_base ho68) hb); have n1_ := Aside0.mk (Kd.S_elder' (sA_ HO_13.out) (Kd.R_base ho68) hb); have n2_ := Aside0.mk (Kd.S_elder' (sA_ HO_16.out) (Kd.R_base ho68) hb); have n3_ := Aside0.mk (Kd.Q_below (qA_ HO_18.out) hb); have n4_ := Aside0.mk (Kd.R_lower ho68 (below_size bB_)); have n5_ := Aside0.mk (below_step bB_ hb); clear HO_5; clear HO_13; clear HO_16; clear HO_18; clear HB; have HO_5 := n0_; have HO_13 := n1_; have HO_16 := n2_; have HO_18 := n3_; have HO432 := n4_; have HB := n5_; clear n0_ n1_ n2_ n3_ n4_ n5_; clear hb ho68; have p433 : 0 ≤ ((ji63) : Int) := of_decide_eq_true as_; have q433 : (ji63) < (t391.length : Int) := of_decide_eq_true as_; obtain ⟨ad433, A433_3, c433_3, e433, hx433_0, hx433_1, hx433_2, hx433_3, hl433_3, hi433_3⟩ := at_T48 (Kd.S_reads' HO_5.out).2.2 (ji63) p433 q433; cases e433; obtain ⟨ce433, hce433, hMe433, hcc433⟩ := Kd.S_get HO_5.out z48 (ji63) p433 (by first | exact q433 | exact of_decide_eq_true as_ | (have e_ := (Kd.S_reads' HO_5.out).1; omega)); obtain ⟨ve433_3, rfl, ge433_3⟩ := k48_openM hMe433; have hv433_3 := hcc433 3 _ rfl; rw [add_field _ _ 3 (by omega)] at hv433_3; replace hv433_3 := Option.some.inj (hv433_3.symm.trans hx433_3); rw [hv433_3] at ge433_3; have HL433_3 := Aside0.mk (show Kd.R k96 96 _ _ _ _ ((rd_T48 t391 (ji63)).f3) from ge433_3); clear hv433_3 ge433_3; clear hcc433 hce433; have HR433_3 := Aside0.mk hi433_3; have HC433_3 := Aside0.mk hl433_3; clear hi433_3 hl433_3; replace p433 := eq_true p433; replace q433 := eq_true q433)))
           (try simp only [Act.put, List.setIfInBounds_toArray, List.set_cons_zero, List.set_cons_succ])
           go_cut [170] (fun v170 wc => ∃ (kq : Nat) (x170_65 : Bool), v170 = .bool x170_65 ∧ Aside0 (laws_FnVersions.j2 kq t410 (wrap64 ((t391.length : Int) + 1)) t418 x170_65 = some r) ∧ Aside0 (kq ≤ kj29) ∧ Aside0 (Kd.S k48 48 wc w.heap.size (fun _ => True) (.slice Ao33 t410.length co33) t410) ∧ Aside0 (Kd.Q (Kd.int .i64) 2 wc w.heap.size (fun _ => True) v420 t418) ∧ Aside0 (Kd.C k96 wc A433_3 ((rd_T48 t391 (ji63)).f3).length ((rd_T48 t391 (ji63)).f3)) ∧ Aside0 (Below w.heap.size w wc))
           case first =>
            as_aux_lemma =>
             have H := HC66.out
             clear HC66
             obtain ⟨ji69, hji69⟩ : ∃ j_ : Int, (wrap64 ((t391.length : Int) + 1)) = j_ := ⟨_, rfl⟩
             replace H : (if 0 ≤ (ji69) then (if (ji69) < (t414.length : Int) then ((spec_SameState.f kj29 ((rd_T48 t414 (ji69)).f3) ((rd_T48 t391 (ji63)).f3)).bind fun t436 => (if t436 = true then ((laws_r8Has.f kj29 t418 t409).bind fun t437 => (laws_FnVersions.j2 kj29 t410 (ji69) t418 ((decide (t409 > 0)) != t437))) else (laws_FnVersions.j2 kj29 t410 (ji69) t418 true))) else (none)) else (none)) = some r := by first | (rw [hji69] at H; exact H) | (simp only [hji69] at H ⊢; exact H)
             have hji69w : (IntKind.i64.wrap ((t391.length : Int) + 1)) = ji69 := (i64_w _).trans hji69
             by_cases c70 : 0 ≤ (ji69)
             ·
              rw [if_pos c70] at H
              have c70b0 : decide (0 ≤ (ji69)) = true := decide_eq_true c70
              clear c70
              (first | rw [c70b0] | (simp only [i64_w, i32_w]; rw [c70b0]) | skip)
              by_cases c71 : (ji69) < (t414.length : Int)
              ·
               rw [if_pos c71] at H
               have c71b0 : decide ((ji69) < (t414.length : Int)) = true := decide_eq_true c71
               clear c71
               replace H := Option.bind_eq_some_iff.mp H
               obtain ⟨t436, A720, H⟩ := H
               replace H : (if t436 = true then ((laws_r8Has.f kj29 t418 t409).bind fun t437 => (laws_FnVersions.j2 kj29 t410 (ji69) t418 ((decide (t409 > 0)) != t437))) else (laws_FnVersions.j2 kj29 t410 (ji69) t418 true)) = some r := H
               have A72 := Aside0.mk A720
               clear A720
               by_cases c73 : t436 = true
               ·
                subst c73
                have H1 : ((laws_r8Has.f kj29 t418 t409).bind fun t437 => (laws_FnVersions.j2 kj29 t410 (ji69) t418 ((decide (t409 > 0)) != t437))) = some r := by rw [if_pos rfl] at H; exact H
                clear H
                have H := H1
                clear H1
                replace H := Option.bind_eq_some_iff.mp H
                obtain ⟨t437, A740, H⟩ := H
                replace H : (laws_FnVersions.j2 kj29 t410 (ji69) t418 ((decide (t409 > 0)) != t437)) = some r := H
                have A74 := Aside0.mk A740
                clear A740
                have H' := Aside0.mk H
                clear H
                obtain ⟨Ao75, co75, eo75⟩ := Kd.S_slice HO_16.out
                subst eo75
                have p435 : 0 ≤ ((ji69) : Int) := of_decide_eq_true as_
                have q435 : (ji69) < (t414.length : Int) := of_decide_eq_true as_
                obtain ⟨ad435, A435_3, c435_3, e435, hx435_0, hx435_1, hx435_2, hx435_3, hl435_3, hi435_3⟩ := at_T48 (Kd.S_reads' HO_16.out).2.2 (ji69) p435 q435
                cases e435
                obtain ⟨ce435, hce435, hMe435, hcc435⟩ := Kd.S_get HO_16.out z48 (ji69) p435 (by first | exact q435 | exact of_decide_eq_true as_ | (have e_ := (Kd.S_reads' HO_16.out).1; omega))
                obtain ⟨ve435_3, rfl, ge435_3⟩ := k48_openM hMe435
                have hv435_3 := hcc435 3 _ rfl
                rw [add_field _ _ 3 (by omega)] at hv435_3
                replace hv435_3 := Option.some.inj (hv435_3.symm.trans hx435_3)
                rw [hv435_3] at ge435_3
                have HL435_3 := Aside0.mk (show Kd.R k96 96 _ _ _ _ ((rd_T48 t414 (ji69)).f3) from ge435_3)
                clear hv435_3 ge435_3
                clear hcc435 hce435
                have HR435_3 := Aside0.mk hi435_3
                have HC435_3 := Aside0.mk hl435_3
                clear hi435_3 hl435_3
                replace p435 := eq_true p435
                replace q435 := eq_true q435
                go_wp2_with (first | (go_at_call 13; (with_reducible refine (spec_SameState.calls kj29 _ _ ((rd_T48 t414 (ji69)).f3) _ _ ((rd_T48 t391 (ji63)).f3) true _ ?side1 ?side2 ?side3 ?side4 A72.out).mono ?_); (case side1 => repeat (first | exact (by repeat (first | (with_reducible exact HR435_3.out) | (with_reducible refine Kd.C_alloc ?_ _) | (with_reducible refine Kd.C_drewN ?_ _) | (with_reducible refine Kd.C_drew ?_) | exact HR435_3.out)) | (with_reducible refine Kd.C_alloc ?_ _) | (with_reducible refine Kd.C_drewN ?_ _) | (with_reducible refine Kd.C_drew ?_))); (case side2 => exact HC435_3.out); (case side3 => repeat (first | exact (by repeat (first | (with_reducible exact HR433_3.out) | (with_reducible refine Kd.C_alloc ?_ _) | (with_reducible refine Kd.C_drewN ?_ _) | (with_reducible refine Kd.C_drew ?_) | exact HR433_3.out)) | (with_reducible refine Kd.C_alloc ?_ _) | (with_reducible refine Kd.C_drewN ?_ _) | (with_reducible refine Kd.C_drew ?_))); (case side4 => exact HC433_3.out); rintro e w' ⟨rfl, ⟨nd, rfl⟩⟩; (try first | exact ⟨rfl, _, World.drewN_drewN _ _ _⟩ | exact ⟨rfl, _, Eq.trans (World.drewN_drewN _ _ _) (congrArg (World.drewN _) (Nat.add_assoc _ _ _))⟩); obtain ⟨Ao76, co76, eo76, _⟩ := Kd.Q_slice HO_18.out; subst eo76) | (go_at_call 20; (with_reducible refine (laws_r8Has.calls kj29 _ _ t418 t409 t437 _ ?side1 ?side2 A74.out).mono ?_); (case side1 => repeat (first | exact (Kd.Q_reads' HO_18.out).2.2 | (with_reducible refine Kd.C_alloc ?_ _) | (with_reducible refine Kd.C_drewN ?_ _) | (with_reducible refine Kd.C_drew ?_))); (case side2 => exact (Kd.Q_reads' HO_18.out).2.1); rintro e w' ⟨rfl, ⟨nd, rfl⟩⟩; (try first | exact ⟨rfl, _, World.drewN_drewN _ _ _⟩ | exact ⟨rfl, _, Eq.trans (World.drewN_drewN _ _ _) (congrArg (World.drewN _) (Nat.add_assoc _ _ _))⟩)))
                repeat (go_quiet (first | (go_at_call 13; (with_reducible refine (spec_SameState.calls kj29 _ _ ((rd_T48 t414 (ji69)).f3) _ _ ((rd_T48 t391 (ji63)).f3) true _ ?side1 ?side2 ?side3 ?side4 A72.out).mono ?_); (case side1 => repeat (first | exact (by repeat (first | (with_reducible exact HR435_3.out) | (with_reducible refine Kd.C_alloc ?_ _) | (with_reducible refine Kd.C_drewN ?_ _) | (with_reducible refine Kd.C_drew ?_) | exact HR435_3.out)) | (with_reducible refine Kd.C_alloc ?_ _) | (with_reducible refine Kd.C_drewN ?_ _) | (with_reducible refine Kd.C_drew ?_))); (case side2 => exact HC435_3.out); (case side3 => repeat (first | exact (by repeat (first | (with_reducible exact HR433_3.out) | (with_reducible refine Kd.C_alloc ?_ _) | (with_reducible refine Kd.C_drewN ?_ _) | (with_reducible refine Kd.C_drew ?_) | exact HR433_3.out)) | (with_reducible refine Kd.C_alloc ?_ _) | (with_reducible refine Kd.C_drewN ?_ _) | (with_reducible refine Kd.C_drew ?_))); (case side4 => exact HC433_3.out); rintro e w' ⟨rfl, ⟨nd, rfl⟩⟩; (try first | exact ⟨rfl, _, World.drewN_drewN _ _ _⟩ | exact ⟨rfl, _, Eq.trans (World.drewN_drewN _ _ _) (congrArg (World.drewN _) (Nat.add_assoc _ _ _))⟩); obtain ⟨Ao76, co76, eo76, _⟩ := Kd.Q_slice HO_18.out; subst eo76) | (go_at_call 20; (with_reducible refine (laws_r8Has.calls kj29 _ _ t418 t409 t437 _ ?side1 ?side2 A74.out).mono ?_); (case side1 => repeat (first | exact (Kd.Q_reads' HO_18.out).2.2 | (with_reducible refine Kd.C_alloc ?_ _) | (with_reducible refine Kd.C_drewN ?_ _) | (with_reducible refine Kd.C_drew ?_))); (case side2 => exact (Kd.Q_reads' HO_18.out).2.1); rintro e w' ⟨rfl, ⟨nd, rfl⟩⟩; (try first | exact ⟨rfl, _, World.drewN_drewN _ _ _⟩ | exact ⟨rfl, _, Eq.trans (World.drewN_drewN _ _ _) (congrArg (World.drewN _) (Nat.add_assoc _ _ _))⟩))); try go_wp2_with (first | (go_at_call 13; (with_reducible refine (spec_SameState.calls kj29 _ _ ((rd_T48 t414 (ji69)).f3) _ _ ((rd_T48 t391 (ji63)).f3) true _ ?side1 ?side2 ?side3 ?side4 A72.out).mono ?_); (case side1 => repeat (first | exact (by repeat (first | (with_reducible exact HR435_3.out) | (with_reducible refine Kd.C_alloc ?_ _) | (with_reducible refine Kd.C_drewN ?_ _) | (with_reducible refine Kd.C_drew ?_) | exact HR435_3.out)) | (with_reducible refine Kd.C_alloc ?_ _) | (with_reducible refine Kd.C_drewN ?_ _) | (with_reducible refine Kd.C_drew ?_))); (case side2 => exact HC435_3.out); (case side3 => repeat (first | exact (by repeat (first | (with_reducible exact HR433_3.out) | (with_reducible refine Kd.C_alloc ?_ _) | (with_reducible refine Kd.C_drewN ?_ _) | (with_reducible refine Kd.C_drew ?_) | exact HR433_3.out)) | (with_reducible refine Kd.C_alloc ?_ _) | (with_reducible refine Kd.C_drewN ?_ _) | (with_reducible refine Kd.C_drew ?_))); (case side4 => exact HC433_3.out); rintro e w' ⟨rfl, ⟨nd, rfl⟩⟩; (try first | exact ⟨rfl, _, World.drewN_drewN _ _ _⟩ | exact ⟨rfl, _, Eq.trans (World.drewN_drewN _ _ _) (congrArg (World.drewN _) (Nat.add_assoc _ _ _))⟩); obtain ⟨Ao76, co76, eo76, _⟩ := Kd.Q_slice HO_18.out; subst eo76) | (go_at_call 20; (with_reducible refine (laws_r8Has.calls kj29 _ _ t418 t409 t437 _ ?side1 ?side2 A74.out).mono ?_); (case side1 => repeat (first | exact (Kd.Q_reads' HO_18.out).2.2 | (with_reducible refine Kd.C_alloc ?_ _) | (with_reducible refine Kd.C_drewN ?_ _) | (with_reducible refine Kd.C_drew ?_))); (case side2 => exact (Kd.Q_reads' HO_18.out).2.1); rintro e w' ⟨rfl, ⟨nd, rfl⟩⟩; (try first | exact ⟨rfl, _, World.drewN_drewN _ _ _⟩ | exact ⟨rfl, _, Eq.trans (World.drewN_drewN _ _ _) (congrArg (World.drewN _) (Nat.add_assoc _ _ _))⟩))))
                (try rw [← hji69] at H' ⊢)
                go_meet
                case rel => exact ⟨_, (((decide (t409 > 0)) != t437)), rs_, H', ⟨by have := HJ9.out; have := HJ29.out; first | omega | exact Nat.le_refl _⟩, ⟨by (with_reducible repeat (first | apply Kd.S_alloc | apply Kd.S_drewN | apply Kd.S_drew)); exact Kd.S_mono HO_13.out (fun _ hk => trivial)⟩, ⟨qA_ HO_18.out⟩, ⟨by repeat (first | (with_reducible exact HR433_3.out) | (with_reducible refine Kd.C_alloc ?_ _) | (with_reducible refine Kd.C_drewN ?_ _) | (with_reducible refine Kd.C_drew ?_) | exact HR433_3.out)⟩, ⟨bB_⟩⟩
               ·
                replace c73 := Bool.eq_false_iff.mpr c73
                subst c73
                have H1 : (laws_FnVersions.j2 kj29 t410 (ji69) t418 true) = some r := by rw [if_neg (show ¬ (false = true) by decide)] at H; exact H
                clear H
                have H := H1
                clear H1
                have H' := Aside0.mk H
                clear H
                obtain ⟨Ao77, co77, eo77⟩ := Kd.S_slice HO_16.out
                subst eo77
                have p435 : 0 ≤ ((ji69) : Int) := of_decide_eq_true as_
                have q435 : (ji69) < (t414.length : Int) := of_decide_eq_true as_
                obtain ⟨ad435, A435_3, c435_3, e435, hx435_0, hx435_1, hx435_2, hx435_3, hl435_3, hi435_3⟩ := at_T48 (Kd.S_reads' HO_16.out).2.2 (ji69) p435 q435
                cases e435
                obtain ⟨ce435, hce435, hMe435, hcc435⟩ := Kd.S_get HO_16.out z48 (ji69) p435 (by first | exact q435 | exact of_decide_eq_true as_ | (have e_ := (Kd.S_reads' HO_16.out).1; omega))
                obtain ⟨ve435_3, rfl, ge435_3⟩ := k48_openM hMe435
                have hv435_3 := hcc435 3 _ rfl
                rw [add_field _ _ 3 (by omega)] at hv435_3
                replace hv435_3 := Option.some.inj (hv435_3.symm.trans hx435_3)
                rw [hv435_3] at ge435_3
                have HL435_3 := Aside0.mk (show Kd.R k96 96 _ _ _ _ ((rd_T48 t414 (ji69)).f3) from ge435_3)
                clear hv435_3 ge435_3
                clear hcc435 hce435
                have HR435_3 := Aside0.mk hi435_3
                have HC435_3 := Aside0.mk hl435_3
                clear hi435_3 hl435_3
                replace p435 := eq_true p435
                replace q435 := eq_true q435
                go_wp2_with (first | (go_at_call 13; (with_reducible refine (spec_SameState.calls kj29 _ _ ((rd_T48 t414 (ji69)).f3) _ _ ((rd_T48 t391 (ji63)).f3) false _ ?side1 ?side2 ?side3 ?side4 A72.out).mono ?_); (case side1 => repeat (first | exact (by repeat (first | (with_reducible exact HR435_3.out) | (with_reducible refine Kd.C_alloc ?_ _) | (with_reducible refine Kd.C_drewN ?_ _) | (with_reducible refine Kd.C_drew ?_) | exact HR435_3.out)) | (with_reducible refine Kd.C_alloc ?_ _) | (with_reducible refine Kd.C_drewN ?_ _) | (with_reducible refine Kd.C_drew ?_))); (case side2 => exact HC435_3.out); (case side3 => repeat (first | exact (by repeat (first | (with_reducible exact HR433_3.out) | (with_reducible refine Kd.C_alloc ?_ _) | (with_reducible refine Kd.C_drewN ?_ _) | (with_reducible refine Kd.C_drew ?_) | exact HR433_3.out)) | (with_reducible refine Kd.C_alloc ?_ _) | (with_reducible refine Kd.C_drewN ?_ _) | (with_reducible refine Kd.C_drew ?_))); (case side4 => exact HC433_3.out); rintro e w' ⟨rfl, ⟨nd, rfl⟩⟩; (try first | exact ⟨rfl, _, World.drewN_drewN _ _ _⟩ | exact ⟨rfl, _, Eq.trans (World.drewN_drewN _ _ _) (congrArg (World.drewN _) (Nat.add_assoc _ _ _))⟩)))
                repeat (go_quiet (first | (go_at_call 13; (with_reducible refine (spec_SameState.calls kj29 _ _ ((rd_T48 t414 (ji69)).f3) _ _ ((rd_T48 t391 (ji63)).f3) false _ ?side1 ?side2 ?side3 ?side4 A72.out).mono ?_); (case side1 => repeat (first | exact (by repeat (first | (with_reducible exact HR435_3.out) | (with_reducible refine Kd.C_alloc ?_ _) | (with_reducible refine Kd.C_drewN ?_ _) | (with_reducible refine Kd.C_drew ?_) | exact HR435_3.out)) | (with_reducible refine Kd.C_alloc ?_ _) | (with_reducible refine Kd.C_drewN ?_ _) | (with_reducible refine Kd.C_drew ?_))); (case side2 => exact HC435_3.out); (case side3 => repeat (first | exact (by repeat (first | (with_reducible exact HR433_3.out) | (with_reducible refine Kd.C_alloc ?_ _) | (with_reducible refine Kd.C_drewN ?_ _) | (with_reducible refine Kd.C_drew ?_) | exact HR433_3.out)) | (with_reducible refine Kd.C_alloc ?_ _) | (with_reducible refine Kd.C_drewN ?_ _) | (with_reducible refine Kd.C_drew ?_))); (case side4 => exact HC433_3.out); rintro e w' ⟨rfl, ⟨nd, rfl⟩⟩; (try first | exact ⟨rfl, _, World.drewN_drewN _ _ _⟩ | exact ⟨rfl, _, Eq.trans (World.drewN_drewN _ _ _) (congrArg (World.drewN _) (Nat.add_assoc _ _ _))⟩))); try go_wp2_with (first | (go_at_call 13; (with_reducible refine (spec_SameState.calls kj29 _ _ ((rd_T48 t414 (ji69)).f3) _ _ ((rd_T48 t391 (ji63)).f3) false _ ?side1 ?side2 ?side3 ?side4 A72.out).mono ?_); (case side1 => repeat (first | exact (by repeat (first | (with_reducible exact HR435_3.out) | (with_reducible refine Kd.C_alloc ?_ _) | (with_reducible refine Kd.C_drewN ?_ _) | (with_reducible refine Kd.C_drew ?_) | exact HR435_3.out)) | (with_reducible refine Kd.C_alloc ?_ _) | (with_reducible refine Kd.C_drewN ?_ _) | (with_reducible refine Kd.C_drew ?_))); (case side2 => exact HC435_3.out); (case side3 => repeat (first | exact (by repeat (first | (with_reducible exact HR433_3.out) | (with_reducible refine Kd.C_alloc ?_ _) | (with_reducible refine Kd.C_drewN ?_ _) | (with_reducible refine Kd.C_drew ?_) | exact HR433_3.out)) | (with_reducible refine Kd.C_alloc ?_ _) | (with_reducible refine Kd.C_drewN ?_ _) | (with_reducible refine Kd.C_drew ?_))); (case side4 => exact HC433_3.out); rintro e w' ⟨rfl, ⟨nd, rfl⟩⟩; (try first | exact ⟨rfl, _, World.drewN_drewN _ _ _⟩ | exact ⟨rfl, _, Eq.trans (World.drewN_drewN _ _ _) (congrArg (World.drewN _) (Nat.add_assoc _ _ _))⟩))))
                (try rw [← hji69] at H' ⊢)
                go_meet
                case rel => exact ⟨_, (true), rs_, H', ⟨by have := HJ9.out; have := HJ29.out; first | omega | exact Nat.le_refl _⟩, ⟨by (with_reducible repeat (first | apply Kd.S_alloc | apply Kd.S_drewN | apply Kd.S_drew)); exact Kd.S_mono HO_13.out (fun _ hk => trivial)⟩, ⟨qA_ HO_18.out⟩, ⟨by repeat (first | (with_reducible exact HR433_3.out) | (with_reducible refine Kd.C_alloc ?_ _) | (with_reducible refine Kd.C_drewN ?_ _) | (with_reducible refine Kd.C_drew ?_) | exact HR433_3.out)⟩, ⟨bB_⟩⟩
              ·
               rw [if_neg c71] at H
               exact absurd H (by simp)
             ·
              rw [if_neg c70] at H
              exact absurd H (by simp)
           case rest =>
            clear HC66
            try clear c1
            try clear c2
            try clear p2
            try clear c3
            try clear c4
            try clear p4
            try clear q4
            try clear hx4
            try clear c6
            try clear p6
            try clear c7
            try clear c19
            try clear c19b0
            try clear c19b1
            try clear c20
            try clear c20b0
            try clear c20b1
            try clear c23
            try clear c38
            try clear c38b0
            try clear c38b1
            try clear c39
            try clear c39b0
            try clear c39b1
            try clear c40
            try clear c40b0
            try clear c40b1
            try clear c41
            try clear c41b0
            try clear c41b1
            try clear c42
            try clear c42b0
            try clear c42b1
            try clear c43
            try clear c43b0
            try clear c43b1
            try clear p43
            try clear q43
            try clear hx43
            try clear c45
            try clear c46
            try clear c46b0
            try clear c46b1
            try clear c47
            try clear c47b0
            try clear c47b1
            try clear c61
            try clear c62
            try clear c62b0
            try clear c64
            try clear c64b0
            try clear p64
            try clear c65
            try clear c65b0
            try clear c70
            try clear c70b0
            try clear c71
            try clear c71b0
            try clear c73
            try clear hx433_0
            try clear hx433_1
            try clear hx433_2
            try clear hx433_3
            try clear hx435_0
            try clear hx435_1
            try clear hx435_2
            try clear hx435_3
            try clear p2
            try clear p433
            try clear p435
            try clear p6
            try clear q433
            try clear q435
            obtain ⟨kq, x170_65, rfl, HA, HJ65, HO_13, HO_18, HR433_3, HB⟩ := hcut
            cases kq with
            | zero => exact absurd HA.out (by simp [laws_FnVersions.j2])
            | succ kj65 =>
             have H := HA.out
             clear HA
             simp only [laws_FnVersions.j2] at H
             by_cases c78 : x170_65 = true
             ·
              subst c78
              have H1 : (some false) = some r := by rw [if_pos rfl] at H; exact H
              clear H
              have H := H1
              clear H1
              obtain rfl := Option.some.inj H
              go_wp2
              repeat (go_quiet (fail); try go_wp2)
              go_ret
              exact ⟨by first | rfl | (simp [errW_none, errW_some] <;> rfl) | (simp only [← hji63]; first | rfl | (simp [errW_none, errW_some] <;> rfl)) | (simp [*, errW_none, errW_some] <;> rfl), bB_⟩
             ·
              replace c78 := Bool.eq_false_iff.mpr c78
              subst c78
              have H1 : (laws_FnVersions.l0 kj65 t410 (wrap64 ((t391.length : Int) + 1)) t418 0) = some r := by rw [if_neg (show ¬ (false = true) by decide)] at H; exact H
              clear H
              have H := H1
              clear H1
              have H' := Aside0.mk H
              clear H
              go_wp2
              repeat (go_quiet (fail); try go_wp2)
              go_loopg [25] kj65 (fun kq v25 w' => ∃ (x25_4 : Int), v25 = .int .i64 x25_4 ∧ Aside0 (laws_FnVersions.l0 kq t410 (wrap64 ((t391.length : Int) + 1)) t418 x25_4 = some r) ∧ Aside0 (kq ≤ kj65) ∧ Aside0 (Kd.S k48 48 w' w.heap.size (fun _ => True) (.slice Ao33 t410.length co33) t410) ∧ Aside0 (Kd.Q (Kd.int .i64) 2 w' w.heap.size (fun _ => True) v420 t418) ∧ Aside0 (Below w.heap.size w w'))
              case atStart => exact ⟨(0), rs_, H', ⟨Nat.le_refl _⟩, ⟨sA_ HO_13.out⟩, ⟨qA_ HO_18.out⟩, ⟨bB_⟩⟩
              case round =>
               as_aux_lemma =>
                clear H'
                try clear c1
                try clear c2
                try clear p2
                try clear c3
                try clear c4
                try clear p4
                try clear q4
                try clear hx4
                try clear c6
                try clear p6
                try clear c7
                try clear c19
                try clear c19b0
                try clear c19b1
                try clear c20
                try clear c20b0
                try clear c20b1
                try clear c23
                try clear c38
                try clear c38b0
                try clear c38b1
                try clear c39
                try clear c39b0
                try clear c39b1
                try clear c40
                try clear c40b0
                try clear c40b1
                try clear c41
                try clear c41b0
                try clear c41b1
                try clear c42
                try clear c42b0
                try clear c42b1
                try clear c43
                try clear c43b0
                try clear c43b1
                try clear p43
                try clear q43
                try clear hx43
                try clear c45
                try clear c46
                try clear c46b0
                try clear c46b1
                try clear c47
                try clear c47b0
                try clear c47b1
                try clear c61
                try clear c62
                try clear c62b0
                try clear c64
                try clear c64b0
                try clear p64
                try clear c65
                try clear c65b0
                try clear c70
                try clear c70b0
                try clear c71
                try clear c71b0
                try clear c73
                try clear c78
                try clear hx433_0
                try clear hx433_1
                try clear hx433_2
                try clear hx433_3
                try clear hx435_0
                try clear hx435_1
                try clear hx435_2
                try clear hx435_3
                try clear p2
                try clear p4
                try clear p43
                try clear p433
                try clear p435
                try clear p6
                try clear p64
                try clear q4
                try clear q43
                try clear q433
                try clear q435
                obtain ⟨x25_4, rfl, HA, HK4, HO_13, HO_18, HB⟩ := hrel
                cases gk with
                | zero => exact absurd HA.out (by simp [laws_FnVersions.l0])
                | succ k4 =>
                 have H := HA.out
                 clear HA
                 simp only [laws_FnVersions.l0] at H
                 by_cases c79 : x25_4 < (t418.length : Int)
                 ·
                  rw [if_pos c79] at H
                  have c79b0 : decide (x25_4 < (t418.length : Int)) = true := decide_eq_true c79
                  clear c79
                  by_cases c80 : 0 ≤ x25_4
                  ·
                   rw [if_pos c80] at H
                   have c80b0 : decide (0 ≤ x25_4) = true := decide_eq_true c80
                   clear c80
                   by_cases c81 : (rd t418 x25_4) < 1
                   ·
                    rw [if_pos c81] at H
                    have c81b0 : decide ((rd t418 x25_4) < 1) = true := decide_eq_true c81
                    clear c81
                    obtain rfl := Option.some.inj H
                    obtain ⟨Ao82, co82, eo82, _⟩ := Kd.Q_slice HO_18.out
                    subst eo82
                    have p438 : 0 ≤ (x25_4 : Int) := of_decide_eq_true as_
                    have q438 : x25_4 < (t418.length : Int) := of_decide_eq_true as_
                    obtain ⟨ad438, e438, hx438_0⟩ := Kd.at_int (Kd.Q_reads' HO_18.out).2.2 x25_4 p438 q438
                    cases e438
                    replace p438 := eq_true p438
                    replace q438 := eq_true q438
                    go_wp2
                    repeat (go_quiet (fail); try go_wp2)
                    go_ret
                    exact ⟨by first | rfl | (simp [errW_none, errW_some] <;> rfl) | (simp only [← hji63]; first | rfl | (simp [errW_none, errW_some] <;> rfl)) | (simp [*, errW_none, errW_some] <;> rfl), bB_⟩
                   ·
                    rw [if_neg c81] at H
                    have c81b0 : decide ((rd t418 x25_4) < 1) = false := decide_eq_false c81
                    clear c81
                    by_cases c83 : (rd t418 x25_4) ≥ (wrap64 ((t391.length : Int) + 1))
                    ·
                     rw [if_pos c83] at H
                     have c83b0 : decide ((wrap64 ((t391.length : Int) + 1)) ≤ (rd t418 x25_4)) = true := decide_eq_true c83
                     clear c83
                     obtain rfl := Option.some.inj H
                     obtain ⟨Ao84, co84, eo84, _⟩ := Kd.Q_slice HO_18.out
                     subst eo84
                     have p438 : 0 ≤ (x25_4 : Int) := of_decide_eq_true as_
                     have q438 : x25_4 < (t418.length : Int) := of_decide_eq_true as_
                     obtain ⟨ad438, e438, hx438_0⟩ := Kd.at_int (Kd.Q_reads' HO_18.out).2.2 x25_4 p438 q438
                     cases e438
                     replace p438 := eq_true p438
                     replace q438 := eq_true q438
                     have p439 : 0 ≤ (x25_4 : Int) := of_decide_eq_true as_
                     have q439 : x25_4 < (t418.length : Int) := of_decide_eq_true as_
                     obtain ⟨ad439, e439, hx439_0⟩ := Kd.at_int (Kd.Q_reads' HO_18.out).2.2 x25_4 p439 q439
                     obtain rfl : ad438 = ad439 := (by injection e439)
                     replace p439 := eq_true p439
                     replace q439 := eq_true q439
                     go_wp2
                     repeat (go_quiet (fail); try go_wp2)
                     go_ret
                     exact ⟨by first | rfl | (simp [errW_none, errW_some] <;> rfl) | (simp only [← hji63]; first | rfl | (simp [errW_none, errW_some] <;> rfl)) | (simp [*, errW_none, errW_some] <;> rfl), bB_⟩
                    ·
                     rw [if_neg c83] at H
                     have c83b0 : decide ((wrap64 ((t391.length : Int) + 1)) ≤ (rd t418 x25_4)) = false := decide_eq_false c83
                     clear c83
                     by_cases c85 : x25_4 > 0
                     ·
                      rw [if_pos c85] at H
                      have c85b0 : decide (0 < x25_4) = true := decide_eq_true c85
                      clear c85
                      obtain ⟨ji86, hji86⟩ : ∃ j_ : Int, (wrap64 (x25_4 - 1)) = j_ := ⟨_, rfl⟩
                      replace H : (if 0 ≤ (ji86) then (if (ji86) < (t418.length : Int) then (if (rd t418 x25_4) ≥ (rd t418 (ji86)) then (some false) else (laws_FnVersions.l0 k4 t410 (wrap64 ((t391.length : Int) + 1)) t418 (wrap64 (x25_4 + 1)))) else (none)) else (none)) = some r := by first | (rw [hji86] at H; exact H) | (simp only [hji86] at H ⊢; exact H)
                      have hji86w : (IntKind.i64.wrap (x25_4 - 1)) = ji86 := (i64_w _).trans hji86
                      by_cases c87 : 0 ≤ (ji86)
                      ·
                       rw [if_pos c87] at H
                       have c87b0 : decide (0 ≤ (ji86)) = true := decide_eq_true c87
                       clear c87
                       by_cases c88 : (ji86) < (t418.length : Int)
                       ·
                        rw [if_pos c88] at H
                        have c88b0 : decide ((ji86) < (t418.length : Int)) = true := decide_eq_true c88
                        clear c88
                        by_cases c89 : (rd t418 x25_4) ≥ (rd t418 (ji86))
                        ·
                         rw [if_pos c89] at H
                         have c89b0 : decide ((rd t418 (ji86)) ≤ (rd t418 x25_4)) = true := decide_eq_true c89
                         clear c89
                         obtain rfl := Option.some.inj H
                         obtain ⟨Ao90, co90, eo90, _⟩ := Kd.Q_slice HO_18.out
                         subst eo90
                         have p438 : 0 ≤ (x25_4 : Int) := of_decide_eq_true as_
                         have q438 : x25_4 < (t418.length : Int) := of_decide_eq_true as_
                         obtain ⟨ad438, e438, hx438_0⟩ := Kd.at_int (Kd.Q_reads' HO_18.out).2.2 x25_4 p438 q438
                         cases e438
                         replace p438 := eq_true p438
                         replace q438 := eq_true q438
                         have p439 : 0 ≤ (x25_4 : Int) := of_decide_eq_true as_
                         have q439 : x25_4 < (t418.length : Int) := of_decide_eq_true as_
                         obtain ⟨ad439, e439, hx439_0⟩ := Kd.at_int (Kd.Q_reads' HO_18.out).2.2 x25_4 p439 q439
                         obtain rfl : ad438 = ad439 := (by injection e439)
                         replace p439 := eq_true p439
                         replace q439 := eq_true q439
                         have p440 : 0 ≤ (x25_4 : Int) := of_decide_eq_true as_
                         have q440 : x25_4 < (t418.length : Int) := of_decide_eq_true as_
                         obtain ⟨ad440, e440, hx440_0⟩ := Kd.at_int (Kd.Q_reads' HO_18.out).2.2 x25_4 p440 q440
                         obtain rfl : ad438 = ad440 := (by injection e440)
                         replace p440 := eq_true p440
                         replace q440 := eq_true q440
                         have p441 : 0 ≤ ((ji86) : Int) := of_decide_eq_true as_
                         have q441 : (ji86) < (t418.length : Int) := of_decide_eq_true as_
                         obtain ⟨ad441, e441, hx441_0⟩ := Kd.at_int (Kd.Q_reads' HO_18.out).2.2 (ji86) p441 q441
                         obtain rfl : ad438 = ad441 := (by injection e441)
                         replace p441 := eq_true p441
                         replace q441 := eq_true q441
                         go_wp2
                         repeat (go_quiet (fail); try go_wp2)
                         go_ret
                         exact ⟨by first | rfl | (simp [errW_none, errW_some] <;> rfl) | (simp only [← hji63, ← hji86]; first | rfl | (simp [errW_none, errW_some] <;> rfl)) | (simp [*, errW_none, errW_some] <;> rfl), bB_⟩
                        ·
                         rw [if_neg c89] at H
                         have c89b0 : decide ((rd t418 (ji86)) ≤ (rd t418 x25_4)) = false := decide_eq_false c89
                         clear c89
                         have H' := Aside0.mk H
                         clear H
                         obtain ⟨Ao91, co91, eo91, _⟩ := Kd.Q_slice HO_18.out
                         subst eo91
                         have p438 : 0 ≤ (x25_4 : Int) := of_decide_eq_true as_
                         have q438 : x25_4 < (t418.length : Int) := of_decide_eq_true as_
                         obtain ⟨ad438, e438, hx438_0⟩ := Kd.at_int (Kd.Q_reads' HO_18.out).2.2 x25_4 p438 q438
                         cases e438
                         replace p438 := eq_true p438
                         replace q438 := eq_true q438
                         have p439 : 0 ≤ (x25_4 : Int) := of_decide_eq_true as_
                         have q439 : x25_4 < (t418.length : Int) := of_decide_eq_true as_
                         obtain ⟨ad439, e439, hx439_0⟩ := Kd.at_int (Kd.Q_reads' HO_18.out).2.2 x25_4 p439 q439
                         obtain rfl : ad438 = ad439 := (by injection e439)
                         replace p439 := eq_true p439
                         replace q439 := eq_true q439
                         have p440 : 0 ≤ (x25_4 : Int) := of_decide_eq_true as_
                         have q440 : x25_4 < (t418.length : Int) := of_decide_eq_true as_
                         obtain ⟨ad440, e440, hx440_0⟩ := Kd.at_int (Kd.Q_reads' HO_18.out).2.2 x25_4 p440 q440
                         obtain rfl : ad438 = ad440 := (by injection e440)
                         replace p440 := eq_true p440
                         replace q440 := eq_true q440
                         have p441 : 0 ≤ ((ji86) : Int) := of_decide_eq_true as_
                         have q441 : (ji86) < (t418.length : Int) := of_decide_eq_true as_
                         obtain ⟨ad441, e441, hx441_0⟩ := Kd.at_int (Kd.Q_reads' HO_18.out).2.2 (ji86) p441 q441
                         obtain rfl : ad438 = ad441 := (by injection e441)
                         replace p441 := eq_true p441
                         replace q441 := eq_true q441
                         go_wp2
                         repeat (go_quiet (fail); try go_wp2)
                         go_roundg k4
                         case measure => have := HJ9.out; have := HJ29.out; have := HJ65.out; have := HK4.out; omega
                         case rel => exact ⟨(wrap64 (x25_4 + 1)), rs_, H', ⟨by have := HJ9.out; have := HJ29.out; have := HJ65.out; have := HK4.out; omega⟩, ⟨sA_ HO_13.out⟩, ⟨qA_ HO_18.out⟩, ⟨bB_⟩⟩
                       ·
                        rw [if_neg c88] at H
                        exact absurd H (by simp)
                      ·
                       rw [if_neg c87] at H
                       exact absurd H (by simp)
                     ·
                      rw [if_neg c85] at H
                      have c85b0 : decide (0 < x25_4) = false := decide_eq_false c85
                      clear c85
                      have H' := Aside0.mk H
                      clear H
                      obtain ⟨Ao92, co92, eo92, _⟩ := Kd.Q_slice HO_18.out
                      subst eo92
                      have p438 : 0 ≤ (x25_4 : Int) := of_decide_eq_true as_
                      have q438 : x25_4 < (t418.length : Int) := of_decide_eq_true as_
                      obtain ⟨ad438, e438, hx438_0⟩ := Kd.at_int (Kd.Q_reads' HO_18.out).2.2 x25_4 p438 q438
                      cases e438
                      replace p438 := eq_true p438
                      replace q438 := eq_true q438
                      have p439 : 0 ≤ (x25_4 : Int) := of_decide_eq_true as_
                      have q439 : x25_4 < (t418.length : Int) := of_decide_eq_true as_
                      obtain ⟨ad439, e439, hx439_0⟩ := Kd.at_int (Kd.Q_reads' HO_18.out).2.2 x25_4 p439 q439
                      obtain rfl : ad438 = ad439 := (by injection e439)
                      replace p439 := eq_true p439
                      replace q439 := eq_true q439
                      go_wp2
                      repeat (go_quiet (fail); try go_wp2)
                      go_roundg k4
                      case measure => have := HJ9.out; have := HJ29.out; have := HJ65.out; have := HK4.out; omega
                      case rel => exact ⟨(wrap64 (x25_4 + 1)), rs_, H', ⟨by have := HJ9.out; have := HJ29.out; have := HJ65.out; have := HK4.out; omega⟩, ⟨sA_ HO_13.out⟩, ⟨qA_ HO_18.out⟩, ⟨bB_⟩⟩
                  ·
                   rw [if_neg c80] at H
                   exact absurd H (by simp)
                 ·
                  rw [if_neg c79] at H
                  have c79b0 : decide (x25_4 < (t418.length : Int)) = false := decide_eq_false c79
                  clear c79
                  obtain ⟨ji93, hji93⟩ : ∃ j_ : Int, (wrap64 ((wrap64 ((t391.length : Int) + 1)) - 1)) = j_ := ⟨_, rfl⟩
                  replace H : (if 0 ≤ (ji93) then (if (ji93) < (t410.length : Int) then ((impl_VersionText.f k4 ((rd_T48 t410 (ji93)).f0) ((rd_T48 t410 (ji93)).f1) ((rd_T48 t410 (ji93)).f2) ((rd_T48 t410 (ji93)).f3)).bind fun t443 => (some (t443.toList != ([] : List UInt8)))) else (none)) else (none)) = some r := by first | (rw [hji93] at H; exact H) | (simp only [hji93] at H ⊢; exact H)
                  have hji93w : (IntKind.i64.wrap ((wrap64 ((t391.length : Int) + 1)) - 1)) = ji93 := (i64_w _).trans hji93
                  by_cases c94 : 0 ≤ (ji93)
                  ·
                   rw [if_pos c94] at H
                   have c94b0 : decide (0 ≤ (ji93)) = true := decide_eq_true c94
                   clear c94
                   by_cases c95 : (ji93) < (t410.length : Int)
                   ·
                    rw [if_pos c95] at H
                    have c95b0 : decide ((ji93) < (t410.length : Int)) = true := decide_eq_true c95
                    clear c95
                    replace H := Option.bind_eq_some_iff.mp H
                    obtain ⟨t443, A960, H⟩ := H
                    replace H : (some (t443.toList != ([] : List UInt8))) = some r := H
                    have A96 := Aside0.mk A960
                    clear A960
                    obtain rfl := Option.some.inj H
                    obtain ⟨Ao97, co97, eo97, _⟩ := Kd.Q_slice HO_18.out
                    subst eo97
                    have p442 : 0 ≤ ((ji93) : Int) := of_decide_eq_true as_
                    have q442 : (ji93) < (t410.length : Int) := of_decide_eq_true as_
                    obtain ⟨ad442, A442_3, c442_3, e442, hx442_0, hx442_1, hx442_2, hx442_3, hl442_3, hi442_3⟩ := at_T48 (Kd.S_reads' HO_13.out).2.2 (ji93) p442 q442
                    cases e442
                    obtain ⟨ce442, hce442, hMe442, hcc442⟩ := Kd.S_get HO_13.out z48 (ji93) p442 (by first | exact q442 | exact of_decide_eq_true as_ | (have e_ := (Kd.S_reads' HO_13.out).1; omega))
                    obtain ⟨ve442_3, rfl, ge442_3⟩ := k48_openM hMe442
                    have hv442_3 := hcc442 3 _ rfl
                    rw [add_field _ _ 3 (by omega)] at hv442_3
                    replace hv442_3 := Option.some.inj (hv442_3.symm.trans hx442_3)
                    rw [hv442_3] at ge442_3
                    have HL442_3 := Aside0.mk (show Kd.R k96 96 _ _ _ _ ((rd_T48 t410 (ji93)).f3) from ge442_3)
                    clear hv442_3 ge442_3
                    clear hcc442 hce442
                    have HR442_3 := Aside0.mk hi442_3
                    have HC442_3 := Aside0.mk hl442_3
                    clear hi442_3 hl442_3
                    replace p442 := eq_true p442
                    replace q442 := eq_true q442
                    go_wp2_with (first | (go_at_call 22; (with_reducible refine (impl_VersionText.calls k4 ((rd_T48 t410 (ji93)).f0) ((rd_T48 t410 (ji93)).f1) ((rd_T48 t410 (ji93)).f2) _ _ ((rd_T48 t410 (ji93)).f3) t443 _ ?side1 ?side2 ?side3 A96.out).mono ?_); (case side1 => repeat (first | exact (by repeat (first | (with_reducible exact HR442_3.out) | (with_reducible refine Kd.C_alloc ?_ _) | (with_reducible refine Kd.C_drewN ?_ _) | (with_reducible refine Kd.C_drew ?_) | exact HR442_3.out)) | (with_reducible refine Kd.C_alloc ?_ _) | (with_reducible refine Kd.C_drewN ?_ _) | (with_reducible refine Kd.C_drew ?_))); (case side2 => exact HC442_3.out); (case side3 => exact wok_ HWOK_.out bB_); rintro e w98 ⟨rfl, hb⟩; have n0_ := Aside0.mk (Kd.S_below (sA_ HO_13.out) hb); have n1_ := Aside0.mk (Kd.Q_below (qA_ HO_18.out) hb); have n2_ := Aside0.mk (Kd.R_below (rA_ HL442_3.out) hb); have n3_ := Aside0.mk (Kd.C_below (by repeat (first | (with_reducible exact HR442_3.out) | (with_reducible refine Kd.C_alloc ?_ _) | (with_reducible refine Kd.C_drewN ?_ _) | (with_reducible refine Kd.C_drew ?_) | exact HR442_3.out)) hb); have n4_ := Aside0.mk (below_step bB_ hb); clear HO_13; clear HO_18; clear HL442_3; clear HR442_3; clear HB; have HO_13 := n0_; have HO_18 := n1_; have HL442_3 := n2_; have HR442_3 := n3_; have HB := n4_; clear n0_ n1_ n2_ n3_ n4_; (try clear hb); (try clear hb2); (try clear hk); (try clear hi)))
                    repeat (go_quiet (first | (go_at_call 22; (with_reducible refine (impl_VersionText.calls k4 ((rd_T48 t410 (ji93)).f0) ((rd_T48 t410 (ji93)).f1) ((rd_T48 t410 (ji93)).f2) _ _ ((rd_T48 t410 (ji93)).f3) t443 _ ?side1 ?side2 ?side3 A96.out).mono ?_); (case side1 => repeat (first | exact (by repeat (first | (with_reducible exact HR442_3.out) | (with_reducible refine Kd.C_alloc ?_ _) | (with_reducible refine Kd.C_drewN ?_ _) | (with_reducible refine Kd.C_drew ?_) | exact HR442_3.out)) | (with_reducible refine Kd.C_alloc ?_ _) | (with_reducible refine Kd.C_drewN ?_ _) | (with_reducible refine Kd.C_drew ?_))); (case side2 => exact HC442_3.out); (case side3 => exact wok_ HWOK_.out bB_); rintro e w98 ⟨rfl, hb⟩; have n0_ := Aside0.mk (Kd.S_below (sA_ HO_13.out) hb); have n1_ := Aside0.mk (Kd.Q_below (qA_ HO_18.out) hb); have n2_ := Aside0.mk (Kd.R_below (rA_ HL442_3.out) hb); have n3_ := Aside0.mk (Kd.C_below (by repeat (first | (with_reducible exact HR442_3.out) | (with_reducible refine Kd.C_alloc ?_ _) | (with_reducible refine Kd.C_drewN ?_ _) | (with_reducible refine Kd.C_drew ?_) | exact HR442_3.out)) hb); have n4_ := Aside0.mk (below_step bB_ hb); clear HO_13; clear HO_18; clear HL442_3; clear HR442_3; clear HB; have HO_13 := n0_; have HO_18 := n1_; have HL442_3 := n2_; have HR442_3 := n3_; have HB := n4_; clear n0_ n1_ n2_ n3_ n4_; (try clear hb); (try clear hb2); (try clear hk); (try clear hi))); try go_wp2_with (first | (go_at_call 22; (with_reducible refine (impl_VersionText.calls k4 ((rd_T48 t410 (ji93)).f0) ((rd_T48 t410 (ji93)).f1) ((rd_T48 t410 (ji93)).f2) _ _ ((rd_T48 t410 (ji93)).f3) t443 _ ?side1 ?side2 ?side3 A96.out).mono ?_); (case side1 => repeat (first | exact (by repeat (first | (with_reducible exact HR442_3.out) | (with_reducible refine Kd.C_alloc ?_ _) | (with_reducible refine Kd.C_drewN ?_ _) | (with_reducible refine Kd.C_drew ?_) | exact HR442_3.out)) | (with_reducible refine Kd.C_alloc ?_ _) | (with_reducible refine Kd.C_drewN ?_ _) | (with_reducible refine Kd.C_drew ?_))); (case side2 => exact HC442_3.out); (case side3 => exact wok_ HWOK_.out bB_); rintro e w98 ⟨rfl, hb⟩; have n0_ := Aside0.mk (Kd.S_below (sA_ HO_13.out) hb); have n1_ := Aside0.mk (Kd.Q_below (qA_ HO_18.out) hb); have n2_ := Aside0.mk (Kd.R_below (rA_ HL442_3.out) hb); have n3_ := Aside0.mk (Kd.C_below (by repeat (first | (with_reducible exact HR442_3.out) | (with_reducible refine Kd.C_alloc ?_ _) | (with_reducible refine Kd.C_drewN ?_ _) | (with_reducible refine Kd.C_drew ?_) | exact HR442_3.out)) hb); have n4_ := Aside0.mk (below_step bB_ hb); clear HO_13; clear HO_18; clear HL442_3; clear HR442_3; clear HB; have HO_13 := n0_; have HO_18 := n1_; have HL442_3 := n2_; have HR442_3 := n3_; have HB := n4_; clear n0_ n1_ n2_ n3_ n4_; (try clear hb); (try clear hb2); (try clear hk); (try clear hi))))
                    go_ret
                    exact ⟨by first | rfl | (cases h_ : t443.toList <;> rfl) | (simp [errW_none, errW_some] <;> rfl) | (simp only [← hji63, ← hji93]; first | rfl | (simp [errW_none, errW_some] <;> rfl)) | (simp [*, errW_none, errW_some] <;> rfl), bB_⟩
                   ·
                    rw [if_neg c95] at H
                    exact absurd H (by simp)
                  ·
                   rw [if_neg c94] at H
                   exact absurd H (by simp)
          ·
           rw [if_neg c65] at H
           exact absurd H (by simp)
         ·
          rw [if_neg c64] at H
          exact absurd H (by simp)
        ·
         rw [if_neg c62] at H
         have c62b0 : decide (0 < t409) = false := decide_eq_false c62
         clear c62
         have HC99 := Aside0.mk H
         clear H
         go_upto_region 22 with (first | ((with_reducible refine gate_dst (N := 146) rfl ?_); (try (refine gate_guard (by rfl) ?_; dsimp only)); refine Kd.R_lit k96 _ 96 ?hg (N := 146) ?hd (xs := ([] : List (S96))) (inner := []) (ok := fun _ => True) (okp := fun _ => True) ?hr ?hp (fun _ hk => hk) trivial (Below.refl _ _) (Nat.le_refl _) (by simp) ?_; (case hd => rfl); (case hg => rfl); (case hr => first | (go_simp; done) | (go_simp; rfl)); (case hp => exact (Reps.none _ _)); intro v431 w100 ho101 hb hg_ hnew_; clear hg_ hnew_; (first | rw [← Ny430.out] at ho101 | (simp only [Int.reduceToNat] at ho101; rw [← Ny430.out] at ho101)); have n0_ := Aside0.mk (Kd.S_elder' (sA_ HO_5.out) (Kd.R_base ho101) hb); have n1_ := Aside0.mk (Kd.S_elder' (sA_ HO_13.out) (Kd.R_base ho101) hb); have n2_ := Aside0.mk (Kd.S_elder' (sA_ HO_16.out) (Kd.R_base ho101) hb); have n3_ := Aside0.mk (Kd.Q_below (qA_ HO_18.out) hb); have n4_ := Aside0.mk (Kd.R_lower ho101 (below_size bB_)); have n5_ := Aside0.mk (below_step bB_ hb); clear HO_5; clear HO_13; clear HO_16; clear HO_18; clear HB; have HO_5 := n0_; have HO_13 := n1_; have HO_16 := n2_; have HO_18 := n3_; have HO432 := n4_; have HB := n5_; clear n0_ n1_ n2_ n3_ n4_ n5_; clear hb ho101))
         repeat (go_quiet (first | ((with_reducible refine gate_dst (N := 146) rfl ?_); (try (refine gate_guard (by rfl) ?_; dsimp only)); refine Kd.R_lit k96 _ 96 ?hg (N := 146) ?hd (xs := ([] : List (S96))) (inner := []) (ok := fun _ => True) (okp := fun _ => True) ?hr ?hp (fun _ hk => hk) trivial (Below.refl _ _) (Nat.le_refl _) (by simp) ?_; (case hd => rfl); (case hg => rfl); (case hr => first | (go_simp; done) | (go_simp; rfl)); (case hp => exact (Reps.none _ _)); intro v431 w100 ho101 hb hg_ hnew_; clear hg_ hnew_; (first | rw [← Ny430.out] at ho101 | (simp only [Int.reduceToNat] at ho101; rw [← Ny430.out] at ho101)); have n0_ := Aside0.mk (Kd.S_elder' (sA_ HO_5.out) (Kd.R_base ho101) hb); have n1_ := Aside0.mk (Kd.S_elder' (sA_ HO_13.out) (Kd.R_base ho101) hb); have n2_ := Aside0.mk (Kd.S_elder' (sA_ HO_16.out) (Kd.R_base ho101) hb); have n3_ := Aside0.mk (Kd.Q_below (qA_ HO_18.out) hb); have n4_ := Aside0.mk (Kd.R_lower ho101 (below_size bB_)); have n5_ := Aside0.mk (below_step bB_ hb); clear HO_5; clear HO_13; clear HO_16; clear HO_18; clear HB; have HO_5 := n0_; have HO_13 := n1_; have HO_16 := n2_; have HO_18 := n3_; have HO432 := n4_; have HB := n5_; clear n0_ n1_ n2_ n3_ n4_ n5_; clear hb ho101)); go_upto_region 22 with (first | ((with_reducible refine gate_dst (N := 146) rfl ?_); (try (refine gate_guard (by rfl) ?_; dsimp only)); refine Kd.R_lit k96 _ 96 ?hg (N := 146) ?hd (xs := ([] : List (S96))) (inner := []) (ok := fun _ => True) (okp := fun _ => True) ?hr ?hp (fun _ hk => hk) trivial (Below.refl _ _) (Nat.le_refl _) (by simp) ?_; (case hd => rfl); (case hg => rfl); (case hr => first | (go_simp; done) | (go_simp; rfl)); (case hp => exact (Reps.none _ _)); intro v431 w100 ho101 hb hg_ hnew_; clear hg_ hnew_; (first | rw [← Ny430.out] at ho101 | (simp only [Int.reduceToNat] at ho101; rw [← Ny430.out] at ho101)); have n0_ := Aside0.mk (Kd.S_elder' (sA_ HO_5.out) (Kd.R_base ho101) hb); have n1_ := Aside0.mk (Kd.S_elder' (sA_ HO_13.out) (Kd.R_base ho101) hb); have n2_ := Aside0.mk (Kd.S_elder' (sA_ HO_16.out) (Kd.R_base ho101) hb); have n3_ := Aside0.mk (Kd.Q_below (qA_ HO_18.out) hb); have n4_ := Aside0.mk (Kd.R_lower ho101 (below_size bB_)); have n5_ := Aside0.mk (below_step bB_ hb); clear HO_5; clear HO_13; clear HO_16; clear HO_18; clear HB; have HO_5 := n0_; have HO_13 := n1_; have HO_16 := n2_; have HO_18 := n3_; have HO432 := n4_; have HB := n5_; clear n0_ n1_ n2_ n3_ n4_ n5_; clear hb ho101)))
         (try simp only [Act.put, List.setIfInBounds_toArray, List.set_cons_zero, List.set_cons_succ])
         go_cut [170] (fun v170 wc => ∃ (kq : Nat) (x170_98 : Bool), v170 = .bool x170_98 ∧ Aside0 (laws_FnVersions.j4 kq t410 (wrap64 ((t391.length : Int) + 1)) t418 x170_98 = some r) ∧ Aside0 (kq ≤ kj29) ∧ Aside0 (Kd.S k48 48 wc w.heap.size (fun _ => True) (.slice Ao33 t410.length co33) t410) ∧ Aside0 (Kd.Q (Kd.int .i64) 2 wc w.heap.size (fun _ => True) v420 t418) ∧ Aside0 (Below w.heap.size w wc))
         case first =>
          as_aux_lemma =>
           have H := HC99.out
           clear HC99
           obtain ⟨ji102, hji102⟩ : ∃ j_ : Int, (wrap64 ((t391.length : Int) + 1)) = j_ := ⟨_, rfl⟩
           replace H : (if 0 ≤ (ji102) then (if (ji102) < (t414.length : Int) then ((spec_SameState.f kj29 ((rd_T48 t414 (ji102)).f3) y430).bind fun t445 => (if t445 = true then ((laws_r8Has.f kj29 t418 t409).bind fun t446 => (laws_FnVersions.j4 kj29 t410 (ji102) t418 ((decide (t409 > 0)) != t446))) else (laws_FnVersions.j4 kj29 t410 (ji102) t418 true))) else (none)) else (none)) = some r := by first | (rw [hji102] at H; exact H) | (simp only [hji102] at H ⊢; exact H)
           have hji102w : (IntKind.i64.wrap ((t391.length : Int) + 1)) = ji102 := (i64_w _).trans hji102
           by_cases c103 : 0 ≤ (ji102)
           ·
            rw [if_pos c103] at H
            have c103b0 : decide (0 ≤ (ji102)) = true := decide_eq_true c103
            clear c103
            (first | rw [c103b0] | (simp only [i64_w, i32_w]; rw [c103b0]) | skip)
            by_cases c104 : (ji102) < (t414.length : Int)
            ·
             rw [if_pos c104] at H
             have c104b0 : decide ((ji102) < (t414.length : Int)) = true := decide_eq_true c104
             clear c104
             replace H := Option.bind_eq_some_iff.mp H
             obtain ⟨t445, A1050, H⟩ := H
             replace H : (if t445 = true then ((laws_r8Has.f kj29 t418 t409).bind fun t446 => (laws_FnVersions.j4 kj29 t410 (ji102) t418 ((decide (t409 > 0)) != t446))) else (laws_FnVersions.j4 kj29 t410 (ji102) t418 true)) = some r := H
             have A105 := Aside0.mk A1050
             clear A1050
             by_cases c106 : t445 = true
             ·
              subst c106
              have H1 : ((laws_r8Has.f kj29 t418 t409).bind fun t446 => (laws_FnVersions.j4 kj29 t410 (ji102) t418 ((decide (t409 > 0)) != t446))) = some r := by rw [if_pos rfl] at H; exact H
              clear H
              have H := H1
              clear H1
              replace H := Option.bind_eq_some_iff.mp H
              obtain ⟨t446, A1070, H⟩ := H
              replace H : (laws_FnVersions.j4 kj29 t410 (ji102) t418 ((decide (t409 > 0)) != t446)) = some r := H
              have A107 := Aside0.mk A1070
              clear A1070
              have H' := Aside0.mk H
              clear H
              obtain ⟨Ao108, co108, eo108⟩ := Kd.S_slice HO_16.out
              subst eo108
              have p444 : 0 ≤ ((ji102) : Int) := of_decide_eq_true as_
              have q444 : (ji102) < (t414.length : Int) := of_decide_eq_true as_
              obtain ⟨ad444, A444_3, c444_3, e444, hx444_0, hx444_1, hx444_2, hx444_3, hl444_3, hi444_3⟩ := at_T48 (Kd.S_reads' HO_16.out).2.2 (ji102) p444 q444
              cases e444
              obtain ⟨ce444, hce444, hMe444, hcc444⟩ := Kd.S_get HO_16.out z48 (ji102) p444 (by first | exact q444 | exact of_decide_eq_true as_ | (have e_ := (Kd.S_reads' HO_16.out).1; omega))
              obtain ⟨ve444_3, rfl, ge444_3⟩ := k48_openM hMe444
              have hv444_3 := hcc444 3 _ rfl
              rw [add_field _ _ 3 (by omega)] at hv444_3
              replace hv444_3 := Option.some.inj (hv444_3.symm.trans hx444_3)
              rw [hv444_3] at ge444_3
              have HL444_3 := Aside0.mk (show Kd.R k96 96 _ _ _ _ ((rd_T48 t414 (ji102)).f3) from ge444_3)
              clear hv444_3 ge444_3
              clear hcc444 hce444
              have HR444_3 := Aside0.mk hi444_3
              have HC444_3 := Aside0.mk hl444_3
              clear hi444_3 hl444_3
              replace p444 := eq_true p444
              replace q444 := eq_true q444
              obtain ⟨Ao109, co109, eo109⟩ := Kd.R_slice HO432.out
              subst eo109
              go_wp2_with (first | (go_at_call 13; (with_reducible refine (spec_SameState.calls kj29 _ _ ((rd_T48 t414 (ji102)).f3) _ _ y430 true _ ?side1 ?side2 ?side3 ?side4 A105.out).mono ?_); (case side1 => repeat (first | exact (by repeat (first | (with_reducible exact HR444_3.out) | (with_reducible refine Kd.C_alloc ?_ _) | (with_reducible refine Kd.C_drewN ?_ _) | (with_reducible refine Kd.C_drew ?_) | exact HR444_3.out)) | (with_reducible refine Kd.C_alloc ?_ _) | (with_reducible refine Kd.C_drewN ?_ _) | (with_reducible refine Kd.C_drew ?_))); (case side2 => exact HC444_3.out); (case side3 => repeat (first | exact (Kd.R_reads' HO432.out).2.2 | (with_reducible refine Kd.C_alloc ?_ _) | (with_reducible refine Kd.C_drewN ?_ _) | (with_reducible refine Kd.C_drew ?_))); (case side4 => exact (Kd.R_reads' HO432.out).2.1); rintro e w' ⟨rfl, ⟨nd, rfl⟩⟩; (try first | exact ⟨rfl, _, World.drewN_drewN _ _ _⟩ | exact ⟨rfl, _, Eq.trans (World.drewN_drewN _ _ _) (congrArg (World.drewN _) (Nat.add_assoc _ _ _))⟩); obtain ⟨Ao110, co110, eo110, _⟩ := Kd.Q_slice HO_18.out; subst eo110) | (go_at_call 20; (with_reducible refine (laws_r8Has.calls kj29 _ _ t418 t409 t446 _ ?side1 ?side2 A107.out).mono ?_); (case side1 => repeat (first | exact (Kd.Q_reads' HO_18.out).2.2 | (with_reducible refine Kd.C_alloc ?_ _) | (with_reducible refine Kd.C_drewN ?_ _) | (with_reducible refine Kd.C_drew ?_))); (case side2 => exact (Kd.Q_reads' HO_18.out).2.1); rintro e w' ⟨rfl, ⟨nd, rfl⟩⟩; (try first | exact ⟨rfl, _, World.drewN_drewN _ _ _⟩ | exact ⟨rfl, _, Eq.trans (World.drewN_drewN _ _ _) (congrArg (World.drewN _) (Nat.add_assoc _ _ _))⟩)))
              repeat (go_quiet (first | (go_at_call 13; (with_reducible refine (spec_SameState.calls kj29 _ _ ((rd_T48 t414 (ji102)).f3) _ _ y430 true _ ?side1 ?side2 ?side3 ?side4 A105.out).mono ?_); (case side1 => repeat (first | exact (by repeat (first | (with_reducible exact HR444_3.out) | (with_reducible refine Kd.C_alloc ?_ _) | (with_reducible refine Kd.C_drewN ?_ _) | (with_reducible refine Kd.C_drew ?_) | exact HR444_3.out)) | (with_reducible refine Kd.C_alloc ?_ _) | (with_reducible refine Kd.C_drewN ?_ _) | (with_reducible refine Kd.C_drew ?_))); (case side2 => exact HC444_3.out); (case side3 => repeat (first | exact (Kd.R_reads' HO432.out).2.2 | (with_reducible refine Kd.C_alloc ?_ _) | (with_reducible refine Kd.C_drewN ?_ _) | (with_reducible refine Kd.C_drew ?_))); (case side4 => exact (Kd.R_reads' HO432.out).2.1); rintro e w' ⟨rfl, ⟨nd, rfl⟩⟩; (try first | exact ⟨rfl, _, World.drewN_drewN _ _ _⟩ | exact ⟨rfl, _, Eq.trans (World.drewN_drewN _ _ _) (congrArg (World.drewN _) (Nat.add_assoc _ _ _))⟩); obtain ⟨Ao110, co110, eo110, _⟩ := Kd.Q_slice HO_18.out; subst eo110) | (go_at_call 20; (with_reducible refine (laws_r8Has.calls kj29 _ _ t418 t409 t446 _ ?side1 ?side2 A107.out).mono ?_); (case side1 => repeat (first | exact (Kd.Q_reads' HO_18.out).2.2 | (with_reducible refine Kd.C_alloc ?_ _) | (with_reducible refine Kd.C_drewN ?_ _) | (with_reducible refine Kd.C_drew ?_))); (case side2 => exact (Kd.Q_reads' HO_18.out).2.1); rintro e w' ⟨rfl, ⟨nd, rfl⟩⟩; (try first | exact ⟨rfl, _, World.drewN_drewN _ _ _⟩ | exact ⟨rfl, _, Eq.trans (World.drewN_drewN _ _ _) (congrArg (World.drewN _) (Nat.add_assoc _ _ _))⟩))); try go_wp2_with (first | (go_at_call 13; (with_reducible refine (spec_SameState.calls kj29 _ _ ((rd_T48 t414 (ji102)).f3) _ _ y430 true _ ?side1 ?side2 ?side3 ?side4 A105.out).mono ?_); (case side1 => repeat (first | exact (by repeat (first | (with_reducible exact HR444_3.out) | (with_reducible refine Kd.C_alloc ?_ _) | (with_reducible refine Kd.C_drewN ?_ _) | (with_reducible refine Kd.C_drew ?_) | exact HR444_3.out)) | (with_reducible refine Kd.C_alloc ?_ _) | (with_reducible refine Kd.C_drewN ?_ _) | (with_reducible refine Kd.C_drew ?_))); (case side2 => exact HC444_3.out); (case side3 => repeat (first | exact (Kd.R_reads' HO432.out).2.2 | (with_reducible refine Kd.C_alloc ?_ _) | (with_reducible refine Kd.C_drewN ?_ _) | (with_reducible refine Kd.C_drew ?_))); (case side4 => exact (Kd.R_reads' HO432.out).2.1); rintro e w' ⟨rfl, ⟨nd, rfl⟩⟩; (try first | exact ⟨rfl, _, World.drewN_drewN _ _ _⟩ | exact ⟨rfl, _, Eq.trans (World.drewN_drewN _ _ _) (congrArg (World.drewN _) (Nat.add_assoc _ _ _))⟩); obtain ⟨Ao110, co110, eo110, _⟩ := Kd.Q_slice HO_18.out; subst eo110) | (go_at_call 20; (with_reducible refine (laws_r8Has.calls kj29 _ _ t418 t409 t446 _ ?side1 ?side2 A107.out).mono ?_); (case side1 => repeat (first | exact (Kd.Q_reads' HO_18.out).2.2 | (with_reducible refine Kd.C_alloc ?_ _) | (with_reducible refine Kd.C_drewN ?_ _) | (with_reducible refine Kd.C_drew ?_))); (case side2 => exact (Kd.Q_reads' HO_18.out).2.1); rintro e w' ⟨rfl, ⟨nd, rfl⟩⟩; (try first | exact ⟨rfl, _, World.drewN_drewN _ _ _⟩ | exact ⟨rfl, _, Eq.trans (World.drewN_drewN _ _ _) (congrArg (World.drewN _) (Nat.add_assoc _ _ _))⟩))))
              (try rw [← hji102] at H' ⊢)
              go_meet
              case rel => exact ⟨_, (((decide (t409 > 0)) != t446)), rs_, H', ⟨by have := HJ9.out; have := HJ29.out; first | omega | exact Nat.le_refl _⟩, ⟨by (with_reducible repeat (first | apply Kd.S_alloc | apply Kd.S_drewN | apply Kd.S_drew)); exact Kd.S_mono HO_13.out (fun _ hk => trivial)⟩, ⟨qA_ HO_18.out⟩, ⟨bB_⟩⟩
             ·
              replace c106 := Bool.eq_false_iff.mpr c106
              subst c106
              have H1 : (laws_FnVersions.j4 kj29 t410 (ji102) t418 true) = some r := by rw [if_neg (show ¬ (false = true) by decide)] at H; exact H
              clear H
              have H := H1
              clear H1
              have H' := Aside0.mk H
              clear H
              obtain ⟨Ao111, co111, eo111⟩ := Kd.S_slice HO_16.out
              subst eo111
              have p444 : 0 ≤ ((ji102) : Int) := of_decide_eq_true as_
              have q444 : (ji102) < (t414.length : Int) := of_decide_eq_true as_
              obtain ⟨ad444, A444_3, c444_3, e444, hx444_0, hx444_1, hx444_2, hx444_3, hl444_3, hi444_3⟩ := at_T48 (Kd.S_reads' HO_16.out).2.2 (ji102) p444 q444
              cases e444
              obtain ⟨ce444, hce444, hMe444, hcc444⟩ := Kd.S_get HO_16.out z48 (ji102) p444 (by first | exact q444 | exact of_decide_eq_true as_ | (have e_ := (Kd.S_reads' HO_16.out).1; omega))
              obtain ⟨ve444_3, rfl, ge444_3⟩ := k48_openM hMe444
              have hv444_3 := hcc444 3 _ rfl
              rw [add_field _ _ 3 (by omega)] at hv444_3
              replace hv444_3 := Option.some.inj (hv444_3.symm.trans hx444_3)
              rw [hv444_3] at ge444_3
              have HL444_3 := Aside0.mk (show Kd.R k96 96 _ _ _ _ ((rd_T48 t414 (ji102)).f3) from ge444_3)
              clear hv444_3 ge444_3
              clear hcc444 hce444
              have HR444_3 := Aside0.mk hi444_3
              have HC444_3 := Aside0.mk hl444_3
              clear hi444_3 hl444_3
              replace p444 := eq_true p444
              replace q444 := eq_true q444
              obtain ⟨Ao112, co112, eo112⟩ := Kd.R_slice HO432.out
              subst eo112
              go_wp2_with (first | (go_at_call 13; (with_reducible refine (spec_SameState.calls kj29 _ _ ((rd_T48 t414 (ji102)).f3) _ _ y430 false _ ?side1 ?side2 ?side3 ?side4 A105.out).mono ?_); (case side1 => repeat (first | exact (by repeat (first | (with_reducible exact HR444_3.out) | (with_reducible refine Kd.C_alloc ?_ _) | (with_reducible refine Kd.C_drewN ?_ _) | (with_reducible refine Kd.C_drew ?_) | exact HR444_3.out)) | (with_reducible refine Kd.C_alloc ?_ _) | (with_reducible refine Kd.C_drewN ?_ _) | (with_reducible refine Kd.C_drew ?_))); (case side2 => exact HC444_3.out); (case side3 => repeat (first | exact (Kd.R_reads' HO432.out).2.2 | (with_reducible refine Kd.C_alloc ?_ _) | (with_reducible refine Kd.C_drewN ?_ _) | (with_reducible refine Kd.C_drew ?_))); (case side4 => exact (Kd.R_reads' HO432.out).2.1); rintro e w' ⟨rfl, ⟨nd, rfl⟩⟩; (try first | exact ⟨rfl, _, World.drewN_drewN _ _ _⟩ | exact ⟨rfl, _, Eq.trans (World.drewN_drewN _ _ _) (congrArg (World.drewN _) (Nat.add_assoc _ _ _))⟩)))
              repeat (go_quiet (first | (go_at_call 13; (with_reducible refine (spec_SameState.calls kj29 _ _ ((rd_T48 t414 (ji102)).f3) _ _ y430 false _ ?side1 ?side2 ?side3 ?side4 A105.out).mono ?_); (case side1 => repeat (first | exact (by repeat (first | (with_reducible exact HR444_3.out) | (with_reducible refine Kd.C_alloc ?_ _) | (with_reducible refine Kd.C_drewN ?_ _) | (with_reducible refine Kd.C_drew ?_) | exact HR444_3.out)) | (with_reducible refine Kd.C_alloc ?_ _) | (with_reducible refine Kd.C_drewN ?_ _) | (with_reducible refine Kd.C_drew ?_))); (case side2 => exact HC444_3.out); (case side3 => repeat (first | exact (Kd.R_reads' HO432.out).2.2 | (with_reducible refine Kd.C_alloc ?_ _) | (with_reducible refine Kd.C_drewN ?_ _) | (with_reducible refine Kd.C_drew ?_))); (case side4 => exact (Kd.R_reads' HO432.out).2.1); rintro e w' ⟨rfl, ⟨nd, rfl⟩⟩; (try first | exact ⟨rfl, _, World.drewN_drewN _ _ _⟩ | exact ⟨rfl, _, Eq.trans (World.drewN_drewN _ _ _) (congrArg (World.drewN _) (Nat.add_assoc _ _ _))⟩))); try go_wp2_with (first | (go_at_call 13; (with_reducible refine (spec_SameState.calls kj29 _ _ ((rd_T48 t414 (ji102)).f3) _ _ y430 false _ ?side1 ?side2 ?side3 ?side4 A105.out).mono ?_); (case side1 => repeat (first | exact (by repeat (first | (with_reducible exact HR444_3.out) | (with_reducible refine Kd.C_alloc ?_ _) | (with_reducible refine Kd.C_drewN ?_ _) | (with_reducible refine Kd.C_drew ?_) | exact HR444_3.out)) | (with_reducible refine Kd.C_alloc ?_ _) | (with_reducible refine Kd.C_drewN ?_ _) | (with_reducible refine Kd.C_drew ?_))); (case side2 => exact HC444_3.out); (case side3 => repeat (first | exact (Kd.R_reads' HO432.out).2.2 | (with_reducible refine Kd.C_alloc ?_ _) | (with_reducible refine Kd.C_drewN ?_ _) | (with_reducible refine Kd.C_drew ?_))); (case side4 => exact (Kd.R_reads' HO432.out).2.1); rintro e w' ⟨rfl, ⟨nd, rfl⟩⟩; (try first | exact ⟨rfl, _, World.drewN_drewN _ _ _⟩ | exact ⟨rfl, _, Eq.trans (World.drewN_drewN _ _ _) (congrArg (World.drewN _) (Nat.add_assoc _ _ _))⟩))))
              (try rw [← hji102] at H' ⊢)
              go_meet
              case rel => exact ⟨_, (true), rs_, H', ⟨by have := HJ9.out; have := HJ29.out; first | omega | exact Nat.le_refl _⟩, ⟨by (with_reducible repeat (first | apply Kd.S_alloc | apply Kd.S_drewN | apply Kd.S_drew)); exact Kd.S_mono HO_13.out (fun _ hk => trivial)⟩, ⟨qA_ HO_18.out⟩, ⟨bB_⟩⟩
            ·
             rw [if_neg c104] at H
             exact absurd H (by simp)
           ·
            rw [if_neg c103] at H
            exact absurd H (by simp)
         case rest =>
          clear HC99
          try clear c1
          try clear c2
          try clear p2
          try clear c3
          try clear c4
          try clear p4
          try clear q4
          try clear hx4
          try clear c6
          try clear p6
          try clear c7
          try clear c8
          try clear c9
          try clear c10
          try clear c19
          try clear c19b0
          try clear c19b1
          try clear c20
          try clear c20b0
          try clear c20b1
          try clear c23
          try clear c38
          try clear c38b0
          try clear c38b1
          try clear c39
          try clear c39b0
          try clear c39b1
          try clear c40
          try clear c40b0
          try clear c40b1
          try clear c41
          try clear c41b0
          try clear c41b1
          try clear c42
          try clear c42b0
          try clear c42b1
          try clear c43
          try clear c43b0
          try clear c43b1
          try clear p43
          try clear q43
          try clear hx43
          try clear c44
          try clear p44
          try clear q44
          try clear hx44
          try clear c45
          try clear c46
          try clear c46b0
          try clear c46b1
          try clear c47
          try clear c47b0
          try clear c47b1
          try clear c61
          try clear c62
          try clear c62b0
          try clear c64
          try clear c64b0
          try clear p64
          try clear c65
          try clear c65b0
          try clear c70
          try clear c70b0
          try clear c71
          try clear c71b0
          try clear c73
          try clear c78
          try clear c79
          try clear c79b0
          try clear c80
          try clear c80b0
          try clear c81
          try clear c81b0
          try clear c83
          try clear c83b0
          try clear c85
          try clear c85b0
          try clear c87
          try clear c87b0
          try clear c88
          try clear c88b0
          try clear c89
          try clear c89b0
          try clear c94
          try clear c94b0
          try clear c95
          try clear c95b0
          try clear c103
          try clear c103b0
          try clear c104
          try clear c104b0
          try clear c106
          try clear hx433_0
          try clear hx433_1
          try clear hx433_2
          try clear hx433_3
          try clear hx435_0
          try clear hx435_1
          try clear hx435_2
          try clear hx435_3
          try clear hx438_0
          try clear hx439_0
          try clear hx440_0
          try clear hx441_0
          try clear hx442_0
          try clear hx442_1
          try clear hx442_2
          try clear hx442_3
          try clear hx444_0
          try clear hx444_1
          try clear hx444_2
          try clear hx444_3
          try clear p2
          try clear p4
          try clear p43
          try clear p433
          try clear p435
          try clear p438
          try clear p439
          try clear p440
          try clear p441
          try clear p442
          try clear p444
          try clear p6
          try clear p64
          try clear q4
          try clear q43
          try clear q433
          try clear q435
          try clear q438
          try clear q439
          try clear q440
          try clear q441
          try clear q442
          try clear q444
          obtain ⟨kq, x170_98, rfl, HA, HJ98, HO_13, HO_18, HB⟩ := hcut
          cases kq with
          | zero => exact absurd HA.out (by simp [laws_FnVersions.j4])
          | succ kj98 =>
           have H := HA.out
           clear HA
           simp only [laws_FnVersions.j4] at H
           by_cases c113 : x170_98 = true
           ·
            subst c113
            have H1 : (some false) = some r := by rw [if_pos rfl] at H; exact H
            clear H
            have H := H1
            clear H1
            obtain rfl := Option.some.inj H
            go_wp2
            repeat (go_quiet (fail); try go_wp2)
            go_ret
            exact ⟨er_, bB_⟩
           ·
            replace c113 := Bool.eq_false_iff.mpr c113
            subst c113
            have H1 : (laws_FnVersions.l0 kj98 t410 (wrap64 ((t391.length : Int) + 1)) t418 0) = some r := by rw [if_neg (show ¬ (false = true) by decide)] at H; exact H
            clear H
            have H := H1
            clear H1
            have H' := Aside0.mk H
            clear H
            go_wp2
            repeat (go_quiet (fail); try go_wp2)
            go_loopg [25] kj98 (fun kq v25 w' => ∃ (x25_4 : Int), v25 = .int .i64 x25_4 ∧ Aside0 (laws_FnVersions.l0 kq t410 (wrap64 ((t391.length : Int) + 1)) t418 x25_4 = some r) ∧ Aside0 (kq ≤ kj98) ∧ Aside0 (Kd.S k48 48 w' w.heap.size (fun _ => True) (.slice Ao33 t410.length co33) t410) ∧ Aside0 (Kd.Q (Kd.int .i64) 2 w' w.heap.size (fun _ => True) v420 t418) ∧ Aside0 (Below w.heap.size w w'))
            case atStart => exact ⟨(0), rs_, H', ⟨Nat.le_refl _⟩, ⟨sA_ HO_13.out⟩, ⟨qA_ HO_18.out⟩, ⟨bB_⟩⟩
            case round =>
             as_aux_lemma =>
              clear H'
              try clear c1
              try clear c2
              try clear p2
              try clear c3
              try clear c4
              try clear p4
              try clear q4
              try clear hx4
              try clear c6
              try clear p6
              try clear c7
              try clear c8
              try clear c9
              try clear c10
              try clear c11
              try clear c19
              try clear c19b0
              try clear c19b1
              try clear c20
              try clear c20b0
              try clear c20b1
              try clear c23
              try clear c38
              try clear c38b0
              try clear c38b1
              try clear c39
              try clear c39b0
              try clear c39b1
              try clear c40
              try clear c40b0
              try clear c40b1
              try clear c41
              try clear c41b0
              try clear c41b1
              try clear c42
              try clear c42b0
              try clear c42b1
              try clear c43
              try clear c43b0
              try clear c43b1
              try clear p43
              try clear q43
              try clear hx43
              try clear c44
              try clear p44
              try clear q44
              try clear hx44
              try clear c45
              try clear c46
              try clear c46b0
              try clear c46b1
              try clear c47
              try clear c47b0
              try clear c47b1
              try clear c61
              try clear c62
              try clear c62b0
              try clear c64
              try clear c64b0
              try clear p64
              try clear c65
              try clear c65b0
              try clear c70
              try clear c70b0
              try clear c71
              try clear c71b0
              try clear c73
              try clear c78
              try clear c79
              try clear c79b0
              try clear c80
              try clear c80b0
              try clear c81
              try clear c81b0
              try clear c83
              try clear c83b0
              try clear c85
              try clear c85b0
              try clear c87
              try clear c87b0
              try clear c88
              try clear c88b0
              try clear c89
              try clear c89b0
              try clear c94
              try clear c94b0
              try clear c95
              try clear c95b0
              try clear c103
              try clear c103b0
              try clear c104
              try clear c104b0
              try clear c106
              try clear c113
              try clear hx433_0
              try clear hx433_1
              try clear hx433_2
              try clear hx433_3
              try clear hx435_0
              try clear hx435_1
              try clear hx435_2
              try clear hx435_3
              try clear hx438_0
              try clear hx439_0
              try clear hx440_0
              try clear hx441_0
              try clear hx442_0
              try clear hx442_1
              try clear hx442_2
              try clear hx442_3
              try clear hx444_0
              try clear hx444_1
              try clear hx444_2
              try clear hx444_3
              try clear p2
              try clear p4
              try clear p43
              try clear p433
              try clear p435
              try clear p438
              try clear p439
              try clear p44
              try clear p440
              try clear p441
              try clear p442
              try clear p444
              try clear p6
              try clear p64
              try clear q4
              try clear q43
              try clear q433
              try clear q435
              try clear q438
              try clear q439
              try clear q44
              try clear q440
              try clear q441
              try clear q442
              try clear q444
              obtain ⟨x25_4, rfl, HA, HK4, HO_13, HO_18, HB⟩ := hrel
              cases gk with
              | zero => exact absurd HA.out (by simp [laws_FnVersions.l0])
              | succ k4 =>
               have H := HA.out
               clear HA
               simp only [laws_FnVersions.l0] at H
               by_cases c114 : x25_4 < (t418.length : Int)
               ·
                rw [if_pos c114] at H
                have c114b0 : decide (x25_4 < (t418.length : Int)) = true := decide_eq_true c114
                clear c114
                by_cases c115 : 0 ≤ x25_4
                ·
                 rw [if_pos c115] at H
                 have c115b0 : decide (0 ≤ x25_4) = true := decide_eq_true c115
                 clear c115
                 by_cases c116 : (rd t418 x25_4) < 1
                 ·
                  rw [if_pos c116] at H
                  have c116b0 : decide ((rd t418 x25_4) < 1) = true := decide_eq_true c116
                  clear c116
                  obtain rfl := Option.some.inj H
                  obtain ⟨Ao117, co117, eo117, _⟩ := Kd.Q_slice HO_18.out
                  subst eo117
                  have p438 : 0 ≤ (x25_4 : Int) := of_decide_eq_true as_
                  have q438 : x25_4 < (t418.length : Int) := of_decide_eq_true as_
                  obtain ⟨ad438, e438, hx438_0⟩ := Kd.at_int (Kd.Q_reads' HO_18.out).2.2 x25_4 p438 q438
                  cases e438
                  replace p438 := eq_true p438
                  replace q438 := eq_true q438
                  go_wp2
                  repeat (go_quiet (fail); try go_wp2)
                  go_ret
                  exact ⟨er_, bB_⟩
                 ·
                  rw [if_neg c116] at H
                  have c116b0 : decide ((rd t418 x25_4) < 1) = false := decide_eq_false c116
                  clear c116
                  by_cases c118 : (rd t418 x25_4) ≥ (wrap64 ((t391.length : Int) + 1))
                  ·
                   rw [if_pos c118] at H
                   have c118b0 : decide ((wrap64 ((t391.length : Int) + 1)) ≤ (rd t418 x25_4)) = true := decide_eq_true c118
                   clear c118
                   obtain rfl := Option.some.inj H
                   obtain ⟨Ao119, co119, eo119, _⟩ := Kd.Q_slice HO_18.out
                   subst eo119
                   have p438 : 0 ≤ (x25_4 : Int) := of_decide_eq_true as_
                   have q438 : x25_4 < (t418.length : Int) := of_decide_eq_true as_
                   obtain ⟨ad438, e438, hx438_0⟩ := Kd.at_int (Kd.Q_reads' HO_18.out).2.2 x25_4 p438 q438
                   cases e438
                   replace p438 := eq_true p438
                   replace q438 := eq_true q438
                   have p439 : 0 ≤ (x25_4 : Int) := of_decide_eq_true as_
                   have q439 : x25_4 < (t418.length : Int) := of_decide_eq_true as_
                   obtain ⟨ad439, e439, hx439_0⟩ := Kd.at_int (Kd.Q_reads' HO_18.out).2.2 x25_4 p439 q439
                   obtain rfl : ad438 = ad439 := (by injection e439)
                   replace p439 := eq_true p439
                   replace q439 := eq_true q439
                   go_wp2
                   repeat (go_quiet (fail); try go_wp2)
                   go_ret
                   exact ⟨er_, bB_⟩
                  ·
                   rw [if_neg c118] at H
                   have c118b0 : decide ((wrap64 ((t391.length : Int) + 1)) ≤ (rd t418 x25_4)) = false := decide_eq_false c118
                   clear c118
                   by_cases c120 : x25_4 > 0
                   ·
                    rw [if_pos c120] at H
                    have c120b0 : decide (0 < x25_4) = true := decide_eq_true c120
                    clear c120
                    obtain ⟨ji121, hji121⟩ : ∃ j_ : Int, (wrap64 (x25_4 - 1)) = j_ := ⟨_, rfl⟩
                    replace H : (if 0 ≤ (ji121) then (if (ji121) < (t418.length : Int) then (if (rd t418 x25_4) ≥ (rd t418 (ji121)) then (some false) else (laws_FnVersions.l0 k4 t410 (wrap64 ((t391.length : Int) + 1)) t418 (wrap64 (x25_4 + 1)))) else (none)) else (none)) = some r := by first | (rw [hji121] at H; exact H) | (simp only [hji121] at H ⊢; exact H)
                    have hji121w : (IntKind.i64.wrap (x25_4 - 1)) = ji121 := (i64_w _).trans hji121
                    by_cases c122 : 0 ≤ (ji121)
                    ·
                     rw [if_pos c122] at H
                     have c122b0 : decide (0 ≤ (ji121)) = true := decide_eq_true c122
                     clear c122
                     by_cases c123 : (ji121) < (t418.length : Int)
                     ·
                      rw [if_pos c123] at H
                      have c123b0 : decide ((ji121) < (t418.length : Int)) = true := decide_eq_true c123
                      clear c123
                      by_cases c124 : (rd t418 x25_4) ≥ (rd t418 (ji121))
                      ·
                       rw [if_pos c124] at H
                       have c124b0 : decide ((rd t418 (ji121)) ≤ (rd t418 x25_4)) = true := decide_eq_true c124
                       clear c124
                       obtain rfl := Option.some.inj H
                       obtain ⟨Ao125, co125, eo125, _⟩ := Kd.Q_slice HO_18.out
                       subst eo125
                       have p438 : 0 ≤ (x25_4 : Int) := of_decide_eq_true as_
                       have q438 : x25_4 < (t418.length : Int) := of_decide_eq_true as_
                       obtain ⟨ad438, e438, hx438_0⟩ := Kd.at_int (Kd.Q_reads' HO_18.out).2.2 x25_4 p438 q438
                       cases e438
                       replace p438 := eq_true p438
                       replace q438 := eq_true q438
                       have p439 : 0 ≤ (x25_4 : Int) := of_decide_eq_true as_
                       have q439 : x25_4 < (t418.length : Int) := of_decide_eq_true as_
                       obtain ⟨ad439, e439, hx439_0⟩ := Kd.at_int (Kd.Q_reads' HO_18.out).2.2 x25_4 p439 q439
                       obtain rfl : ad438 = ad439 := (by injection e439)
                       replace p439 := eq_true p439
                       replace q439 := eq_true q439
                       have p440 : 0 ≤ (x25_4 : Int) := of_decide_eq_true as_
                       have q440 : x25_4 < (t418.length : Int) := of_decide_eq_true as_
                       obtain ⟨ad440, e440, hx440_0⟩ := Kd.at_int (Kd.Q_reads' HO_18.out).2.2 x25_4 p440 q440
                       obtain rfl : ad438 = ad440 := (by injection e440)
                       replace p440 := eq_true p440
                       replace q440 := eq_true q440
                       have p441 : 0 ≤ ((ji121) : Int) := of_decide_eq_true as_
                       have q441 : (ji121) < (t418.length : Int) := of_decide_eq_true as_
                       obtain ⟨ad441, e441, hx441_0⟩ := Kd.at_int (Kd.Q_reads' HO_18.out).2.2 (ji121) p441 q441
                       obtain rfl : ad438 = ad441 := (by injection e441)
                       replace p441 := eq_true p441
                       replace q441 := eq_true q441
                       go_wp2
                       repeat (go_quiet (fail); try go_wp2)
                       go_ret
                       exact ⟨by first | rfl | (simp [errW_none, errW_some] <;> rfl) | (simp only [← hji121]; first | rfl | (simp [errW_none, errW_some] <;> rfl)) | (simp [*, errW_none, errW_some] <;> rfl), bB_⟩
                      ·
                       rw [if_neg c124] at H
                       have c124b0 : decide ((rd t418 (ji121)) ≤ (rd t418 x25_4)) = false := decide_eq_false c124
                       clear c124
                       have H' := Aside0.mk H
                       clear H
                       obtain ⟨Ao126, co126, eo126, _⟩ := Kd.Q_slice HO_18.out
                       subst eo126
                       have p438 : 0 ≤ (x25_4 : Int) := of_decide_eq_true as_
                       have q438 : x25_4 < (t418.length : Int) := of_decide_eq_true as_
                       obtain ⟨ad438, e438, hx438_0⟩ := Kd.at_int (Kd.Q_reads' HO_18.out).2.2 x25_4 p438 q438
                       cases e438
                       replace p438 := eq_true p438
                       replace q438 := eq_true q438
                       have p439 : 0 ≤ (x25_4 : Int) := of_decide_eq_true as_
                       have q439 : x25_4 < (t418.length : Int) := of_decide_eq_true as_
                       obtain ⟨ad439, e439, hx439_0⟩ := Kd.at_int (Kd.Q_reads' HO_18.out).2.2 x25_4 p439 q439
                       obtain rfl : ad438 = ad439 := (by injection e439)
                       replace p439 := eq_true p439
                       replace q439 := eq_true q439
                       have p440 : 0 ≤ (x25_4 : Int) := of_decide_eq_true as_
                       have q440 : x25_4 < (t418.length : Int) := of_decide_eq_true as_
                       obtain ⟨ad440, e440, hx440_0⟩ := Kd.at_int (Kd.Q_reads' HO_18.out).2.2 x25_4 p440 q440
                       obtain rfl : ad438 = ad440 := (by injection e440)
                       replace p440 := eq_true p440
                       replace q440 := eq_true q440
                       have p441 : 0 ≤ ((ji121) : Int) := of_decide_eq_true as_
                       have q441 : (ji121) < (t418.length : Int) := of_decide_eq_true as_
                       obtain ⟨ad441, e441, hx441_0⟩ := Kd.at_int (Kd.Q_reads' HO_18.out).2.2 (ji121) p441 q441
                       obtain rfl : ad438 = ad441 := (by injection e441)
                       replace p441 := eq_true p441
                       replace q441 := eq_true q441
                       go_wp2
                       repeat (go_quiet (fail); try go_wp2)
                       go_roundg k4
                       case measure => have := HJ9.out; have := HJ29.out; have := HJ98.out; have := HK4.out; omega
                       case rel => exact ⟨(wrap64 (x25_4 + 1)), rs_, H', ⟨by have := HJ9.out; have := HJ29.out; have := HJ98.out; have := HK4.out; omega⟩, ⟨sA_ HO_13.out⟩, ⟨qA_ HO_18.out⟩, ⟨bB_⟩⟩
                     ·
                      rw [if_neg c123] at H
                      exact absurd H (by simp)
                    ·
                     rw [if_neg c122] at H
                     exact absurd H (by simp)
                   ·
                    rw [if_neg c120] at H
                    have c120b0 : decide (0 < x25_4) = false := decide_eq_false c120
                    clear c120
                    have H' := Aside0.mk H
                    clear H
                    obtain ⟨Ao127, co127, eo127, _⟩ := Kd.Q_slice HO_18.out
                    subst eo127
                    have p438 : 0 ≤ (x25_4 : Int) := of_decide_eq_true as_
                    have q438 : x25_4 < (t418.length : Int) := of_decide_eq_true as_
                    obtain ⟨ad438, e438, hx438_0⟩ := Kd.at_int (Kd.Q_reads' HO_18.out).2.2 x25_4 p438 q438
                    cases e438
                    replace p438 := eq_true p438
                    replace q438 := eq_true q438
                    have p439 : 0 ≤ (x25_4 : Int) := of_decide_eq_true as_
                    have q439 : x25_4 < (t418.length : Int) := of_decide_eq_true as_
                    obtain ⟨ad439, e439, hx439_0⟩ := Kd.at_int (Kd.Q_reads' HO_18.out).2.2 x25_4 p439 q439
                    obtain rfl : ad438 = ad439 := (by injection e439)
                    replace p439 := eq_true p439
                    replace q439 := eq_true q439
                    go_wp2
                    repeat (go_quiet (fail); try go_wp2)
                    go_roundg k4
                    case measure => have := HJ9.out; have := HJ29.out; have := HJ98.out; have := HK4.out; omega
                    case rel => exact ⟨(wrap64 (x25_4 + 1)), rs_, H', ⟨by have := HJ9.out; have := HJ29.out; have := HJ98.out; have := HK4.out; omega⟩, ⟨sA_ HO_13.out⟩, ⟨qA_ HO_18.out⟩, ⟨bB_⟩⟩
                ·
                 rw [if_neg c115] at H
                 exact absurd H (by simp)
               ·
                rw [if_neg c114] at H
                have c114b0 : decide (x25_4 < (t418.length : Int)) = false := decide_eq_false c114
                clear c114
                obtain ⟨ji128, hji128⟩ : ∃ j_ : Int, (wrap64 ((wrap64 ((t391.length : Int) + 1)) - 1)) = j_ := ⟨_, rfl⟩
                replace H : (if 0 ≤ (ji128) then (if (ji128) < (t410.length : Int) then ((impl_VersionText.f k4 ((rd_T48 t410 (ji128)).f0) ((rd_T48 t410 (ji128)).f1) ((rd_T48 t410 (ji128)).f2) ((rd_T48 t410 (ji128)).f3)).bind fun t443 => (some (t443.toList != ([] : List UInt8)))) else (none)) else (none)) = some r := by first | (rw [hji128] at H; exact H) | (simp only [hji128] at H ⊢; exact H)
                have hji128w : (IntKind.i64.wrap ((wrap64 ((t391.length : Int) + 1)) - 1)) = ji128 := (i64_w _).trans hji128
                by_cases c129 : 0 ≤ (ji128)
                ·
                 rw [if_pos c129] at H
                 have c129b0 : decide (0 ≤ (ji128)) = true := decide_eq_true c129
                 clear c129
                 by_cases c130 : (ji128) < (t410.length : Int)
                 ·
                  rw [if_pos c130] at H
                  have c130b0 : decide ((ji128) < (t410.length : Int)) = true := decide_eq_true c130
                  clear c130
                  replace H := Option.bind_eq_some_iff.mp H
                  obtain ⟨t443, A1310, H⟩ := H
                  replace H : (some (t443.toList != ([] : List UInt8))) = some r := H
                  have A131 := Aside0.mk A1310
                  clear A1310
                  obtain rfl := Option.some.inj H
                  obtain ⟨Ao132, co132, eo132, _⟩ := Kd.Q_slice HO_18.out
                  subst eo132
                  have p442 : 0 ≤ ((ji128) : Int) := of_decide_eq_true as_
                  have q442 : (ji128) < (t410.length : Int) := of_decide_eq_true as_
                  obtain ⟨ad442, A442_3, c442_3, e442, hx442_0, hx442_1, hx442_2, hx442_3, hl442_3, hi442_3⟩ := at_T48 (Kd.S_reads' HO_13.out).2.2 (ji128) p442 q442
                  cases e442
                  obtain ⟨ce442, hce442, hMe442, hcc442⟩ := Kd.S_get HO_13.out z48 (ji128) p442 (by first | exact q442 | exact of_decide_eq_true as_ | (have e_ := (Kd.S_reads' HO_13.out).1; omega))
                  obtain ⟨ve442_3, rfl, ge442_3⟩ := k48_openM hMe442
                  have hv442_3 := hcc442 3 _ rfl
                  rw [add_field _ _ 3 (by omega)] at hv442_3
                  replace hv442_3 := Option.some.inj (hv442_3.symm.trans hx442_3)
                  rw [hv442_3] at ge442_3
                  have HL442_3 := Aside0.mk (show Kd.R k96 96 _ _ _ _ ((rd_T48 t410 (ji128)).f3) from ge442_3)
                  clear hv442_3 ge442_3
                  clear hcc442 hce442
                  have HR442_3 := Aside0.mk hi442_3
                  have HC442_3 := Aside0.mk hl442_3
                  clear hi442_3 hl442_3
                  replace p442 := eq_true p442
                  replace q442 := eq_true q442
                  go_wp2_with (first | (go_at_call 22; (with_reducible refine (impl_VersionText.calls k4 ((rd_T48 t410 (ji128)).f0) ((rd_T48 t410 (ji128)).f1) ((rd_T48 t410 (ji128)).f2) _ _ ((rd_T48 t410 (ji128)).f3) t443 _ ?side1 ?side2 ?side3 A131.out).mono ?_); (case side1 => repeat (first | exact (by repeat (first | (with_reducible exact HR442_3.out) | (with_reducible refine Kd.C_alloc ?_ _) | (with_reducible refine Kd.C_drewN ?_ _) | (with_reducible refine Kd.C_drew ?_) | exact HR442_3.out)) | (with_reducible refine Kd.C_alloc ?_ _) | (with_reducible refine Kd.C_drewN ?_ _) | (with_reducible refine Kd.C_drew ?_))); (case side2 => exact HC442_3.out); (case side3 => exact wok_ HWOK_.out bB_); rintro e w133 ⟨rfl, hb⟩; have n0_ := Aside0.mk (Kd.S_below (sA_ HO_13.out) hb); have n1_ := Aside0.mk (Kd.Q_below (qA_ HO_18.out) hb); have n2_ := Aside0.mk (Kd.R_below (rA_ HL442_3.out) hb); have n3_ := Aside0.mk (Kd.C_below (by repeat (first | (with_reducible exact HR442_3.out) | (with_reducible refine Kd.C_alloc ?_ _) | (with_reducible refine Kd.C_drewN ?_ _) | (with_reducible refine Kd.C_drew ?_) | exact HR442_3.out)) hb); have n4_ := Aside0.mk (below_step bB_ hb); clear HO_13; clear HO_18; clear HL442_3; clear HR442_3; clear HB; have HO_13 := n0_; have HO_18 := n1_; have HL442_3 := n2_; have HR442_3 := n3_; have HB := n4_; clear n0_ n1_ n2_ n3_ n4_; (try clear hb); (try clear hb2); (try clear hk); (try clear hi)))
                  repeat (go_quiet (first | (go_at_call 22; (with_reducible refine (impl_VersionText.calls k4 ((rd_T48 t410 (ji128)).f0) ((rd_T48 t410 (ji128)).f1) ((rd_T48 t410 (ji128)).f2) _ _ ((rd_T48 t410 (ji128)).f3) t443 _ ?side1 ?side2 ?side3 A131.out).mono ?_); (case side1 => repeat (first | exact (by repeat (first | (with_reducible exact HR442_3.out) | (with_reducible refine Kd.C_alloc ?_ _) | (with_reducible refine Kd.C_drewN ?_ _) | (with_reducible refine Kd.C_drew ?_) | exact HR442_3.out)) | (with_reducible refine Kd.C_alloc ?_ _) | (with_reducible refine Kd.C_drewN ?_ _) | (with_reducible refine Kd.C_drew ?_))); (case side2 => exact HC442_3.out); (case side3 => exact wok_ HWOK_.out bB_); rintro e w133 ⟨rfl, hb⟩; have n0_ := Aside0.mk (Kd.S_below (sA_ HO_13.out) hb); have n1_ := Aside0.mk (Kd.Q_below (qA_ HO_18.out) hb); have n2_ := Aside0.mk (Kd.R_below (rA_ HL442_3.out) hb); have n3_ := Aside0.mk (Kd.C_below (by repeat (first | (with_reducible exact HR442_3.out) | (with_reducible refine Kd.C_alloc ?_ _) | (with_reducible refine Kd.C_drewN ?_ _) | (with_reducible refine Kd.C_drew ?_) | exact HR442_3.out)) hb); have n4_ := Aside0.mk (below_step bB_ hb); clear HO_13; clear HO_18; clear HL442_3; clear HR442_3; clear HB; have HO_13 := n0_; have HO_18 := n1_; have HL442_3 := n2_; have HR442_3 := n3_; have HB := n4_; clear n0_ n1_ n2_ n3_ n4_; (try clear hb); (try clear hb2); (try clear hk); (try clear hi))); try go_wp2_with (first | (go_at_call 22; (with_reducible refine (impl_VersionText.calls k4 ((rd_T48 t410 (ji128)).f0) ((rd_T48 t410 (ji128)).f1) ((rd_T48 t410 (ji128)).f2) _ _ ((rd_T48 t410 (ji128)).f3) t443 _ ?side1 ?side2 ?side3 A131.out).mono ?_); (case side1 => repeat (first | exact (by repeat (first | (with_reducible exact HR442_3.out) | (with_reducible refine Kd.C_alloc ?_ _) | (with_reducible refine Kd.C_drewN ?_ _) | (with_reducible refine Kd.C_drew ?_) | exact HR442_3.out)) | (with_reducible refine Kd.C_alloc ?_ _) | (with_reducible refine Kd.C_drewN ?_ _) | (with_reducible refine Kd.C_drew ?_))); (case side2 => exact HC442_3.out); (case side3 => exact wok_ HWOK_.out bB_); rintro e w133 ⟨rfl, hb⟩; have n0_ := Aside0.mk (Kd.S_below (sA_ HO_13.out) hb); have n1_ := Aside0.mk (Kd.Q_below (qA_ HO_18.out) hb); have n2_ := Aside0.mk (Kd.R_below (rA_ HL442_3.out) hb); have n3_ := Aside0.mk (Kd.C_below (by repeat (first | (with_reducible exact HR442_3.out) | (with_reducible refine Kd.C_alloc ?_ _) | (with_reducible refine Kd.C_drewN ?_ _) | (with_reducible refine Kd.C_drew ?_) | exact HR442_3.out)) hb); have n4_ := Aside0.mk (below_step bB_ hb); clear HO_13; clear HO_18; clear HL442_3; clear HR442_3; clear HB; have HO_13 := n0_; have HO_18 := n1_; have HL442_3 := n2_; have HR442_3 := n3_; have HB := n4_; clear n0_ n1_ n2_ n3_ n4_; (try clear hb); (try clear hb2); (try clear hk); (try clear hi))))
                  go_ret
                  exact ⟨by first | rfl | (cases h_ : t443.toList <;> rfl) | (simp [errW_none, errW_some] <;> rfl) | (simp only [← hji128]; first | rfl | (simp [errW_none, errW_some] <;> rfl)) | (simp [*, errW_none, errW_some] <;> rfl), bB_⟩
                 ·
                  rw [if_neg c130] at H
                  exact absurd H (by simp)
                ·
                 rw [if_neg c129] at H
                 exact absurd H (by simp)

/-- THE ONE PURE STATEMENT of laws_FnVersions: yours. -/
def laws_FnVersions.Pure : Prop := ∀ (l0 : List Int) (l1 : List Int), l0.length ≤ maxLen → l0.length * 1 ≤ 140737488351232 → (∀ x ∈ l0, (Lit.int .u8 x).wf = true) → l1.length ≤ maxLen → l1.length * 1 ≤ 140737488351232 → (∀ x ∈ l1, (Lit.int .u8 x).wf = true) → ∃ k, laws_FnVersions.f k l0 l1 = some true
theorem laws_FnVersions.walk (P : laws_FnVersions.Pure) (a0 : Option Addr) (len0 cap0 : Nat) (z0 : List Int) (a1 : Option Addr) (len1 cap1 : Nat) (z1 : List Int) (w : World) (w0 : (a0 = none ∧ len0 = 0 ∧ cap0 = 0 ∧ z0 = []) ∨ ∃ x, a0 = some x ∧ len0 ≤ cap0 ∧ cap0 ≤ maxLen ∧ z0.length = cap0 ∧ (∀ i, i < z0.length → w.cell? (x.add i) = some (.int .u8 (z0.getD i 0))) ∧ ∀ n ∈ z0, (Lit.int .u8 n).wf = true) (y0 : len0 * 1 ≤ 140737488351232) (w1 : (a1 = none ∧ len1 = 0 ∧ cap1 = 0 ∧ z1 = []) ∨ ∃ x, a1 = some x ∧ len1 ≤ cap1 ∧ cap1 ≤ maxLen ∧ z1.length = cap1 ∧ (∀ i, i < z1.length → w.cell? (x.add i) = some (.int .u8 (z1.getD i 0))) ∧ ∀ n ∈ z1, (Lit.int .u8 n).wf = true) (y1 : len1 * 1 ≤ 140737488351232) (ht_ : WOK w) :
  Calls Tryd.prog 3 #[.slice a0 len0 cap0, .slice a1 len1 cap1] w fun e w' => e = .returned (.bool true) ∧ Below w.heap.size w w' := by
 obtain ⟨l0, rfl, hr0, hm0, hw0, hc0⟩ := ReadsInt.ofRowC w0
 obtain ⟨l1, rfl, hr1, hm1, hw1, hc1⟩ := ReadsInt.ofRowC w1
 obtain ⟨k, h⟩ := P l0 l1 hm0 y0 hw0 hm1 y1 hw1
 refine (laws_FnVersions.calls k _ _ l0 _ _ l1 true w (Kd.C_of_reads (d := (0 : Int)) (h1 := fun _ => rfl) hr0) hc0 (Kd.C_of_reads (d := (0 : Int)) (h1 := fun _ => rfl) hr1) hc1 ht_ h).mono ?_
 rintro e w' ⟨rfl, hd⟩
 exact ⟨rfl, hd⟩

end Go.Proofs.YtgkmfgkkmahmoaaDoor.PFnVersions
