-- PRINTED by print.py (a twelfth state) out of the translation. Not trusted: Lean checks it.
import Derived.Test.YtenjhbkpcelidaaPFnExactMergeVersionsx0
import Derived.Test.YtenjhbkpcelidaaPFnExactMergeVersionsx2
import Derived.Test.YtenjhbkpcelidaaPFnExactMergeVersionsx10
import Derived.Test.YtenjhbkpcelidaaPFnExactMergeVersionsx11
import Derived.Test.YtenjhbkpcelidaaPFnExactMergeVersionsx12
namespace Go.Proofs.Ytenjhbkpcelidaa.PFnExactMergeVersions
open Go.RowKit Go.Proofs.YtenjhbkpcelidaaW.PrintWords Go.Proofs.YtenjhbkpcelidaaW.PrintLast Go.Proofs.YtenjhbkpcelidaaW.PrintMore
attribute [local go_sem] max2_int min2_int max_two min_two max_three min_three max_four min_four   -- for this text's walks alone
set_option linter.unusedVariables false
set_option linter.unusedSimpArgs false

attribute [local go_sem high] eqA93
/-! ### impl_MergeStates: function 25 -/
mutual
def impl_MergeStates.j0 : Nat → List (S71) → List (S71) → List (S71) → Bool → Option ((List (S71)) × Int)
 | 0, _, _, _, _ => none
 | k + 1, x0, x1, x2, x12 => if x12 = true then (some (([] : List (S71)), 1)) else ((impl_conflictsOf.f k x0 x1 x2).bind fun t332 => (if (t332.length : Int) > 0 then (some (([] : List (S71)), 6)) else ((impl_namesOf.f (([x0, x1, x2] : List (List (S71))))).bind fun t338 => (impl_MergeStates.l0 k x0 x1 x2 ([] : List (S71)) t338 (t338.length : Int) 0))))
def impl_MergeStates.l0 : Nat → List (S71) → List (S71) → List (S71) → List (S71) → List ByteArray → Int → Int → Option ((List (S71)) × Int)
 | 0, _, _, _, _, _, _, _ => none
 | k + 1, x0, x1, x2, x8, x37, x38, x39 => if x39 < x38 then (if 0 ≤ x39 then (if x39 < (x37.length : Int) then ((impl_thingAt.f k x1 (rdOf ByteArray.empty x37 x39)).bind fun bt342 => ((impl_thingAt.f k x0 (rdOf ByteArray.empty x37 x39)).bind fun bt345 => (if (bt342.1 == bt345.1 && (bt342.2 == bt345.2)) = true then ((impl_thingAt.f k x2 (rdOf ByteArray.empty x37 x39)).bind fun bt347 => (if bt347.2 = true then (if x8.length < 5864062014805 then (impl_MergeStates.l0 k x0 x1 x2 (x8 ++ [(⟨rdOf ByteArray.empty x37 x39, bt347.1⟩ : S71)]) x37 x38 (wrap64 (x39 + 1))) else (none)) else (impl_MergeStates.l0 k x0 x1 x2 x8 x37 x38 (wrap64 (x39 + 1))))) else (if bt342.2 = true then (if x8.length < 5864062014805 then (impl_MergeStates.l0 k x0 x1 x2 (x8 ++ [(⟨rdOf ByteArray.empty x37 x39, bt342.1⟩ : S71)]) x37 x38 (wrap64 (x39 + 1))) else (none)) else (impl_MergeStates.l0 k x0 x1 x2 x8 x37 x38 (wrap64 (x39 + 1))))))) else (none)) else (none)) else (if (x8.length : Int) > 24 then (some (([] : List (S71)), 5)) else (some (x8, 0)))
end
def impl_MergeStates.f (k : Nat) (l0 : List (S71)) (l1 : List (S71)) (l2 : List (S71)) : Option ((List (S71)) × Int) := (impl_ValidState.f k l0).bind fun t329 => (if t329 = true then ((impl_ValidState.f k l1).bind fun t330 => (if t330 = true then ((impl_ValidState.f k l2).bind fun t331 => (impl_MergeStates.j0 k l0 l1 l2 (!t331))) else (impl_MergeStates.j0 k l0 l1 l2 true))) else (impl_MergeStates.j0 k l0 l1 l2 true))
theorem impl_MergeStates.mono_l : ∀ k, (∀ y0 y1 y2 y3, LeO (impl_MergeStates.j0 k y0 y1 y2 y3) (impl_MergeStates.j0 (k + 1) y0 y1 y2 y3)) ∧ (∀ y0 y1 y2 y3 y4 y5 y6, LeO (impl_MergeStates.l0 k y0 y1 y2 y3 y4 y5 y6) (impl_MergeStates.l0 (k + 1) y0 y1 y2 y3 y4 y5 y6))
 | 0 => ⟨fun _ _ _ _ r h => by simp [impl_MergeStates.j0] at h, fun _ _ _ _ _ _ _ r h => by simp [impl_MergeStates.l0] at h⟩
 | k + 1 => by
  obtain ⟨ih0, ih1⟩ := impl_MergeStates.mono_l k
  refine ⟨?_, ?_⟩
  ·
   intro y0 y1 y2 y3
   unfold impl_MergeStates.j0
   repeat' first
   | (with_reducible exact ih0 _ _ _ _)
   | (with_reducible exact ih1 _ _ _ _ _ _ _)
   | (with_reducible exact impl_ValidState.mono _ _)
   | (with_reducible exact impl_conflictsOf.mono _ _ _ _)
   | (with_reducible exact impl_thingAt.mono _ _ _)
   | (with_reducible exact LeO.refl _)
   | (with_reducible exact LeO.none _)
   | (with_reducible refine LeO.ite ?_ ?_)
   | (with_reducible refine LeO.bind ?_ (fun _ => ?_))
   | exact ih0 _ _ _ _
   | exact ih1 _ _ _ _ _ _ _
   | exact impl_ValidState.mono _ _
   | exact impl_conflictsOf.mono _ _ _ _
   | exact impl_thingAt.mono _ _ _
   | exact LeO.none _
   | refine LeO.ite ?_ ?_
   | refine LeO.bind ?_ (fun _ => ?_)
  ·
   intro y0 y1 y2 y3 y4 y5 y6
   unfold impl_MergeStates.l0
   repeat' first
   | (with_reducible exact ih0 _ _ _ _)
   | (with_reducible exact ih1 _ _ _ _ _ _ _)
   | (with_reducible exact impl_ValidState.mono _ _)
   | (with_reducible exact impl_conflictsOf.mono _ _ _ _)
   | (with_reducible exact impl_thingAt.mono _ _ _)
   | (with_reducible exact LeO.refl _)
   | (with_reducible exact LeO.none _)
   | (with_reducible refine LeO.ite ?_ ?_)
   | (with_reducible refine LeO.bind ?_ (fun _ => ?_))
   | exact ih0 _ _ _ _
   | exact ih1 _ _ _ _ _ _ _
   | exact impl_ValidState.mono _ _
   | exact impl_conflictsOf.mono _ _ _ _
   | exact impl_thingAt.mono _ _ _
   | exact LeO.none _
   | refine LeO.ite ?_ ?_
   | refine LeO.bind ?_ (fun _ => ?_)
theorem impl_MergeStates.mono : ∀ a0 a1 a2 k, LeO (impl_MergeStates.f k a0 a1 a2) (impl_MergeStates.f (k + 1) a0 a1 a2) := by
 intro a0 a1 a2 k
 obtain ⟨ih0, ih1⟩ := impl_MergeStates.mono_l k
 unfold impl_MergeStates.f
 repeat' first
   | (with_reducible exact ih0 _ _ _ _)
   | (with_reducible exact ih1 _ _ _ _ _ _ _)
   | (with_reducible exact impl_ValidState.mono _ _)
   | (with_reducible exact impl_conflictsOf.mono _ _ _ _)
   | (with_reducible exact impl_thingAt.mono _ _ _)
   | (with_reducible exact LeO.refl _)
   | (with_reducible exact LeO.none _)
   | (with_reducible refine LeO.ite ?_ ?_)
   | (with_reducible refine LeO.bind ?_ (fun _ => ?_))
   | exact ih0 _ _ _ _
   | exact ih1 _ _ _ _ _ _ _
   | exact impl_ValidState.mono _ _
   | exact impl_conflictsOf.mono _ _ _ _
   | exact impl_thingAt.mono _ _ _
   | exact LeO.none _
   | refine LeO.ite ?_ ?_
   | refine LeO.bind ?_ (fun _ => ?_)
set_option maxHeartbeats 8000000 in
set_option maxRecDepth 100000 in
theorem impl_MergeStates.calls (k : Nat) (P0_ : Nat → Prop) (A0 : Option Addr) (c0 : Nat) (l0 : List (S71)) (P1_ : Nat → Prop) (A1 : Option Addr) (c1 : Nat) (l1 : List (S71)) (P2_ : Nat → Prop) (A2 : Option Addr) (c2 : Nat) (l2 : List (S71)) (r1 : List (S71)) (r2 : Int) (w : World) (hs0 : Kd.V k71 71 w w.heap.size (fun k_ => P0_ k_) (.slice A0 l0.length c0) l0) (hs1 : Kd.V k71 71 w w.heap.size (fun k_ => P1_ k_) (.slice A1 l1.length c1) l1) (hs2 : Kd.V k71 71 w w.heap.size (fun k_ => P2_ k_) (.slice A2 l2.length c2) l2) (h : impl_MergeStates.f k l0 l1 l2 = some (r1, r2)) :
  Calls Try.prog 25 #[.slice A0 l0.length c0, .slice A1 l1.length c1, .slice A2 l2.length c2] w fun e w' => ∃ v0_ : Value, e = .returned (.tuple #[v0_, .int .i64 r2]) ∧ Kd.R k71 71 w' w.heap.size (fun k_ => (w.heap.size ≤ k_)) v0_ r1 ∧ Below w.heap.size w w' := by
 have hu93 := Try.underlying93
 have hu71 := Try.underlying71
 have HO0 := Aside0.mk (show Kd.V k71 71 w w.heap.size (fun k_ => ((P0_ k_ ∨ P1_ k_ ∨ P2_ k_) ∨ w.heap.size ≤ k_)) (.slice A0 l0.length c0) l0 from Kd.V_mono hs0 (fun k_ hk => .inl (.inl hk)))
 have HO1 := Aside0.mk (show Kd.V k71 71 w w.heap.size (fun k_ => ((P0_ k_ ∨ P1_ k_ ∨ P2_ k_) ∨ w.heap.size ≤ k_)) (.slice A1 l1.length c1) l1 from Kd.V_mono hs1 (fun k_ hk => .inl (.inr (.inl hk))))
 have HO2 := Aside0.mk (show Kd.V k71 71 w w.heap.size (fun k_ => ((P0_ k_ ∨ P1_ k_ ∨ P2_ k_) ∨ w.heap.size ≤ k_)) (.slice A2 l2.length c2) l2 from Kd.V_mono hs2 (fun k_ hk => .inl (.inr (.inr hk))))
 have HB := Aside0.mk (Below.refl w.heap.size w)
 have H : ((impl_ValidState.f k l0).bind fun t329 => (if t329 = true then ((impl_ValidState.f k l1).bind fun t330 => (if t330 = true then ((impl_ValidState.f k l2).bind fun t331 => (impl_MergeStates.j0 k l0 l1 l2 (!t331))) else (impl_MergeStates.j0 k l0 l1 l2 true))) else (impl_MergeStates.j0 k l0 l1 l2 true))) = some (r1, r2) := h
 clear h
 have HC4 := Aside0.mk H
 clear H
 go_enter Try.func25, Try.ntmps25
 go_upto_region 1 with (fail)
 go_cut [12] (fun v12 wc => ∃ (kq : Nat) (x12_3 : Bool), v12 = .bool x12_3 ∧ Aside0 (impl_MergeStates.j0 kq l0 l1 l2 x12_3 = some (r1, r2)) ∧ Aside0 (kq ≤ k) ∧ Aside0 (Kd.V k71 71 wc w.heap.size (fun k_ => ((P0_ k_ ∨ P1_ k_ ∨ P2_ k_) ∨ w.heap.size ≤ k_)) (.slice A0 l0.length c0) l0) ∧ Aside0 (Kd.V k71 71 wc w.heap.size (fun k_ => ((P0_ k_ ∨ P1_ k_ ∨ P2_ k_) ∨ w.heap.size ≤ k_)) (.slice A1 l1.length c1) l1) ∧ Aside0 (Kd.V k71 71 wc w.heap.size (fun k_ => ((P0_ k_ ∨ P1_ k_ ∨ P2_ k_) ∨ w.heap.size ≤ k_)) (.slice A2 l2.length c2) l2) ∧ Aside0 (Below w.heap.size w wc))
 case first =>
  have H := HC4.out
  clear HC4
  replace H := Option.bind_eq_some_iff.mp H
  obtain ⟨t329, A50, H⟩ := H
  replace H : (if t329 = true then ((impl_ValidState.f k l1).bind fun t330 => (if t330 = true then ((impl_ValidState.f k l2).bind fun t331 => (impl_MergeStates.j0 k l0 l1 l2 (!t331))) else (impl_MergeStates.j0 k l0 l1 l2 true))) else (impl_MergeStates.j0 k l0 l1 l2 true)) = some (r1, r2) := H
  have A5 := Aside0.mk A50
  clear A50
  by_cases c6 : t329 = true
  ·
   subst c6
   have H1 : ((impl_ValidState.f k l1).bind fun t330 => (if t330 = true then ((impl_ValidState.f k l2).bind fun t331 => (impl_MergeStates.j0 k l0 l1 l2 (!t331))) else (impl_MergeStates.j0 k l0 l1 l2 true))) = some (r1, r2) := by rw [if_pos rfl] at H; exact H
   clear H
   have H := H1
   clear H1
   replace H := Option.bind_eq_some_iff.mp H
   obtain ⟨t330, A70, H⟩ := H
   replace H : (if t330 = true then ((impl_ValidState.f k l2).bind fun t331 => (impl_MergeStates.j0 k l0 l1 l2 (!t331))) else (impl_MergeStates.j0 k l0 l1 l2 true)) = some (r1, r2) := H
   have A7 := Aside0.mk A70
   clear A70
   by_cases c8 : t330 = true
   ·
    subst c8
    have H1 : ((impl_ValidState.f k l2).bind fun t331 => (impl_MergeStates.j0 k l0 l1 l2 (!t331))) = some (r1, r2) := by rw [if_pos rfl] at H; exact H
    clear H
    have H := H1
    clear H1
    replace H := Option.bind_eq_some_iff.mp H
    obtain ⟨t331, A90, H⟩ := H
    replace H : (impl_MergeStates.j0 k l0 l1 l2 (!t331)) = some (r1, r2) := H
    have A9 := Aside0.mk A90
    clear A90
    have H' := Aside0.mk H
    clear H
    go_wp2_with (first | ((with_reducible refine gate_callee (f := 52) rfl ?_); refine goesL_ (some 14) rfl rfl Try.func52 (by kernel_rfl) rfl #[.slice A0 l0.length c0] rfl mT_ ?_; (with_reducible refine (impl_ValidState.calls k _ _ l0 true _ ?side1 ?side2 A5.out).mono ?_); (case side1 => repeat (first | exact (Kd.V_reads' HO0.out).2.2 | (with_reducible refine Kd.C_alloc ?_ _) | (with_reducible refine Kd.C_drewN ?_ _) | (with_reducible refine Kd.C_drew ?_))); (case side2 => exact (Kd.V_reads' HO0.out).2.1); rintro e w10 ⟨rfl, hb⟩; refine ⟨_, rfl, ?_⟩; have n0_ := Aside0.mk (Kd.V_below (vA_ HO0.out) hb); have n1_ := Aside0.mk (Kd.V_below (vA_ HO1.out) hb); have n2_ := Aside0.mk (Kd.V_below (vA_ HO2.out) hb); have n3_ := Aside0.mk (below_step bB_ hb); clear HO0; clear HO1; clear HO2; clear HB; have HO0 := n0_; have HO1 := n1_; have HO2 := n2_; have HB := n3_; clear n0_ n1_ n2_ n3_; (try clear hb); (try clear hb2); (try clear hk); (try clear hi)) | (go_at_call 52; (with_reducible refine (impl_ValidState.calls k _ _ l1 true _ ?side1 ?side2 A7.out).mono ?_); (case side1 => repeat (first | exact (Kd.V_reads' HO1.out).2.2 | (with_reducible refine Kd.C_alloc ?_ _) | (with_reducible refine Kd.C_drewN ?_ _) | (with_reducible refine Kd.C_drew ?_))); (case side2 => exact (Kd.V_reads' HO1.out).2.1); rintro e w11 ⟨rfl, hb⟩; have n0_ := Aside0.mk (Kd.V_below (vA_ HO0.out) hb); have n1_ := Aside0.mk (Kd.V_below (vA_ HO1.out) hb); have n2_ := Aside0.mk (Kd.V_below (vA_ HO2.out) hb); have n3_ := Aside0.mk (below_step bB_ hb); clear HO0; clear HO1; clear HO2; clear HB; have HO0 := n0_; have HO1 := n1_; have HO2 := n2_; have HB := n3_; clear n0_ n1_ n2_ n3_; (try clear hb); (try clear hb2); (try clear hk); (try clear hi)) | (go_at_call 52; (with_reducible refine (impl_ValidState.calls k _ _ l2 t331 _ ?side1 ?side2 A9.out).mono ?_); (case side1 => repeat (first | exact (Kd.V_reads' HO2.out).2.2 | (with_reducible refine Kd.C_alloc ?_ _) | (with_reducible refine Kd.C_drewN ?_ _) | (with_reducible refine Kd.C_drew ?_))); (case side2 => exact (Kd.V_reads' HO2.out).2.1); rintro e w12 ⟨rfl, hb⟩; have n0_ := Aside0.mk (Kd.V_below (vA_ HO0.out) hb); have n1_ := Aside0.mk (Kd.V_below (vA_ HO1.out) hb); have n2_ := Aside0.mk (Kd.V_below (vA_ HO2.out) hb); have n3_ := Aside0.mk (below_step bB_ hb); clear HO0; clear HO1; clear HO2; clear HB; have HO0 := n0_; have HO1 := n1_; have HO2 := n2_; have HB := n3_; clear n0_ n1_ n2_ n3_; (try clear hb); (try clear hb2); (try clear hk); (try clear hi)))
    go_meet
    case rel => exact ⟨_, (!t331), rs_, H', ⟨by first | omega | exact Nat.le_refl _⟩, ⟨vA_ HO0.out⟩, ⟨vA_ HO1.out⟩, ⟨vA_ HO2.out⟩, ⟨bB_⟩⟩
   ·
    replace c8 := Bool.eq_false_iff.mpr c8
    subst c8
    have H1 : (impl_MergeStates.j0 k l0 l1 l2 true) = some (r1, r2) := by rw [if_neg (show ¬ (false = true) by decide)] at H; exact H
    clear H
    have H := H1
    clear H1
    have H' := Aside0.mk H
    clear H
    go_wp2_with (first | ((with_reducible refine gate_callee (f := 52) rfl ?_); refine goesL_ (some 14) rfl rfl Try.func52 (by kernel_rfl) rfl #[.slice A0 l0.length c0] rfl mT_ ?_; (with_reducible refine (impl_ValidState.calls k _ _ l0 true _ ?side1 ?side2 A5.out).mono ?_); (case side1 => repeat (first | exact (Kd.V_reads' HO0.out).2.2 | (with_reducible refine Kd.C_alloc ?_ _) | (with_reducible refine Kd.C_drewN ?_ _) | (with_reducible refine Kd.C_drew ?_))); (case side2 => exact (Kd.V_reads' HO0.out).2.1); rintro e w13 ⟨rfl, hb⟩; refine ⟨_, rfl, ?_⟩; have n0_ := Aside0.mk (Kd.V_below (vA_ HO0.out) hb); have n1_ := Aside0.mk (Kd.V_below (vA_ HO1.out) hb); have n2_ := Aside0.mk (Kd.V_below (vA_ HO2.out) hb); have n3_ := Aside0.mk (below_step bB_ hb); clear HO0; clear HO1; clear HO2; clear HB; have HO0 := n0_; have HO1 := n1_; have HO2 := n2_; have HB := n3_; clear n0_ n1_ n2_ n3_; (try clear hb); (try clear hb2); (try clear hk); (try clear hi)) | (go_at_call 52; (with_reducible refine (impl_ValidState.calls k _ _ l1 false _ ?side1 ?side2 A7.out).mono ?_); (case side1 => repeat (first | exact (Kd.V_reads' HO1.out).2.2 | (with_reducible refine Kd.C_alloc ?_ _) | (with_reducible refine Kd.C_drewN ?_ _) | (with_reducible refine Kd.C_drew ?_))); (case side2 => exact (Kd.V_reads' HO1.out).2.1); rintro e w14 ⟨rfl, hb⟩; have n0_ := Aside0.mk (Kd.V_below (vA_ HO0.out) hb); have n1_ := Aside0.mk (Kd.V_below (vA_ HO1.out) hb); have n2_ := Aside0.mk (Kd.V_below (vA_ HO2.out) hb); have n3_ := Aside0.mk (below_step bB_ hb); clear HO0; clear HO1; clear HO2; clear HB; have HO0 := n0_; have HO1 := n1_; have HO2 := n2_; have HB := n3_; clear n0_ n1_ n2_ n3_; (try clear hb); (try clear hb2); (try clear hk); (try clear hi)))
    go_meet
    case rel => exact ⟨_, (true), rs_, H', ⟨by first | omega | exact Nat.le_refl _⟩, ⟨vA_ HO0.out⟩, ⟨vA_ HO1.out⟩, ⟨vA_ HO2.out⟩, ⟨bB_⟩⟩
  ·
   replace c6 := Bool.eq_false_iff.mpr c6
   subst c6
   have H1 : (impl_MergeStates.j0 k l0 l1 l2 true) = some (r1, r2) := by rw [if_neg (show ¬ (false = true) by decide)] at H; exact H
   clear H
   have H := H1
   clear H1
   have H' := Aside0.mk H
   clear H
   go_wp2_with (first | ((with_reducible refine gate_callee (f := 52) rfl ?_); refine goesL_ (some 14) rfl rfl Try.func52 (by kernel_rfl) rfl #[.slice A0 l0.length c0] rfl mT_ ?_; (with_reducible refine (impl_ValidState.calls k _ _ l0 false _ ?side1 ?side2 A5.out).mono ?_); (case side1 => repeat (first | exact (Kd.V_reads' HO0.out).2.2 | (with_reducible refine Kd.C_alloc ?_ _) | (with_reducible refine Kd.C_drewN ?_ _) | (with_reducible refine Kd.C_drew ?_))); (case side2 => exact (Kd.V_reads' HO0.out).2.1); rintro e w15 ⟨rfl, hb⟩; refine ⟨_, rfl, ?_⟩; have n0_ := Aside0.mk (Kd.V_below (vA_ HO0.out) hb); have n1_ := Aside0.mk (Kd.V_below (vA_ HO1.out) hb); have n2_ := Aside0.mk (Kd.V_below (vA_ HO2.out) hb); have n3_ := Aside0.mk (below_step bB_ hb); clear HO0; clear HO1; clear HO2; clear HB; have HO0 := n0_; have HO1 := n1_; have HO2 := n2_; have HB := n3_; clear n0_ n1_ n2_ n3_; (try clear hb); (try clear hb2); (try clear hk); (try clear hi)))
   go_meet
   case rel => exact ⟨_, (true), rs_, H', ⟨by first | omega | exact Nat.le_refl _⟩, ⟨vA_ HO0.out⟩, ⟨vA_ HO1.out⟩, ⟨vA_ HO2.out⟩, ⟨bB_⟩⟩
 case rest =>
  clear HC4
  try clear c1
  try clear c2
  try clear p2
  try clear c5
  try clear c6
  try clear c8
  obtain ⟨kq, x12_3, rfl, HA, HJ3, HO_0, HO_1, HO_2, HB⟩ := hcut
  cases kq with
  | zero => exact absurd HA.out (by simp [impl_MergeStates.j0])
  | succ kj3 =>
   have H := HA.out
   clear HA
   simp only [impl_MergeStates.j0] at H
   by_cases c16 : x12_3 = true
   ·
    subst c16
    have H1 : (some (([] : List (S71)), 1)) = some (r1, r2) := by rw [if_pos rfl] at H; exact H
    clear H
    have H := H1
    clear H1
    simp only [Option.some.injEq, Prod.mk.injEq] at H
    obtain ⟨rfl, rfl⟩ := H
    go_wp2
    go_ret2
    exact ⟨_, er_, by first | exact Kd.R_nil _ _ _ _ _ | exact Kd.N_nil _ _ _ _ _ | exact Kd.V_nil _ _ _ _ _ | exact Kd.Q_nil _ _ _ _ _ | exact Kd.S_nil _ _ _ _ _, bB_⟩
   ·
    replace c16 := Bool.eq_false_iff.mpr c16
    subst c16
    have H1 : ((impl_conflictsOf.f kj3 l0 l1 l2).bind fun t332 => (if (t332.length : Int) > 0 then (some (([] : List (S71)), 6)) else ((impl_namesOf.f (([l0, l1, l2] : List (List (S71))))).bind fun t338 => (impl_MergeStates.l0 kj3 l0 l1 l2 ([] : List (S71)) t338 (t338.length : Int) 0)))) = some (r1, r2) := by rw [if_neg (show ¬ (false = true) by decide)] at H; exact H
    clear H
    have H := H1
    clear H1
    replace H := Option.bind_eq_some_iff.mp H
    obtain ⟨t332, A170, H⟩ := H
    replace H : (if (t332.length : Int) > 0 then (some (([] : List (S71)), 6)) else ((impl_namesOf.f (([l0, l1, l2] : List (List (S71))))).bind fun t338 => (impl_MergeStates.l0 kj3 l0 l1 l2 ([] : List (S71)) t338 (t338.length : Int) 0))) = some (r1, r2) := H
    have A17 := Aside0.mk A170
    clear A170
    by_cases c18 : (t332.length : Int) > 0
    ·
     rw [if_pos c18] at H
     have c18b0 : decide (0 < (t332.length : Int)) = true := decide_eq_true c18
     have c18b1 : decide (0 < t332.length) = true := decide_eq_true (by omega)
     clear c18
     simp only [Option.some.injEq, Prod.mk.injEq] at H
     obtain ⟨rfl, rfl⟩ := H
     go_wp2_with (first | ((with_reducible refine gate_callee (f := 63) rfl ?_); refine goesL_ (some 30) rfl rfl Try.func63 (by kernel_rfl) rfl #[.slice A0 l0.length c0, .slice A1 l1.length c1, .slice A2 l2.length c2] rfl mT_ ?_; (with_reducible refine (impl_conflictsOf.calls kj3 _ _ l0 _ _ l1 _ _ l2 t332 _ ?side1 ?side2 ?side3 ?side4 ?side5 ?side6 A17.out).mono ?_); (case side1 => repeat (first | exact (Kd.V_reads' HO_0.out).2.2 | (with_reducible refine Kd.C_alloc ?_ _) | (with_reducible refine Kd.C_drewN ?_ _) | (with_reducible refine Kd.C_drew ?_))); (case side2 => exact (Kd.V_reads' HO_0.out).2.1); (case side3 => repeat (first | exact (Kd.V_reads' HO_1.out).2.2 | (with_reducible refine Kd.C_alloc ?_ _) | (with_reducible refine Kd.C_drewN ?_ _) | (with_reducible refine Kd.C_drew ?_))); (case side4 => exact (Kd.V_reads' HO_1.out).2.1); (case side5 => repeat (first | exact (Kd.V_reads' HO_2.out).2.2 | (with_reducible refine Kd.C_alloc ?_ _) | (with_reducible refine Kd.C_drewN ?_ _) | (with_reducible refine Kd.C_drew ?_))); (case side6 => exact (Kd.V_reads' HO_2.out).2.1); rintro e w19 ⟨v333, rfl, ho0, hb⟩; refine ⟨_, rfl, ?_⟩; have n0_ := Aside0.mk (Kd.V_elder' (vA_ HO_0.out) (Kd.R_base ho0) hb); have n1_ := Aside0.mk (Kd.V_elder' (vA_ HO_1.out) (Kd.R_base ho0) hb); have n2_ := Aside0.mk (Kd.V_elder' (vA_ HO_2.out) (Kd.R_base ho0) hb); have n3_ := Aside0.mk (Kd.R_lower (Kd.R_newM (M := fun k_ => (w.heap.size ≤ k_)) ho0 (below_size bB_) (fun k_ h_ => h_)) (below_size bB_)); have n4_ := Aside0.mk (below_step bB_ hb); clear HO_0; clear HO_1; clear HO_2; clear HB; have HO_0 := n0_; have HO_1 := n1_; have HO_2 := n2_; have HO334 := n3_; have HB := n4_; clear n0_ n1_ n2_ n3_ n4_; (try clear hb); (try clear hb2); (try clear hk); (try clear hi); (try clear ho0); obtain ⟨Ao20, co20, eo20⟩ := Kd.R_slice HO334.out; subst eo20))
     go_ret2
     exact ⟨_, er_, by first | exact Kd.R_nil _ _ _ _ _ | exact Kd.N_nil _ _ _ _ _ | exact Kd.V_nil _ _ _ _ _ | exact Kd.Q_nil _ _ _ _ _ | exact Kd.S_nil _ _ _ _ _, bB_⟩
    ·
     rw [if_neg c18] at H
     have c18b0 : decide (0 < (t332.length : Int)) = false := decide_eq_false c18
     have c18b1 : decide (0 < t332.length) = false := decide_eq_false (by omega)
     clear c18
     obtain ⟨y335, hy335⟩ : ∃ y_ : List (List (S71)), y_ = (([l0, l1, l2] : List (List (S71)))) := ⟨_, rfl⟩
     replace H : ((impl_namesOf.f y335).bind fun t338 => (impl_MergeStates.l0 kj3 l0 l1 l2 ([] : List (S71)) t338 (t338.length : Int) 0)) = some (r1, r2) := by first | (rw [hy335]; with_reducible exact H) | (have H2_ := (Option.bind_some _ _).symm.trans H; rw [hy335]; with_reducible exact H2_) | (have H2_ := (Option.bind_some _ _).symm.trans H; with_reducible exact H2_) | with_reducible exact H | (rw [hy335]; exact H) | exact H
     have Ny335 := Aside0.mk hy335
     clear hy335
     replace H := Option.bind_eq_some_iff.mp H
     obtain ⟨t338, A210, H⟩ := H
     replace H : (impl_MergeStates.l0 kj3 l0 l1 l2 ([] : List (S71)) t338 (t338.length : Int) 0) = some (r1, r2) := H
     have A21 := Aside0.mk A210
     clear A210
     have H' := Aside0.mk H
     clear H
     go_wp2_with (first | ((with_reducible refine gate_callee (f := 63) rfl ?_); refine goesL_ (some 30) rfl rfl Try.func63 (by kernel_rfl) rfl #[.slice A0 l0.length c0, .slice A1 l1.length c1, .slice A2 l2.length c2] rfl mT_ ?_; (with_reducible refine (impl_conflictsOf.calls kj3 _ _ l0 _ _ l1 _ _ l2 t332 _ ?side1 ?side2 ?side3 ?side4 ?side5 ?side6 A17.out).mono ?_); (case side1 => repeat (first | exact (Kd.V_reads' HO_0.out).2.2 | (with_reducible refine Kd.C_alloc ?_ _) | (with_reducible refine Kd.C_drewN ?_ _) | (with_reducible refine Kd.C_drew ?_))); (case side2 => exact (Kd.V_reads' HO_0.out).2.1); (case side3 => repeat (first | exact (Kd.V_reads' HO_1.out).2.2 | (with_reducible refine Kd.C_alloc ?_ _) | (with_reducible refine Kd.C_drewN ?_ _) | (with_reducible refine Kd.C_drew ?_))); (case side4 => exact (Kd.V_reads' HO_1.out).2.1); (case side5 => repeat (first | exact (Kd.V_reads' HO_2.out).2.2 | (with_reducible refine Kd.C_alloc ?_ _) | (with_reducible refine Kd.C_drewN ?_ _) | (with_reducible refine Kd.C_drew ?_))); (case side6 => exact (Kd.V_reads' HO_2.out).2.1); rintro e w22 ⟨v333, rfl, ho0, hb⟩; refine ⟨_, rfl, ?_⟩; have n0_ := Aside0.mk (Kd.V_elder' (vA_ HO_0.out) (Kd.R_base ho0) hb); have n1_ := Aside0.mk (Kd.V_elder' (vA_ HO_1.out) (Kd.R_base ho0) hb); have n2_ := Aside0.mk (Kd.V_elder' (vA_ HO_2.out) (Kd.R_base ho0) hb); have n3_ := Aside0.mk (Kd.R_lower (Kd.R_newM (M := fun k_ => (w.heap.size ≤ k_)) ho0 (below_size bB_) (fun k_ h_ => h_)) (below_size bB_)); have n4_ := Aside0.mk (below_step bB_ hb); clear HO_0; clear HO_1; clear HO_2; clear HB; have HO_0 := n0_; have HO_1 := n1_; have HO_2 := n2_; have HO334 := n3_; have HB := n4_; clear n0_ n1_ n2_ n3_ n4_; (try clear hb); (try clear hb2); (try clear hk); (try clear hi); (try clear ho0); obtain ⟨Ao23, co23, eo23⟩ := Kd.R_slice HO334.out; subst eo23) | ((with_reducible refine gate_dst (N := 36) rfl ?_); refine Kd.N_lit (Kd.slice 71 k71) _ 26 ?hg (N' := 36) ?hd (xs := ([l0, l1, l2] : List (List (S71)))) (inner := [.slice A0 l0.length c0, .slice A1 l1.length c1, .slice A2 l2.length c2]) (ok := (fun k_ => ((P0_ k_ ∨ P1_ k_ ∨ P2_ k_) ∨ w.heap.size ≤ k_) ∧ some k_ ≠ (.slice Ao23 t332.length co23 : Value).ownBlock)) (okp := (fun k_ => ((P0_ k_ ∨ P1_ k_ ∨ P2_ k_) ∨ w.heap.size ≤ k_) ∧ some k_ ≠ (.slice Ao23 t332.length co23 : Value).ownBlock)) ?hr ?hp (fun _ hk => hk) ((show ∀ k_, w22.heap.size ≤ k_ → (fun k_ => ((P0_ k_ ∨ P1_ k_ ∨ P2_ k_) ∨ w.heap.size ≤ k_) ∧ some k_ ≠ (.slice Ao23 t332.length co23 : Value).ownBlock) k_ from fun k_ hk => ⟨(.inr (Nat.le_trans (below_size bB_) hk)), Kd.fresh' (Kd.R_lt (rA_ HO334.out)) k_ hk⟩) _ (Nat.le_refl _)) (Below.refl _ _) (Nat.le_refl _) (by simp) ?_; (case hd => rfl); (case hg => rfl); (case hr => first | (go_simp; done) | (go_simp; rfl)); (case hp => exact (Reps.one (show Kd.FK (Kd.slice 71 k71) _ _ l0 [.slice A0 l0.length c0] from (Kd.FK_slice_mk (Kd.V_reads' (Kd.V_mono (ok' := (fun k_ => ((P0_ k_ ∨ P1_ k_ ∨ P2_ k_) ∨ w.heap.size ≤ k_) ∧ some k_ ≠ (.slice Ao23 t332.length co23 : Value).ownBlock)) (HO_0.out) (fun k_ hk => ⟨hk.1, hk.2⟩))).2.1 (Kd.V_F (Kd.V_mono (ok' := (fun k_ => ((P0_ k_ ∨ P1_ k_ ∨ P2_ k_) ∨ w.heap.size ≤ k_) ∧ some k_ ≠ (.slice Ao23 t332.length co23 : Value).ownBlock)) (HO_0.out) (fun k_ hk => ⟨hk.1, hk.2⟩))))) (Reps.one (show Kd.FK (Kd.slice 71 k71) _ _ l1 [.slice A1 l1.length c1] from (Kd.FK_slice_mk (Kd.V_reads' (Kd.V_mono (ok' := (fun k_ => ((P0_ k_ ∨ P1_ k_ ∨ P2_ k_) ∨ w.heap.size ≤ k_) ∧ some k_ ≠ (.slice Ao23 t332.length co23 : Value).ownBlock)) (HO_1.out) (fun k_ hk => ⟨hk.1, hk.2⟩))).2.1 (Kd.V_F (Kd.V_mono (ok' := (fun k_ => ((P0_ k_ ∨ P1_ k_ ∨ P2_ k_) ∨ w.heap.size ≤ k_) ∧ some k_ ≠ (.slice Ao23 t332.length co23 : Value).ownBlock)) (HO_1.out) (fun k_ hk => ⟨hk.1, hk.2⟩))))) (Reps.one (show Kd.FK (Kd.slice 71 k71) _ _ l2 [.slice A2 l2.length c2] from (Kd.FK_slice_mk (Kd.V_reads' (Kd.V_mono (ok' := (fun k_ => ((P0_ k_ ∨ P1_ k_ ∨ P2_ k_) ∨ w.heap.size ≤ k_) ∧ some k_ ≠ (.slice Ao23 t332.length co23 : Value).ownBlock)) (HO_2.out) (fun k_ hk => ⟨hk.1, hk.2⟩))).2.1 (Kd.V_F (Kd.V_mono (ok' := (fun k_ => ((P0_ k_ ∨ P1_ k_ ∨ P2_ k_) ∨ w.heap.size ≤ k_) ∧ some k_ ≠ (.slice Ao23 t332.length co23 : Value).ownBlock)) (HO_2.out) (fun k_ hk => ⟨hk.1, hk.2⟩))))) (Reps.none _ _))))); intro v336 w24 ho25 hb hg_ hnew_; clear hg_ hnew_; (first | rw [← Ny335.out] at ho25 | (simp only [Int.reduceToNat] at ho25; rw [← Ny335.out] at ho25)); have n0_ := Aside0.mk (Kd.V_elder' (vA_ HO_0.out) (Kd.N_base ho25) hb); have n1_ := Aside0.mk (Kd.V_elder' (vA_ HO_1.out) (Kd.N_base ho25) hb); have n2_ := Aside0.mk (Kd.V_elder' (vA_ HO_2.out) (Kd.N_base ho25) hb); have n3_ := Aside0.mk (Kd.R_below (rA_ HO334.out) hb); have n4_ := Aside0.mk (Kd.N_lower ho25 (below_size bB_)); have n5_ := Aside0.mk (below_step bB_ hb); clear HO_0; clear HO_1; clear HO_2; clear HO334; clear HB; have HO_0 := n0_; have HO_1 := n1_; have HO_2 := n2_; have HO334 := n3_; have HO337 := n4_; have HB := n5_; clear n0_ n1_ n2_ n3_ n4_ n5_; clear hb ho25; obtain ⟨Ao26, co26, eo26⟩ := Kd.N_slice HO337.out; subst eo26) | ((with_reducible refine gate_callee (f := 65) rfl ?_); refine goesL_ (some 37) rfl rfl Try.func65 (by kernel_rfl) rfl #[.slice Ao26 y335.length co26] rfl mT_ ?_; (with_reducible refine (impl_namesOf.calls _ _ y335 t338 _ ?side1 ?side2 A21.out).mono ?_); (case side1 => repeat (first | exact (Kd.N_reads' HO337.out).2.2 | (with_reducible refine Kd.C_alloc ?_ _) | (with_reducible refine Kd.C_drewN ?_ _) | (with_reducible refine Kd.C_drew ?_))); (case side2 => exact (Kd.N_reads' HO337.out).2.1); rintro e w27 ⟨v339, rfl, ho0, hb⟩; refine ⟨_, rfl, ?_⟩; have n0_ := Aside0.mk (Kd.V_elder' (vA_ HO_0.out) (Kd.R_base ho0) hb); have n1_ := Aside0.mk (Kd.V_elder' (vA_ HO_1.out) (Kd.R_base ho0) hb); have n2_ := Aside0.mk (Kd.V_elder' (vA_ HO_2.out) (Kd.R_base ho0) hb); have n3_ := Aside0.mk (Kd.R_elder' (rA_ HO334.out) (Kd.R_base ho0) hb); have n4_ := Aside0.mk (Kd.N_elder' (nA_ HO337.out) (Kd.R_base ho0) hb); have n5_ := Aside0.mk (Kd.R_lower (Kd.R_new' (Kd.R_newM (M := fun k_ => (w.heap.size ≤ k_)) ho0 (below_size bB_) (fun k_ h_ => h_)) (Kd.R_lt (rA_ HO334.out))) (below_size bB_)); have n6_ := Aside0.mk (below_step bB_ hb); clear HO_0; clear HO_1; clear HO_2; clear HO334; clear HO337; clear HB; have HO_0 := n0_; have HO_1 := n1_; have HO_2 := n2_; have HO334 := n3_; have HO337 := n4_; have HO340 := n5_; have HB := n6_; clear n0_ n1_ n2_ n3_ n4_ n5_ n6_; (try clear hb); (try clear hb2); (try clear hk); (try clear hi); (try clear ho0); obtain ⟨Ao28, co28, eo28⟩ := Kd.R_slice HO340.out; subst eo28))
     go_loopg [8, 39] kj3 (fun kq v8 v39 w' => ∃ (x8_2 : List (S71)) (x39_2 : Int), v39 = .int .i64 x39_2 ∧ Aside0 (impl_MergeStates.l0 kq l0 l1 l2 x8_2 t338 (t338.length : Int) x39_2 = some (r1, r2)) ∧ Aside0 (kq ≤ kj3) ∧ Aside0 (Kd.V k71 71 w' w.heap.size (fun k_ => ((P0_ k_ ∨ P1_ k_ ∨ P2_ k_) ∨ w.heap.size ≤ k_) ∧ some k_ ≠ (v8 : Value).ownBlock ∧ some k_ ≠ ((.slice Ao28 t338.length co28) : Value).ownBlock) (.slice A0 l0.length c0) l0) ∧ Aside0 (Kd.V k71 71 w' w.heap.size (fun k_ => ((P0_ k_ ∨ P1_ k_ ∨ P2_ k_) ∨ w.heap.size ≤ k_) ∧ some k_ ≠ (v8 : Value).ownBlock ∧ some k_ ≠ ((.slice Ao28 t338.length co28) : Value).ownBlock) (.slice A1 l1.length c1) l1) ∧ Aside0 (Kd.V k71 71 w' w.heap.size (fun k_ => ((P0_ k_ ∨ P1_ k_ ∨ P2_ k_) ∨ w.heap.size ≤ k_) ∧ some k_ ≠ (v8 : Value).ownBlock ∧ some k_ ≠ ((.slice Ao28 t338.length co28) : Value).ownBlock) (.slice A2 l2.length c2) l2) ∧ Aside0 (Kd.R k71 71 w' w.heap.size (fun k_ => (w.heap.size ≤ k_)) v8 x8_2) ∧ Aside0 (Kd.R Kd.string 9 w' w.heap.size (fun k_ => (w.heap.size ≤ k_)) (.slice Ao28 t338.length co28) t338) ∧ Aside0 (Below w.heap.size w w'))
     case atStart => exact ⟨(([] : List (S71))), (0), rs_, H', ⟨Nat.le_refl _⟩, ⟨by (with_reducible repeat (first | apply Kd.V_alloc | apply Kd.V_drewN | apply Kd.V_drew)); exact Kd.V_mono HO_0.out (fun _ hk => ⟨hk.1.1.1, ⟨(by simp [Value.ownBlock]), hk.2⟩⟩)⟩, ⟨by (with_reducible repeat (first | apply Kd.V_alloc | apply Kd.V_drewN | apply Kd.V_drew)); exact Kd.V_mono HO_1.out (fun _ hk => ⟨hk.1.1.1, ⟨(by simp [Value.ownBlock]), hk.2⟩⟩)⟩, ⟨by (with_reducible repeat (first | apply Kd.V_alloc | apply Kd.V_drewN | apply Kd.V_drew)); exact Kd.V_mono HO_2.out (fun _ hk => ⟨hk.1.1.1, ⟨(by simp [Value.ownBlock]), hk.2⟩⟩)⟩, ⟨by first | exact Kd.R_nil _ _ _ _ _ | exact Kd.N_nil _ _ _ _ _ | exact Kd.V_nil _ _ _ _ _ | exact Kd.Q_nil _ _ _ _ _ | exact Kd.S_nil _ _ _ _ _⟩, ⟨by (with_reducible repeat (first | apply Kd.R_alloc | apply Kd.R_drewN | apply Kd.R_drew)); exact Kd.R_mono HO340.out (fun _ hk => hk.1.1)⟩, ⟨bB_⟩⟩
     case round =>
      clear H'
      try clear c1
      try clear c2
      try clear p2
      try clear c5
      try clear c6
      try clear c8
      try clear c16
      try clear c18
      try clear c18b0
      try clear c18b1
      try clear c25
      try clear p2
      obtain ⟨x8_2, x39_2, rfl, HA, HK2, HO_0, HO_1, HO_2, HO_8, HO_37, HB⟩ := hrel
      cases gk with
      | zero => exact absurd HA.out (by simp [impl_MergeStates.l0])
      | succ k2 =>
       have H := HA.out
       clear HA
       simp only [impl_MergeStates.l0] at H
       by_cases c29 : x39_2 < (t338.length : Int)
       ·
        rw [if_pos c29] at H
        have c29b0 : decide (x39_2 < (t338.length : Int)) = true := decide_eq_true c29
        clear c29
        by_cases c30 : 0 ≤ x39_2
        ·
         rw [if_pos c30] at H
         have c30b0 : decide (0 ≤ x39_2) = true := decide_eq_true c30
         clear c30
         by_cases c31 : x39_2 < (t338.length : Int)
         ·
          rw [if_pos c31] at H
          have c31b0 : decide (x39_2 < (t338.length : Int)) = true := decide_eq_true c31
          clear c31
          replace H := Option.bind_eq_some_iff.mp H
          obtain ⟨⟨t342, t343⟩, A320, H⟩ := H
          replace H : ((impl_thingAt.f k2 l0 (rdOf ByteArray.empty t338 x39_2)).bind fun bt345 => (if (t342 == bt345.1 && (t343 == bt345.2)) = true then ((impl_thingAt.f k2 l2 (rdOf ByteArray.empty t338 x39_2)).bind fun bt347 => (if bt347.2 = true then (if x8_2.length < 5864062014805 then (impl_MergeStates.l0 k2 l0 l1 l2 (x8_2 ++ [(⟨rdOf ByteArray.empty t338 x39_2, bt347.1⟩ : S71)]) t338 (t338.length : Int) (wrap64 (x39_2 + 1))) else (none)) else (impl_MergeStates.l0 k2 l0 l1 l2 x8_2 t338 (t338.length : Int) (wrap64 (x39_2 + 1))))) else (if t343 = true then (if x8_2.length < 5864062014805 then (impl_MergeStates.l0 k2 l0 l1 l2 (x8_2 ++ [(⟨rdOf ByteArray.empty t338 x39_2, t342⟩ : S71)]) t338 (t338.length : Int) (wrap64 (x39_2 + 1))) else (none)) else (impl_MergeStates.l0 k2 l0 l1 l2 x8_2 t338 (t338.length : Int) (wrap64 (x39_2 + 1)))))) = some (r1, r2) := H
          have A32 := Aside0.mk A320
          clear A320
          replace H := Option.bind_eq_some_iff.mp H
          obtain ⟨⟨t345, t346⟩, A330, H⟩ := H
          replace H : (if (t342 == t345 && (t343 == t346)) = true then ((impl_thingAt.f k2 l2 (rdOf ByteArray.empty t338 x39_2)).bind fun bt347 => (if bt347.2 = true then (if x8_2.length < 5864062014805 then (impl_MergeStates.l0 k2 l0 l1 l2 (x8_2 ++ [(⟨rdOf ByteArray.empty t338 x39_2, bt347.1⟩ : S71)]) t338 (t338.length : Int) (wrap64 (x39_2 + 1))) else (none)) else (impl_MergeStates.l0 k2 l0 l1 l2 x8_2 t338 (t338.length : Int) (wrap64 (x39_2 + 1))))) else (if t343 = true then (if x8_2.length < 5864062014805 then (impl_MergeStates.l0 k2 l0 l1 l2 (x8_2 ++ [(⟨rdOf ByteArray.empty t338 x39_2, t342⟩ : S71)]) t338 (t338.length : Int) (wrap64 (x39_2 + 1))) else (none)) else (impl_MergeStates.l0 k2 l0 l1 l2 x8_2 t338 (t338.length : Int) (wrap64 (x39_2 + 1))))) = some (r1, r2) := H
          have A33 := Aside0.mk A330
          clear A330
          by_cases c34 : (t342 == t345 && (t343 == t346)) = true
          ·
           rw [if_pos c34] at H
           have c34b0 : (t342 == t345 && (t343 == t346)) = true := c34
           (try (have c34b1 : decide (t342 = t345 && (t343 == t346)) = true := by simpa using c34))
           (try (have c34b2 : (t342 == t345 && (t343 == t346)) = true := by simpa using c34))
           clear c34
           replace H := Option.bind_eq_some_iff.mp H
           obtain ⟨⟨t347, t348⟩, A350, H⟩ := H
           replace H : (if t348 = true then (if x8_2.length < 5864062014805 then (impl_MergeStates.l0 k2 l0 l1 l2 (x8_2 ++ [(⟨rdOf ByteArray.empty t338 x39_2, t347⟩ : S71)]) t338 (t338.length : Int) (wrap64 (x39_2 + 1))) else (none)) else (impl_MergeStates.l0 k2 l0 l1 l2 x8_2 t338 (t338.length : Int) (wrap64 (x39_2 + 1)))) = some (r1, r2) := H
           have A35 := Aside0.mk A350
           clear A350
           by_cases c36 : t348 = true
           ·
            subst c36
            (try (have c34b0_s := c34b0; simp only [Bool.true_beq, Bool.false_beq, beq_true, beq_false] at c34b0_s))
            have H1 : (if x8_2.length < 5864062014805 then (impl_MergeStates.l0 k2 l0 l1 l2 (x8_2 ++ [(⟨rdOf ByteArray.empty t338 x39_2, t347⟩ : S71)]) t338 (t338.length : Int) (wrap64 (x39_2 + 1))) else (none)) = some (r1, r2) := by rw [if_pos rfl] at H; exact H
            clear H
            have H := H1
            clear H1
            by_cases c37 : x8_2.length < 5864062014805
            ·
             rw [if_pos c37] at H
             have LMc37 := Aside0.mk c37
             clear c37
             obtain ⟨y349, hy349⟩ : ∃ y_ : List (S71), y_ = (x8_2 ++ [(⟨rdOf ByteArray.empty t338 x39_2, t347⟩ : S71)]) := ⟨_, rfl⟩
             replace H : (impl_MergeStates.l0 k2 l0 l1 l2 y349 t338 (t338.length : Int) (wrap64 (x39_2 + 1))) = some (r1, r2) := by first | (rw [hy349]; with_reducible exact H) | (have H2_ := (Option.bind_some _ _).symm.trans H; rw [hy349]; with_reducible exact H2_) | (have H2_ := (Option.bind_some _ _).symm.trans H; with_reducible exact H2_) | with_reducible exact H | (rw [hy349]; exact H) | exact H
             have Ny349 := Aside0.mk hy349
             clear hy349
             have H' := Aside0.mk H
             clear H
             have p341 : 0 ≤ (x39_2 : Int) := of_decide_eq_true as_
             have q341 : x39_2 < (t338.length : Int) := of_decide_eq_true as_
             obtain ⟨ad341, e341, hx341_0⟩ := Kd.at_string (Kd.R_reads' HO_37.out).2.2 x39_2 p341 q341
             cases e341
             replace p341 := eq_true p341
             replace q341 := eq_true q341
             try go_wp2_with (first | ((with_reducible refine gate_callee (f := 66) rfl ?_); refine goesL_ (some 45) rfl rfl Try.func66 (by kernel_rfl) rfl #[.slice A1 l1.length c1, .string (rdOf ByteArray.empty t338 x39_2)] rfl mT_ ?_; (with_reducible refine (impl_thingAt.calls k2 _ _ l1 (rdOf ByteArray.empty t338 x39_2) t342 t343 _ ?side1 ?side2 A32.out).mono ?_); (case side1 => repeat (first | exact (Kd.V_reads' HO_1.out).2.2 | (with_reducible refine Kd.C_alloc ?_ _) | (with_reducible refine Kd.C_drewN ?_ _) | (with_reducible refine Kd.C_drew ?_))); (case side2 => exact (Kd.V_reads' HO_1.out).2.1); rintro e w38 ⟨rfl, hb⟩; refine ⟨_, rfl, ?_⟩; have n0_ := Aside0.mk (Kd.V_below (vA_ HO_0.out) hb); have n1_ := Aside0.mk (Kd.V_below (vA_ HO_1.out) hb); have n2_ := Aside0.mk (Kd.V_below (vA_ HO_2.out) hb); have n3_ := Aside0.mk (Kd.R_below (rA_ HO_8.out) hb); have n4_ := Aside0.mk (Kd.R_below (rA_ HO_37.out) hb); have n5_ := Aside0.mk (below_step bB_ hb); clear HO_0; clear HO_1; clear HO_2; clear HO_8; clear HO_37; clear HB; have HO_0 := n0_; have HO_1 := n1_; have HO_2 := n2_; have HO_8 := n3_; have HO_37 := n4_; have HB := n5_; clear n0_ n1_ n2_ n3_ n4_ n5_; (try clear hb); (try clear hb2); (try clear hk); (try clear hi)) | ((with_reducible refine gate_dst (N := 11) rfl ?_); refine box_event ?hg (N := 11) ?hd (cs := #[.int .i64 0, .bool false]) (t := 93) ?hr ?_; (case hd => rfl); (case hg => rfl); (case hr => first | (go_simp; done) | (go_simp; rfl)); intro gb344 hg w39 hbox hb; have n0_ := Aside0.mk (Kd.V_below (Kd.V_elderB (vA_ HO_0.out) gb344 (Nat.le_of_eq hg.symm)) hb); have n1_ := Aside0.mk (Kd.V_below (Kd.V_elderB (vA_ HO_1.out) gb344 (Nat.le_of_eq hg.symm)) hb); have n2_ := Aside0.mk (Kd.V_below (Kd.V_elderB (vA_ HO_2.out) gb344 (Nat.le_of_eq hg.symm)) hb); have n3_ := Aside0.mk (Kd.R_below (rA_ HO_8.out) hb); have n4_ := Aside0.mk (Kd.R_below (rA_ HO_37.out) hb); have n5_ := Aside0.mk (below_step bB_ hb); have n6_ := Aside0.mk (hbox); have n7_ := Aside0.mk ((by rw [hg]; exact (below_size bB_) : w.heap.size ≤ gb344)); have n8_ := Aside0.mk ((by rw [hg]; exact (below_size bB_) : w.heap.size ≤ gb344)); clear HO_0; clear HO_1; clear HO_2; clear HO_8; clear HO_37; clear HB; have HO_0 := n0_; have HO_1 := n1_; have HO_2 := n2_; have HO_8 := n3_; have HO_37 := n4_; have HB := n5_; have BK344 := n6_; have GW344 := n7_; have GE344 := n8_; clear n0_ n1_ n2_ n3_ n4_ n5_ n6_ n7_ n8_; clear hb hbox hg; have hcz40_0 : w39.cell? ⟨gb344, 0, none⟩ = some (.int .i64 0) := (blk_cell BK344.out 0).trans rfl; have hcz40_1 : w39.cell? ⟨gb344, 1, none⟩ = some (.bool false) := (blk_cell BK344.out 1).trans rfl; have hfz40_0 := blk_frozen BK344.out 0; have hfz40_1 := blk_frozen BK344.out 1))
             have n0_ : Aside0 (Kd.V k71 71 ((w39.setCell ⟨gb344, 0, none⟩ (.int .i64 t342)).setCell ⟨gb344, 1, none⟩ (.bool t343)) w.heap.size (fun k_ => ((P0_ k_ ∨ P1_ k_ ∨ P2_ k_) ∨ w.heap.size ≤ k_) ∧ some k_ ≠ (u8 : Value).ownBlock ∧ some k_ ≠ (.slice (some ad341) t338.length co28 : Value).ownBlock ∧ k_ ≠ gb344) (.slice A0 l0.length c0) l0) := ⟨by (with_reducible repeat (first | apply Kd.V_alloc | apply Kd.V_drewN | apply Kd.V_drew)); exact Kd.V_mono (Kd.V_far (p := ⟨gb344, 1, none⟩) (Kd.V_far (p := ⟨gb344, 0, none⟩) (Kd.V_mono HO_0.out (fun k_ hk => (⟨hk, hk.2⟩ : _ ∧ k_ ≠ gb344))) (fun _ hk => hk.2) (.int .i64 t342)) (fun _ hk => hk.2) (.bool t343)) (fun _ hk => ⟨hk.1.1.1, ⟨hk.1.1.2.1, ⟨hk.1.1.2.2, hk.1.2⟩⟩⟩)⟩
             have n1_ : Aside0 (Kd.V k71 71 ((w39.setCell ⟨gb344, 0, none⟩ (.int .i64 t342)).setCell ⟨gb344, 1, none⟩ (.bool t343)) w.heap.size (fun k_ => ((P0_ k_ ∨ P1_ k_ ∨ P2_ k_) ∨ w.heap.size ≤ k_) ∧ some k_ ≠ (u8 : Value).ownBlock ∧ some k_ ≠ (.slice (some ad341) t338.length co28 : Value).ownBlock ∧ k_ ≠ gb344) (.slice A1 l1.length c1) l1) := ⟨by (with_reducible repeat (first | apply Kd.V_alloc | apply Kd.V_drewN | apply Kd.V_drew)); exact Kd.V_mono (Kd.V_far (p := ⟨gb344, 1, none⟩) (Kd.V_far (p := ⟨gb344, 0, none⟩) (Kd.V_mono HO_1.out (fun k_ hk => (⟨hk, hk.2⟩ : _ ∧ k_ ≠ gb344))) (fun _ hk => hk.2) (.int .i64 t342)) (fun _ hk => hk.2) (.bool t343)) (fun _ hk => ⟨hk.1.1.1, ⟨hk.1.1.2.1, ⟨hk.1.1.2.2, hk.1.2⟩⟩⟩)⟩
             have n2_ : Aside0 (Kd.V k71 71 ((w39.setCell ⟨gb344, 0, none⟩ (.int .i64 t342)).setCell ⟨gb344, 1, none⟩ (.bool t343)) w.heap.size (fun k_ => ((P0_ k_ ∨ P1_ k_ ∨ P2_ k_) ∨ w.heap.size ≤ k_) ∧ some k_ ≠ (u8 : Value).ownBlock ∧ some k_ ≠ (.slice (some ad341) t338.length co28 : Value).ownBlock ∧ k_ ≠ gb344) (.slice A2 l2.length c2) l2) := ⟨by (with_reducible repeat (first | apply Kd.V_alloc | apply Kd.V_drewN | apply Kd.V_drew)); exact Kd.V_mono (Kd.V_far (p := ⟨gb344, 1, none⟩) (Kd.V_far (p := ⟨gb344, 0, none⟩) (Kd.V_mono HO_2.out (fun k_ hk => (⟨hk, hk.2⟩ : _ ∧ k_ ≠ gb344))) (fun _ hk => hk.2) (.int .i64 t342)) (fun _ hk => hk.2) (.bool t343)) (fun _ hk => ⟨hk.1.1.1, ⟨hk.1.1.2.1, ⟨hk.1.1.2.2, hk.1.2⟩⟩⟩)⟩
             have n3_ : Aside0 (Kd.R k71 71 ((w39.setCell ⟨gb344, 0, none⟩ (.int .i64 t342)).setCell ⟨gb344, 1, none⟩ (.bool t343)) w.heap.size (fun k_ => (w.heap.size ≤ k_)) u8 x8_2) := ⟨by (with_reducible repeat (first | apply Kd.R_alloc | apply Kd.R_drewN | apply Kd.R_drew)); exact Kd.R_mono (Kd.R_far (p := ⟨gb344, 1, none⟩) (Kd.R_far (p := ⟨gb344, 0, none⟩) (Kd.R_types HO_8.out BK344.out (by decide)) (fun _ hk => hk.2) (.int .i64 t342)) (fun _ hk => hk.2) (.bool t343)) (fun _ hk => hk.1)⟩
             have n4_ : Aside0 (Kd.R Kd.string 9 ((w39.setCell ⟨gb344, 0, none⟩ (.int .i64 t342)).setCell ⟨gb344, 1, none⟩ (.bool t343)) w.heap.size (fun k_ => (w.heap.size ≤ k_)) (.slice (some ad341) t338.length co28) t338) := ⟨by (with_reducible repeat (first | apply Kd.R_alloc | apply Kd.R_drewN | apply Kd.R_drew)); exact Kd.R_mono (Kd.R_far (p := ⟨gb344, 1, none⟩) (Kd.R_far (p := ⟨gb344, 0, none⟩) (Kd.R_types HO_37.out BK344.out (by decide)) (fun _ hk => hk.2) (.int .i64 t342)) (fun _ hk => hk.2) (.bool t343)) (fun _ hk => hk.1)⟩
             have n5_ : Aside0 (((w39.setCell ⟨gb344, 0, none⟩ (.int .i64 t342)).setCell ⟨gb344, 1, none⟩ (.bool t343)).heap[gb344]? = some (.cells #[.int .i64 t342, .bool t343] 93 (0, 0))) := ⟨by (with_reducible repeat (first | refine blk_drewN ?_ _ | refine blk_drew ?_ | refine blk_alloc ?_ _)); refine blk_put (cs := #[.int .i64 t342, .bool false]) ?_ 1 _ rfl; (with_reducible repeat (first | refine blk_drewN ?_ _ | refine blk_drew ?_ | refine blk_alloc ?_ _)); refine blk_put (cs := #[.int .i64 0, .bool false]) ?_ 0 _ rfl; (with_reducible repeat (first | refine blk_drewN ?_ _ | refine blk_drew ?_ | refine blk_alloc ?_ _)); exact BK344.out⟩
             have n6_ : Aside0 (Below w.heap.size w ((w39.setCell ⟨gb344, 0, none⟩ (.int .i64 t342)).setCell ⟨gb344, 1, none⟩ (.bool t343))) := ⟨bC_ GE344.out⟩
             (try clear HO_0)
             (try clear HO_1)
             (try clear HO_2)
             (try clear HO_8)
             (try clear HO_37)
             (try clear BK344)
             (try clear HB)
             generalize ((w39.setCell ⟨gb344, 0, none⟩ (.int .i64 t342)).setCell ⟨gb344, 1, none⟩ (.bool t343)) = w41 at n0_ n1_ n2_ n3_ n4_ n5_ n6_ ⊢
             have HO_0 := n0_
             have HO_1 := n1_
             have HO_2 := n2_
             have HO_8 := n3_
             have HO_37 := n4_
             have BK344 := n5_
             have HB := n6_
             clear n0_ n1_ n2_ n3_ n4_ n5_ n6_
             have n0_ := Aside0.mk (Kd.V_drew HO_0.out)
             have n1_ := Aside0.mk (Kd.V_drew HO_1.out)
             have n2_ := Aside0.mk (Kd.V_drew HO_2.out)
             have n3_ := Aside0.mk (Kd.R_drew HO_8.out)
             have n4_ := Aside0.mk (Kd.R_drew HO_37.out)
             have n5_ := Aside0.mk (blk_drew BK344.out)
             have n6_ := Aside0.mk (below_drew1 HB.out)
             clear HO_0
             clear HO_1
             clear HO_2
             clear HO_8
             clear HO_37
             clear BK344
             clear HB
             have HO_0 := n0_
             have HO_1 := n1_
             have HO_2 := n2_
             have HO_8 := n3_
             have HO_37 := n4_
             have BK344 := n5_
             have HB := n6_
             clear n0_ n1_ n2_ n3_ n4_ n5_ n6_
             refine start_ (n := 5) (S := fun w' => w'.cell? ⟨gb344, 0, none⟩ = some (.int .i64 t342) ∧ w'.cell? ⟨gb344, 1, none⟩ = some (.bool t343)) (ds := []) #[false, false, false, false, false] (by kernel_rfl) rfl rfl ⟨(blk_cell BK344.out 0).trans rfl, (blk_cell BK344.out 1).trans rfl⟩ (fun hHeld => ?_)
             generalize w41.drew = w42 at HO_0 HO_1 HO_2 HO_8 HO_37 BK344 HB hHeld ⊢
             refine pure_ (i := 1) (N := some 47) (v := ?_) (a' := ?_) #[false, true, false, false, false] rfl rfl (by kernel_rfl) (fun _ _ _ h => h) (Or.inl ⟨by rfl, ?_⟩) ?_ ?_
             rotate_left
             ·
              intro w'
              go_simp
              with_reducible rfl
             rotate_left
             ·
              simp only [Act.put, q1_, q2_, q3_, i64_w, i32_w]
              rfl
             refine pure_ (i := 2) (N := some 48) (v := ?_) (a' := ?_) #[false, true, true, false, false] rfl rfl (by kernel_rfl) (fun _ _ _ h => h) (Or.inl ⟨by rfl, ?_⟩) ?_ ?_
             rotate_left
             ·
              intro w'
              go_simp
              with_reducible rfl
             rotate_left
             ·
              simp only [Act.put, q1_, q2_, q3_, i64_w, i32_w]
              rfl
             refine take_ (i := 0) (N := some 46) (v := ?_) (a' := ?_) #[true, true, true, false, false] rfl rfl (by kernel_rfl) (fun _ _ _ h => h) (Or.inl ⟨by rfl, ?_⟩) hHeld ?_ ?_
             rotate_left
             ·
              rintro w' ⟨s0, s1⟩
              go_simp
              with_reducible rfl
             rotate_left
             ·
              simp only [Act.put, q1_, q2_, q3_, i64_w, i32_w]
              rfl
             refine one_ (i := 3) (N := some 49) #[true, true, true, true, false] rfl rfl (by kernel_rfl) (by decide) (fun K hK => ?_)
             refine goes_ Try.func66 (by kernel_rfl) rfl #[.slice A0 l0.length c0, .string (rdOf ByteArray.empty t338 x39_2)] (by rfl) rfl rfl mT_ ?_
             with_reducible refine (impl_thingAt.calls k2 _ _ l0 (rdOf ByteArray.empty t338 x39_2) t345 t346 _ ?side1 ?side2 A33.out).mono ?_
             (case side1 => repeat (first | exact (Kd.V_reads' HO_0.out).2.2 | (with_reducible refine Kd.C_alloc ?_ _) | (with_reducible refine Kd.C_drewN ?_ _) | (with_reducible refine Kd.C_drew ?_)))
             (case side2 => exact (Kd.V_reads' HO_0.out).2.1)
             rintro e w43 ⟨rfl, hb⟩
             refine ⟨_, rfl, ?_⟩
             have n0_ := Aside0.mk (Kd.V_below (vA_ HO_0.out) hb)
             have n1_ := Aside0.mk (Kd.V_below (vA_ HO_1.out) hb)
             have n2_ := Aside0.mk (Kd.V_below (vA_ HO_2.out) hb)
             have n3_ := Aside0.mk (Kd.R_below (rA_ HO_8.out) hb)
             have n4_ := Aside0.mk (Kd.R_below (rA_ HO_37.out) hb)
             have n5_ := Aside0.mk (blk_below (g := gb344) (o := .cells #[.int .i64 t342, .bool t343] 93 (0, 0)) (bK_ BK344.out) hb)
             have n6_ := Aside0.mk (below_step (bC_ GE344.out) hb)
             clear HO_0
             clear HO_1
             clear HO_2
             clear HO_8
             clear HO_37
             clear BK344
             clear HB
             have HO_0 := n0_
             have HO_1 := n1_
             have HO_2 := n2_
             have HO_8 := n3_
             have HO_37 := n4_
             have BK344 := n5_
             have HB := n6_
             clear n0_ n1_ n2_ n3_ n4_ n5_ n6_
             (try clear hb)
             (try clear hb2)
             (try clear hk)
             (try clear hi)
             refine hK.out _ _ ⟨(blk_cell BK344.out 0).trans rfl, (blk_cell BK344.out 1).trans rfl⟩ (fun hHeld => ?_)
             clear hK K
             refine norm_ (a' := ?_) ?_ ?_
             rotate_left
             ·
              show Act.put _ (some 49) _ = _
              simp only [Act.put, q1_, q2_, q3_, i64_w, i32_w]
              rfl
             refine pure_ (i := 4) (N := some 50) (v := ?_) (a' := ?_) #[true, true, true, true, true] rfl rfl (by kernel_rfl) (fun _ _ _ h => h) (Or.inl ⟨by rfl, ?_⟩) ?_ ?_
             rotate_left
             ·
              intro w'
              go_simp
              with_reducible rfl
             rotate_left
             ·
              simp only [Act.put, q1_, q2_, q3_, i64_w, i32_w]
              rfl
             refine done_ (by kernel_rfl) ?_
             try go_wp2_with (first | ((with_reducible refine gate_callee (f := 66) rfl ?_); refine goesL_ (some 53) rfl rfl Try.func66 (by kernel_rfl) rfl #[.slice A2 l2.length c2, .string (rdOf ByteArray.empty t338 x39_2)] rfl mT_ ?_; (with_reducible refine (impl_thingAt.calls k2 _ _ l2 (rdOf ByteArray.empty t338 x39_2) t347 true _ ?side1 ?side2 A35.out).mono ?_); (case side1 => repeat (first | exact (Kd.V_reads' HO_2.out).2.2 | (with_reducible refine Kd.C_alloc ?_ _) | (with_reducible refine Kd.C_drewN ?_ _) | (with_reducible refine Kd.C_drew ?_))); (case side2 => exact (Kd.V_reads' HO_2.out).2.1); rintro e w44 ⟨rfl, hb⟩; refine ⟨_, rfl, ?_⟩; have n0_ := Aside0.mk (Kd.V_below (vA_ HO_0.out) hb); have n1_ := Aside0.mk (Kd.V_below (vA_ HO_1.out) hb); have n2_ := Aside0.mk (Kd.V_below (vA_ HO_2.out) hb); have n3_ := Aside0.mk (Kd.R_below (rA_ HO_8.out) hb); have n4_ := Aside0.mk (Kd.R_below (rA_ HO_37.out) hb); have n5_ := Aside0.mk (blk_below (g := gb344) (o := .cells #[.int .i64 t342, .bool t343] 93 (0, 0)) (bK_ BK344.out) hb); have n6_ := Aside0.mk (below_step (bC_ GE344.out) hb); clear HO_0; clear HO_1; clear HO_2; clear HO_8; clear HO_37; clear BK344; clear HB; have HO_0 := n0_; have HO_1 := n1_; have HO_2 := n2_; have HO_8 := n3_; have HO_37 := n4_; have BK344 := n5_; have HB := n6_; clear n0_ n1_ n2_ n3_ n4_ n5_ n6_; (try clear hb); (try clear hb2); (try clear hk); (try clear hi); have hcz45_0 : w44.cell? ⟨gb344, 0, none⟩ = some (.int .i64 t342) := (blk_cell BK344.out 0).trans rfl; have hcz45_1 : w44.cell? ⟨gb344, 1, none⟩ = some (.bool t343) := (blk_cell BK344.out 1).trans rfl; have hfz45_0 := blk_frozen BK344.out 0; have hfz45_1 := blk_frozen BK344.out 1) | ((with_reducible refine gate_builtin (b := .append) (xs := #[.tmp 56, .tmp 61]) rfl ?_); at_builtin; refine Kd.R_append k71 (w0 := w) w.heap.size rfl (.tmp 56) (.tmp 61) 26 71 (.agg #[(.string ⟨#[]⟩), (.int .i64 0)]) 24 rfl Try.underlying26 info71 rfl (by decide) (by omega) u8 x8_2 (⟨rdOf ByteArray.empty t338 x39_2, t347⟩ : S71) [.string (rdOf ByteArray.empty t338 x39_2), .int .i64 t347] (fun k_ => (w.heap.size ≤ k_)) (fun _ => False) rfl (by first | (go_simp; done) | (go_simp; rfl)) ?aP (fun _ hk => hk.elim) ?aF ?aO ?aB ?aS ?aL ?_; (case aP => exact k71_mkM _ _ _ (⟨rdOf ByteArray.empty t338 x39_2, t347⟩ : S71)); (case aB => exact (bC_ GE344.out)); (case aF => exact (fun k_ hk => (Nat.le_trans (below_size (bC_ GE344.out)) hk))); (case aO => exact (by (with_reducible repeat (first | apply Kd.R_alloc | apply Kd.R_drewN | apply Kd.R_drew)); exact Kd.R_mono (Kd.R_far (p := ⟨gb344, 1, none⟩) (Kd.R_far (p := ⟨gb344, 0, none⟩) (Kd.R_types HO_8.out BK344.out (by decide)) (fun _ hk => hk.2) (.int .i64 t347)) (fun _ hk => hk.2) (.bool true)) (fun _ hk => hk.1))); (case aS => exact (below_size (bC_ GE344.out))); (case aL => have := LMc37.out; omega); intro v350 w46 ho hb hg hat; rw [← Ny349.out] at ho; have n0_ := Aside0.mk (Kd.V_afterv (ok := (fun k_ => ((P0_ k_ ∨ P1_ k_ ∨ P2_ k_) ∨ w.heap.size ≤ k_) ∧ some k_ ≠ (.slice (some ad341) t338.length co28 : Value).ownBlock ∧ k_ ≠ gb344)) (by (with_reducible repeat (first | apply Kd.V_alloc | apply Kd.V_drewN | apply Kd.V_drew)); exact Kd.V_mono (Kd.V_far (p := ⟨gb344, 1, none⟩) (Kd.V_far (p := ⟨gb344, 0, none⟩) (Kd.V_mono HO_0.out (fun k_ hk => (⟨hk, hk.2.2.2⟩ : _ ∧ k_ ≠ gb344))) (fun _ hk => hk.2) (.int .i64 t347)) (fun _ hk => hk.2) (.bool true)) (fun _ hk => ⟨⟨hk.1.1, ⟨hk.1.2.2.1, hk.1.2.2.2⟩⟩, hk.1.2.1⟩)) hg hat); have n1_ := Aside0.mk (Kd.V_afterv (ok := (fun k_ => ((P0_ k_ ∨ P1_ k_ ∨ P2_ k_) ∨ w.heap.size ≤ k_) ∧ some k_ ≠ (.slice (some ad341) t338.length co28 : Value).ownBlock ∧ k_ ≠ gb344)) (by (with_reducible repeat (first | apply Kd.V_alloc | apply Kd.V_drewN | apply Kd.V_drew)); exact Kd.V_mono (Kd.V_far (p := ⟨gb344, 1, none⟩) (Kd.V_far (p := ⟨gb344, 0, none⟩) (Kd.V_mono HO_1.out (fun k_ hk => (⟨hk, hk.2.2.2⟩ : _ ∧ k_ ≠ gb344))) (fun _ hk => hk.2) (.int .i64 t347)) (fun _ hk => hk.2) (.bool true)) (fun _ hk => ⟨⟨hk.1.1, ⟨hk.1.2.2.1, hk.1.2.2.2⟩⟩, hk.1.2.1⟩)) hg hat); have n2_ := Aside0.mk (Kd.V_afterv (ok := (fun k_ => ((P0_ k_ ∨ P1_ k_ ∨ P2_ k_) ∨ w.heap.size ≤ k_) ∧ some k_ ≠ (.slice (some ad341) t338.length co28 : Value).ownBlock ∧ k_ ≠ gb344)) (by (with_reducible repeat (first | apply Kd.V_alloc | apply Kd.V_drewN | apply Kd.V_drew)); exact Kd.V_mono (Kd.V_far (p := ⟨gb344, 1, none⟩) (Kd.V_far (p := ⟨gb344, 0, none⟩) (Kd.V_mono HO_2.out (fun k_ hk => (⟨hk, hk.2.2.2⟩ : _ ∧ k_ ≠ gb344))) (fun _ hk => hk.2) (.int .i64 t347)) (fun _ hk => hk.2) (.bool true)) (fun _ hk => ⟨⟨hk.1.1, ⟨hk.1.2.2.1, hk.1.2.2.2⟩⟩, hk.1.2.1⟩)) hg hat); have n3_ := Aside0.mk (Kd.R_over' (by (with_reducible repeat (first | apply Kd.R_alloc | apply Kd.R_drewN | apply Kd.R_drew)); exact (Kd.R_mono (Kd.R_far (p := ⟨gb344, 1, none⟩) (Kd.R_far (p := ⟨gb344, 0, none⟩) (Kd.R_types HO_37.out BK344.out (by decide)) (fun _ hk => hk.2) (.int .i64 t347)) (fun _ hk => hk.2) (.bool true)) (fun _ h_ => h_.1))) (Kd.R_typed (by (with_reducible repeat (first | apply Kd.R_alloc | apply Kd.R_drewN | apply Kd.R_drew)); exact (Kd.R_mono (Kd.R_far (p := ⟨gb344, 1, none⟩) (Kd.R_far (p := ⟨gb344, 0, none⟩) (Kd.R_types HO_8.out BK344.out (by decide)) (fun _ hk => hk.2) (.int .i64 t347)) (fun _ hk => hk.2) (.bool true)) (fun _ h_ => h_.1)))) (by decide) hg); have n4_ := Aside0.mk (blk_grown (g := gb344) (o := .cells #[.int .i64 t347, .bool true] 93 (0, 0)) (by (with_reducible repeat (first | refine blk_drewN ?_ _ | refine blk_drew ?_ | refine blk_alloc ?_ _)); refine blk_put (cs := #[.int .i64 t347, .bool t343]) ?_ 1 _ rfl; (with_reducible repeat (first | refine blk_drewN ?_ _ | refine blk_drew ?_ | refine blk_alloc ?_ _)); refine blk_put (cs := #[.int .i64 t342, .bool t343]) ?_ 0 _ rfl; (with_reducible repeat (first | refine blk_drewN ?_ _ | refine blk_drew ?_ | refine blk_alloc ?_ _)); exact BK344.out) hg (Kd.R_ne HO_8.out BK344.out (by decide))); have n5_ := Aside0.mk (hb); have n6_ := Aside0.mk (ho); clear HO_0; clear HO_1; clear HO_2; clear HO_37; clear BK344; clear HB; clear HO_8; have HO_0 := n0_; have HO_1 := n1_; have HO_2 := n2_; have HO_37 := n3_; have BK344 := n4_; have HB := n5_; have HO351 := n6_; clear n0_ n1_ n2_ n3_ n4_ n5_ n6_; clear ho hb hg hat))
             go_roundg k2
             case measure => have := HJ3.out; have := HK2.out; omega
             case rel => exact ⟨(y349), (wrap64 (x39_2 + 1)), rs_, H', ⟨by have := HJ3.out; have := HK2.out; omega⟩, ⟨by (with_reducible repeat (first | apply Kd.V_alloc | apply Kd.V_drewN | apply Kd.V_drew)); exact Kd.V_mono HO_0.out (fun _ hk => ⟨hk.1.1, ⟨hk.2, hk.1.2.1⟩⟩)⟩, ⟨by (with_reducible repeat (first | apply Kd.V_alloc | apply Kd.V_drewN | apply Kd.V_drew)); exact Kd.V_mono HO_1.out (fun _ hk => ⟨hk.1.1, ⟨hk.2, hk.1.2.1⟩⟩)⟩, ⟨by (with_reducible repeat (first | apply Kd.V_alloc | apply Kd.V_drewN | apply Kd.V_drew)); exact Kd.V_mono HO_2.out (fun _ hk => ⟨hk.1.1, ⟨hk.2, hk.1.2.1⟩⟩)⟩, ⟨rA_ HO351.out⟩, ⟨rA_ HO_37.out⟩, ⟨bC_ GE344.out⟩⟩
            ·
             rw [if_neg c37] at H
             exact absurd H (by simp)
           ·
            replace c36 := Bool.eq_false_iff.mpr c36
            subst c36
            (try (have c34b0_s := c34b0; simp only [Bool.true_beq, Bool.false_beq, beq_true, beq_false] at c34b0_s))
            have H1 : (impl_MergeStates.l0 k2 l0 l1 l2 x8_2 t338 (t338.length : Int) (wrap64 (x39_2 + 1))) = some (r1, r2) := by rw [if_neg (show ¬ (false = true) by decide)] at H; exact H
            clear H
            have H := H1
            clear H1
            have H' := Aside0.mk H
            clear H
            have p341 : 0 ≤ (x39_2 : Int) := of_decide_eq_true as_
            have q341 : x39_2 < (t338.length : Int) := of_decide_eq_true as_
            obtain ⟨ad341, e341, hx341_0⟩ := Kd.at_string (Kd.R_reads' HO_37.out).2.2 x39_2 p341 q341
            cases e341
            replace p341 := eq_true p341
            replace q341 := eq_true q341
            try go_wp2_with (first | ((with_reducible refine gate_callee (f := 66) rfl ?_); refine goesL_ (some 45) rfl rfl Try.func66 (by kernel_rfl) rfl #[.slice A1 l1.length c1, .string (rdOf ByteArray.empty t338 x39_2)] rfl mT_ ?_; (with_reducible refine (impl_thingAt.calls k2 _ _ l1 (rdOf ByteArray.empty t338 x39_2) t342 t343 _ ?side1 ?side2 A32.out).mono ?_); (case side1 => repeat (first | exact (Kd.V_reads' HO_1.out).2.2 | (with_reducible refine Kd.C_alloc ?_ _) | (with_reducible refine Kd.C_drewN ?_ _) | (with_reducible refine Kd.C_drew ?_))); (case side2 => exact (Kd.V_reads' HO_1.out).2.1); rintro e w47 ⟨rfl, hb⟩; refine ⟨_, rfl, ?_⟩; have n0_ := Aside0.mk (Kd.V_below (vA_ HO_0.out) hb); have n1_ := Aside0.mk (Kd.V_below (vA_ HO_1.out) hb); have n2_ := Aside0.mk (Kd.V_below (vA_ HO_2.out) hb); have n3_ := Aside0.mk (Kd.R_below (rA_ HO_8.out) hb); have n4_ := Aside0.mk (Kd.R_below (rA_ HO_37.out) hb); have n5_ := Aside0.mk (below_step bB_ hb); clear HO_0; clear HO_1; clear HO_2; clear HO_8; clear HO_37; clear HB; have HO_0 := n0_; have HO_1 := n1_; have HO_2 := n2_; have HO_8 := n3_; have HO_37 := n4_; have HB := n5_; clear n0_ n1_ n2_ n3_ n4_ n5_; (try clear hb); (try clear hb2); (try clear hk); (try clear hi)) | ((with_reducible refine gate_dst (N := 11) rfl ?_); refine box_event ?hg (N := 11) ?hd (cs := #[.int .i64 0, .bool false]) (t := 93) ?hr ?_; (case hd => rfl); (case hg => rfl); (case hr => first | (go_simp; done) | (go_simp; rfl)); intro gb344 hg w48 hbox hb; have n0_ := Aside0.mk (Kd.V_below (Kd.V_elderB (vA_ HO_0.out) gb344 (Nat.le_of_eq hg.symm)) hb); have n1_ := Aside0.mk (Kd.V_below (Kd.V_elderB (vA_ HO_1.out) gb344 (Nat.le_of_eq hg.symm)) hb); have n2_ := Aside0.mk (Kd.V_below (Kd.V_elderB (vA_ HO_2.out) gb344 (Nat.le_of_eq hg.symm)) hb); have n3_ := Aside0.mk (Kd.R_below (rA_ HO_8.out) hb); have n4_ := Aside0.mk (Kd.R_below (rA_ HO_37.out) hb); have n5_ := Aside0.mk (below_step bB_ hb); have n6_ := Aside0.mk (hbox); have n7_ := Aside0.mk ((by rw [hg]; exact (below_size bB_) : w.heap.size ≤ gb344)); have n8_ := Aside0.mk ((by rw [hg]; exact (below_size bB_) : w.heap.size ≤ gb344)); clear HO_0; clear HO_1; clear HO_2; clear HO_8; clear HO_37; clear HB; have HO_0 := n0_; have HO_1 := n1_; have HO_2 := n2_; have HO_8 := n3_; have HO_37 := n4_; have HB := n5_; have BK344 := n6_; have GW344 := n7_; have GE344 := n8_; clear n0_ n1_ n2_ n3_ n4_ n5_ n6_ n7_ n8_; clear hb hbox hg; have hcz49_0 : w48.cell? ⟨gb344, 0, none⟩ = some (.int .i64 0) := (blk_cell BK344.out 0).trans rfl; have hcz49_1 : w48.cell? ⟨gb344, 1, none⟩ = some (.bool false) := (blk_cell BK344.out 1).trans rfl; have hfz49_0 := blk_frozen BK344.out 0; have hfz49_1 := blk_frozen BK344.out 1))
            have n0_ : Aside0 (Kd.V k71 71 ((w48.setCell ⟨gb344, 0, none⟩ (.int .i64 t342)).setCell ⟨gb344, 1, none⟩ (.bool t343)) w.heap.size (fun k_ => ((P0_ k_ ∨ P1_ k_ ∨ P2_ k_) ∨ w.heap.size ≤ k_) ∧ some k_ ≠ (u8 : Value).ownBlock ∧ some k_ ≠ (.slice (some ad341) t338.length co28 : Value).ownBlock ∧ k_ ≠ gb344) (.slice A0 l0.length c0) l0) := ⟨by (with_reducible repeat (first | apply Kd.V_alloc | apply Kd.V_drewN | apply Kd.V_drew)); exact Kd.V_mono (Kd.V_far (p := ⟨gb344, 1, none⟩) (Kd.V_far (p := ⟨gb344, 0, none⟩) (Kd.V_mono HO_0.out (fun k_ hk => (⟨hk, hk.2⟩ : _ ∧ k_ ≠ gb344))) (fun _ hk => hk.2) (.int .i64 t342)) (fun _ hk => hk.2) (.bool t343)) (fun _ hk => ⟨hk.1.1.1, ⟨hk.1.1.2.1, ⟨hk.1.1.2.2, hk.1.2⟩⟩⟩)⟩
            have n1_ : Aside0 (Kd.V k71 71 ((w48.setCell ⟨gb344, 0, none⟩ (.int .i64 t342)).setCell ⟨gb344, 1, none⟩ (.bool t343)) w.heap.size (fun k_ => ((P0_ k_ ∨ P1_ k_ ∨ P2_ k_) ∨ w.heap.size ≤ k_) ∧ some k_ ≠ (u8 : Value).ownBlock ∧ some k_ ≠ (.slice (some ad341) t338.length co28 : Value).ownBlock ∧ k_ ≠ gb344) (.slice A1 l1.length c1) l1) := ⟨by (with_reducible repeat (first | apply Kd.V_alloc | apply Kd.V_drewN | apply Kd.V_drew)); exact Kd.V_mono (Kd.V_far (p := ⟨gb344, 1, none⟩) (Kd.V_far (p := ⟨gb344, 0, none⟩) (Kd.V_mono HO_1.out (fun k_ hk => (⟨hk, hk.2⟩ : _ ∧ k_ ≠ gb344))) (fun _ hk => hk.2) (.int .i64 t342)) (fun _ hk => hk.2) (.bool t343)) (fun _ hk => ⟨hk.1.1.1, ⟨hk.1.1.2.1, ⟨hk.1.1.2.2, hk.1.2⟩⟩⟩)⟩
            have n2_ : Aside0 (Kd.V k71 71 ((w48.setCell ⟨gb344, 0, none⟩ (.int .i64 t342)).setCell ⟨gb344, 1, none⟩ (.bool t343)) w.heap.size (fun k_ => ((P0_ k_ ∨ P1_ k_ ∨ P2_ k_) ∨ w.heap.size ≤ k_) ∧ some k_ ≠ (u8 : Value).ownBlock ∧ some k_ ≠ (.slice (some ad341) t338.length co28 : Value).ownBlock ∧ k_ ≠ gb344) (.slice A2 l2.length c2) l2) := ⟨by (with_reducible repeat (first | apply Kd.V_alloc | apply Kd.V_drewN | apply Kd.V_drew)); exact Kd.V_mono (Kd.V_far (p := ⟨gb344, 1, none⟩) (Kd.V_far (p := ⟨gb344, 0, none⟩) (Kd.V_mono HO_2.out (fun k_ hk => (⟨hk, hk.2⟩ : _ ∧ k_ ≠ gb344))) (fun _ hk => hk.2) (.int .i64 t342)) (fun _ hk => hk.2) (.bool t343)) (fun _ hk => ⟨hk.1.1.1, ⟨hk.1.1.2.1, ⟨hk.1.1.2.2, hk.1.2⟩⟩⟩)⟩
            have n3_ : Aside0 (Kd.R k71 71 ((w48.setCell ⟨gb344, 0, none⟩ (.int .i64 t342)).setCell ⟨gb344, 1, none⟩ (.bool t343)) w.heap.size (fun k_ => (w.heap.size ≤ k_)) u8 x8_2) := ⟨by (with_reducible repeat (first | apply Kd.R_alloc | apply Kd.R_drewN | apply Kd.R_drew)); exact Kd.R_mono (Kd.R_far (p := ⟨gb344, 1, none⟩) (Kd.R_far (p := ⟨gb344, 0, none⟩) (Kd.R_types HO_8.out BK344.out (by decide)) (fun _ hk => hk.2) (.int .i64 t342)) (fun _ hk => hk.2) (.bool t343)) (fun _ hk => hk.1)⟩
            have n4_ : Aside0 (Kd.R Kd.string 9 ((w48.setCell ⟨gb344, 0, none⟩ (.int .i64 t342)).setCell ⟨gb344, 1, none⟩ (.bool t343)) w.heap.size (fun k_ => (w.heap.size ≤ k_)) (.slice (some ad341) t338.length co28) t338) := ⟨by (with_reducible repeat (first | apply Kd.R_alloc | apply Kd.R_drewN | apply Kd.R_drew)); exact Kd.R_mono (Kd.R_far (p := ⟨gb344, 1, none⟩) (Kd.R_far (p := ⟨gb344, 0, none⟩) (Kd.R_types HO_37.out BK344.out (by decide)) (fun _ hk => hk.2) (.int .i64 t342)) (fun _ hk => hk.2) (.bool t343)) (fun _ hk => hk.1)⟩
            have n5_ : Aside0 (((w48.setCell ⟨gb344, 0, none⟩ (.int .i64 t342)).setCell ⟨gb344, 1, none⟩ (.bool t343)).heap[gb344]? = some (.cells #[.int .i64 t342, .bool t343] 93 (0, 0))) := ⟨by (with_reducible repeat (first | refine blk_drewN ?_ _ | refine blk_drew ?_ | refine blk_alloc ?_ _)); refine blk_put (cs := #[.int .i64 t342, .bool false]) ?_ 1 _ rfl; (with_reducible repeat (first | refine blk_drewN ?_ _ | refine blk_drew ?_ | refine blk_alloc ?_ _)); refine blk_put (cs := #[.int .i64 0, .bool false]) ?_ 0 _ rfl; (with_reducible repeat (first | refine blk_drewN ?_ _ | refine blk_drew ?_ | refine blk_alloc ?_ _)); exact BK344.out⟩
            have n6_ : Aside0 (Below w.heap.size w ((w48.setCell ⟨gb344, 0, none⟩ (.int .i64 t342)).setCell ⟨gb344, 1, none⟩ (.bool t343))) := ⟨bC_ GE344.out⟩
            (try clear HO_0)
            (try clear HO_1)
            (try clear HO_2)
            (try clear HO_8)
            (try clear HO_37)
            (try clear BK344)
            (try clear HB)
            generalize ((w48.setCell ⟨gb344, 0, none⟩ (.int .i64 t342)).setCell ⟨gb344, 1, none⟩ (.bool t343)) = w50 at n0_ n1_ n2_ n3_ n4_ n5_ n6_ ⊢
            have HO_0 := n0_
            have HO_1 := n1_
            have HO_2 := n2_
            have HO_8 := n3_
            have HO_37 := n4_
            have BK344 := n5_
            have HB := n6_
            clear n0_ n1_ n2_ n3_ n4_ n5_ n6_
            have n0_ := Aside0.mk (Kd.V_drew HO_0.out)
            have n1_ := Aside0.mk (Kd.V_drew HO_1.out)
            have n2_ := Aside0.mk (Kd.V_drew HO_2.out)
            have n3_ := Aside0.mk (Kd.R_drew HO_8.out)
            have n4_ := Aside0.mk (Kd.R_drew HO_37.out)
            have n5_ := Aside0.mk (blk_drew BK344.out)
            have n6_ := Aside0.mk (below_drew1 HB.out)
            clear HO_0
            clear HO_1
            clear HO_2
            clear HO_8
            clear HO_37
            clear BK344
            clear HB
            have HO_0 := n0_
            have HO_1 := n1_
            have HO_2 := n2_
            have HO_8 := n3_
            have HO_37 := n4_
            have BK344 := n5_
            have HB := n6_
            clear n0_ n1_ n2_ n3_ n4_ n5_ n6_
            refine start_ (n := 5) (S := fun w' => w'.cell? ⟨gb344, 0, none⟩ = some (.int .i64 t342) ∧ w'.cell? ⟨gb344, 1, none⟩ = some (.bool t343)) (ds := []) #[false, false, false, false, false] (by kernel_rfl) rfl rfl ⟨(blk_cell BK344.out 0).trans rfl, (blk_cell BK344.out 1).trans rfl⟩ (fun hHeld => ?_)
            generalize w50.drew = w51 at HO_0 HO_1 HO_2 HO_8 HO_37 BK344 HB hHeld ⊢
            refine pure_ (i := 1) (N := some 47) (v := ?_) (a' := ?_) #[false, true, false, false, false] rfl rfl (by kernel_rfl) (fun _ _ _ h => h) (Or.inl ⟨by rfl, ?_⟩) ?_ ?_
            rotate_left
            ·
             intro w'
             go_simp
             with_reducible rfl
            rotate_left
            ·
             simp only [Act.put, q1_, q2_, q3_, i64_w, i32_w]
             rfl
            refine pure_ (i := 2) (N := some 48) (v := ?_) (a' := ?_) #[false, true, true, false, false] rfl rfl (by kernel_rfl) (fun _ _ _ h => h) (Or.inl ⟨by rfl, ?_⟩) ?_ ?_
            rotate_left
            ·
             intro w'
             go_simp
             with_reducible rfl
            rotate_left
            ·
             simp only [Act.put, q1_, q2_, q3_, i64_w, i32_w]
             rfl
            refine take_ (i := 0) (N := some 46) (v := ?_) (a' := ?_) #[true, true, true, false, false] rfl rfl (by kernel_rfl) (fun _ _ _ h => h) (Or.inl ⟨by rfl, ?_⟩) hHeld ?_ ?_
            rotate_left
            ·
             rintro w' ⟨s0, s1⟩
             go_simp
             with_reducible rfl
            rotate_left
            ·
             simp only [Act.put, q1_, q2_, q3_, i64_w, i32_w]
             rfl
            refine one_ (i := 3) (N := some 49) #[true, true, true, true, false] rfl rfl (by kernel_rfl) (by decide) (fun K hK => ?_)
            refine goes_ Try.func66 (by kernel_rfl) rfl #[.slice A0 l0.length c0, .string (rdOf ByteArray.empty t338 x39_2)] (by rfl) rfl rfl mT_ ?_
            with_reducible refine (impl_thingAt.calls k2 _ _ l0 (rdOf ByteArray.empty t338 x39_2) t345 t346 _ ?side1 ?side2 A33.out).mono ?_
            (case side1 => repeat (first | exact (Kd.V_reads' HO_0.out).2.2 | (with_reducible refine Kd.C_alloc ?_ _) | (with_reducible refine Kd.C_drewN ?_ _) | (with_reducible refine Kd.C_drew ?_)))
            (case side2 => exact (Kd.V_reads' HO_0.out).2.1)
            rintro e w52 ⟨rfl, hb⟩
            refine ⟨_, rfl, ?_⟩
            have n0_ := Aside0.mk (Kd.V_below (vA_ HO_0.out) hb)
            have n1_ := Aside0.mk (Kd.V_below (vA_ HO_1.out) hb)
            have n2_ := Aside0.mk (Kd.V_below (vA_ HO_2.out) hb)
            have n3_ := Aside0.mk (Kd.R_below (rA_ HO_8.out) hb)
            have n4_ := Aside0.mk (Kd.R_below (rA_ HO_37.out) hb)
            have n5_ := Aside0.mk (blk_below (g := gb344) (o := .cells #[.int .i64 t342, .bool t343] 93 (0, 0)) (bK_ BK344.out) hb)
            have n6_ := Aside0.mk (below_step (bC_ GE344.out) hb)
            clear HO_0
            clear HO_1
            clear HO_2
            clear HO_8
            clear HO_37
            clear BK344
            clear HB
            have HO_0 := n0_
            have HO_1 := n1_
            have HO_2 := n2_
            have HO_8 := n3_
            have HO_37 := n4_
            have BK344 := n5_
            have HB := n6_
            clear n0_ n1_ n2_ n3_ n4_ n5_ n6_
            (try clear hb)
            (try clear hb2)
            (try clear hk)
            (try clear hi)
            refine hK.out _ _ ⟨(blk_cell BK344.out 0).trans rfl, (blk_cell BK344.out 1).trans rfl⟩ (fun hHeld => ?_)
            clear hK K
            refine norm_ (a' := ?_) ?_ ?_
            rotate_left
            ·
             show Act.put _ (some 49) _ = _
             simp only [Act.put, q1_, q2_, q3_, i64_w, i32_w]
             rfl
            refine pure_ (i := 4) (N := some 50) (v := ?_) (a' := ?_) #[true, true, true, true, true] rfl rfl (by kernel_rfl) (fun _ _ _ h => h) (Or.inl ⟨by rfl, ?_⟩) ?_ ?_
            rotate_left
            ·
             intro w'
             go_simp
             with_reducible rfl
            rotate_left
            ·
             simp only [Act.put, q1_, q2_, q3_, i64_w, i32_w]
             rfl
            refine done_ (by kernel_rfl) ?_
            try go_wp2_with (first | ((with_reducible refine gate_callee (f := 66) rfl ?_); refine goesL_ (some 53) rfl rfl Try.func66 (by kernel_rfl) rfl #[.slice A2 l2.length c2, .string (rdOf ByteArray.empty t338 x39_2)] rfl mT_ ?_; (with_reducible refine (impl_thingAt.calls k2 _ _ l2 (rdOf ByteArray.empty t338 x39_2) t347 false _ ?side1 ?side2 A35.out).mono ?_); (case side1 => repeat (first | exact (Kd.V_reads' HO_2.out).2.2 | (with_reducible refine Kd.C_alloc ?_ _) | (with_reducible refine Kd.C_drewN ?_ _) | (with_reducible refine Kd.C_drew ?_))); (case side2 => exact (Kd.V_reads' HO_2.out).2.1); rintro e w53 ⟨rfl, hb⟩; refine ⟨_, rfl, ?_⟩; have n0_ := Aside0.mk (Kd.V_below (vA_ HO_0.out) hb); have n1_ := Aside0.mk (Kd.V_below (vA_ HO_1.out) hb); have n2_ := Aside0.mk (Kd.V_below (vA_ HO_2.out) hb); have n3_ := Aside0.mk (Kd.R_below (rA_ HO_8.out) hb); have n4_ := Aside0.mk (Kd.R_below (rA_ HO_37.out) hb); have n5_ := Aside0.mk (blk_below (g := gb344) (o := .cells #[.int .i64 t342, .bool t343] 93 (0, 0)) (bK_ BK344.out) hb); have n6_ := Aside0.mk (below_step (bC_ GE344.out) hb); clear HO_0; clear HO_1; clear HO_2; clear HO_8; clear HO_37; clear BK344; clear HB; have HO_0 := n0_; have HO_1 := n1_; have HO_2 := n2_; have HO_8 := n3_; have HO_37 := n4_; have BK344 := n5_; have HB := n6_; clear n0_ n1_ n2_ n3_ n4_ n5_ n6_; (try clear hb); (try clear hb2); (try clear hk); (try clear hi); have hcz54_0 : w53.cell? ⟨gb344, 0, none⟩ = some (.int .i64 t342) := (blk_cell BK344.out 0).trans rfl; have hcz54_1 : w53.cell? ⟨gb344, 1, none⟩ = some (.bool t343) := (blk_cell BK344.out 1).trans rfl; have hfz54_0 := blk_frozen BK344.out 0; have hfz54_1 := blk_frozen BK344.out 1))
            go_roundg k2
            case measure => have := HJ3.out; have := HK2.out; omega
            case rel => exact ⟨(x8_2), (wrap64 (x39_2 + 1)), rs_, H', ⟨by have := HJ3.out; have := HK2.out; omega⟩, ⟨by (with_reducible repeat (first | apply Kd.V_alloc | apply Kd.V_drewN | apply Kd.V_drew)); exact Kd.V_mono (Kd.V_far (p := ⟨gb344, 1, none⟩) (Kd.V_far (p := ⟨gb344, 0, none⟩) (Kd.V_mono HO_0.out (fun k_ hk => (⟨hk, hk.2.2.2⟩ : _ ∧ k_ ≠ gb344))) (fun _ hk => hk.2) (.int .i64 t347)) (fun _ hk => hk.2) (.bool false)) (fun _ hk => ⟨hk.1.1, ⟨hk.1.2.1, hk.1.2.2.1⟩⟩)⟩, ⟨by (with_reducible repeat (first | apply Kd.V_alloc | apply Kd.V_drewN | apply Kd.V_drew)); exact Kd.V_mono (Kd.V_far (p := ⟨gb344, 1, none⟩) (Kd.V_far (p := ⟨gb344, 0, none⟩) (Kd.V_mono HO_1.out (fun k_ hk => (⟨hk, hk.2.2.2⟩ : _ ∧ k_ ≠ gb344))) (fun _ hk => hk.2) (.int .i64 t347)) (fun _ hk => hk.2) (.bool false)) (fun _ hk => ⟨hk.1.1, ⟨hk.1.2.1, hk.1.2.2.1⟩⟩)⟩, ⟨by (with_reducible repeat (first | apply Kd.V_alloc | apply Kd.V_drewN | apply Kd.V_drew)); exact Kd.V_mono (Kd.V_far (p := ⟨gb344, 1, none⟩) (Kd.V_far (p := ⟨gb344, 0, none⟩) (Kd.V_mono HO_2.out (fun k_ hk => (⟨hk, hk.2.2.2⟩ : _ ∧ k_ ≠ gb344))) (fun _ hk => hk.2) (.int .i64 t347)) (fun _ hk => hk.2) (.bool false)) (fun _ hk => ⟨hk.1.1, ⟨hk.1.2.1, hk.1.2.2.1⟩⟩)⟩, ⟨by (with_reducible repeat (first | apply Kd.R_alloc | apply Kd.R_drewN | apply Kd.R_drew)); exact Kd.R_mono (Kd.R_far (p := ⟨gb344, 1, none⟩) (Kd.R_far (p := ⟨gb344, 0, none⟩) (Kd.R_types HO_8.out BK344.out (by decide)) (fun _ hk => hk.2) (.int .i64 t347)) (fun _ hk => hk.2) (.bool false)) (fun _ hk => hk.1)⟩, ⟨by (with_reducible repeat (first | apply Kd.R_alloc | apply Kd.R_drewN | apply Kd.R_drew)); exact Kd.R_mono (Kd.R_far (p := ⟨gb344, 1, none⟩) (Kd.R_far (p := ⟨gb344, 0, none⟩) (Kd.R_types HO_37.out BK344.out (by decide)) (fun _ hk => hk.2) (.int .i64 t347)) (fun _ hk => hk.2) (.bool false)) (fun _ hk => hk.1)⟩, ⟨bC_ GE344.out⟩⟩
          ·
           rw [if_neg c34] at H
           have c34b0 : (t342 == t345 && (t343 == t346)) = false := by simpa using c34
           (try (have c34b1 : decide (t342 = t345 && (t343 == t346)) = false := by simpa using c34))
           (try (have c34b2 : (t342 == t345 && (t343 == t346)) = false := by simpa using c34))
           (try (have c34b3 : ¬ (t342 = t345 && (t343 == t346)) := by simpa using c34))
           clear c34
           by_cases c55 : t343 = true
           ·
            subst c55
            (try (have c34b0_s := c34b0; simp only [Bool.true_beq, Bool.false_beq, beq_true, beq_false] at c34b0_s))
            have H1 : (if x8_2.length < 5864062014805 then (impl_MergeStates.l0 k2 l0 l1 l2 (x8_2 ++ [(⟨rdOf ByteArray.empty t338 x39_2, t342⟩ : S71)]) t338 (t338.length : Int) (wrap64 (x39_2 + 1))) else (none)) = some (r1, r2) := by rw [if_pos rfl] at H; exact H
            clear H
            have H := H1
            clear H1
            by_cases c56 : x8_2.length < 5864062014805
            ·
             rw [if_pos c56] at H
             have LMc56 := Aside0.mk c56
             clear c56
             obtain ⟨y352, hy352⟩ : ∃ y_ : List (S71), y_ = (x8_2 ++ [(⟨rdOf ByteArray.empty t338 x39_2, t342⟩ : S71)]) := ⟨_, rfl⟩
             replace H : (impl_MergeStates.l0 k2 l0 l1 l2 y352 t338 (t338.length : Int) (wrap64 (x39_2 + 1))) = some (r1, r2) := by first | (rw [hy352]; with_reducible exact H) | (have H2_ := (Option.bind_some _ _).symm.trans H; rw [hy352]; with_reducible exact H2_) | (have H2_ := (Option.bind_some _ _).symm.trans H; with_reducible exact H2_) | with_reducible exact H | (rw [hy352]; exact H) | exact H
             have Ny352 := Aside0.mk hy352
             clear hy352
             have H' := Aside0.mk H
             clear H
             have p341 : 0 ≤ (x39_2 : Int) := of_decide_eq_true as_
             have q341 : x39_2 < (t338.length : Int) := of_decide_eq_true as_
             obtain ⟨ad341, e341, hx341_0⟩ := Kd.at_string (Kd.R_reads' HO_37.out).2.2 x39_2 p341 q341
             cases e341
             replace p341 := eq_true p341
             replace q341 := eq_true q341
             try go_wp2_with (first | ((with_reducible refine gate_callee (f := 66) rfl ?_); refine goesL_ (some 45) rfl rfl Try.func66 (by kernel_rfl) rfl #[.slice A1 l1.length c1, .string (rdOf ByteArray.empty t338 x39_2)] rfl mT_ ?_; (with_reducible refine (impl_thingAt.calls k2 _ _ l1 (rdOf ByteArray.empty t338 x39_2) t342 true _ ?side1 ?side2 A32.out).mono ?_); (case side1 => repeat (first | exact (Kd.V_reads' HO_1.out).2.2 | (with_reducible refine Kd.C_alloc ?_ _) | (with_reducible refine Kd.C_drewN ?_ _) | (with_reducible refine Kd.C_drew ?_))); (case side2 => exact (Kd.V_reads' HO_1.out).2.1); rintro e w57 ⟨rfl, hb⟩; refine ⟨_, rfl, ?_⟩; have n0_ := Aside0.mk (Kd.V_below (vA_ HO_0.out) hb); have n1_ := Aside0.mk (Kd.V_below (vA_ HO_1.out) hb); have n2_ := Aside0.mk (Kd.V_below (vA_ HO_2.out) hb); have n3_ := Aside0.mk (Kd.R_below (rA_ HO_8.out) hb); have n4_ := Aside0.mk (Kd.R_below (rA_ HO_37.out) hb); have n5_ := Aside0.mk (below_step bB_ hb); clear HO_0; clear HO_1; clear HO_2; clear HO_8; clear HO_37; clear HB; have HO_0 := n0_; have HO_1 := n1_; have HO_2 := n2_; have HO_8 := n3_; have HO_37 := n4_; have HB := n5_; clear n0_ n1_ n2_ n3_ n4_ n5_; (try clear hb); (try clear hb2); (try clear hk); (try clear hi)) | ((with_reducible refine gate_dst (N := 11) rfl ?_); refine box_event ?hg (N := 11) ?hd (cs := #[.int .i64 0, .bool false]) (t := 93) ?hr ?_; (case hd => rfl); (case hg => rfl); (case hr => first | (go_simp; done) | (go_simp; rfl)); intro gb344 hg w58 hbox hb; have n0_ := Aside0.mk (Kd.V_below (Kd.V_elderB (vA_ HO_0.out) gb344 (Nat.le_of_eq hg.symm)) hb); have n1_ := Aside0.mk (Kd.V_below (Kd.V_elderB (vA_ HO_1.out) gb344 (Nat.le_of_eq hg.symm)) hb); have n2_ := Aside0.mk (Kd.V_below (Kd.V_elderB (vA_ HO_2.out) gb344 (Nat.le_of_eq hg.symm)) hb); have n3_ := Aside0.mk (Kd.R_below (rA_ HO_8.out) hb); have n4_ := Aside0.mk (Kd.R_below (rA_ HO_37.out) hb); have n5_ := Aside0.mk (below_step bB_ hb); have n6_ := Aside0.mk (hbox); have n7_ := Aside0.mk ((by rw [hg]; exact (below_size bB_) : w.heap.size ≤ gb344)); have n8_ := Aside0.mk ((by rw [hg]; exact (below_size bB_) : w.heap.size ≤ gb344)); clear HO_0; clear HO_1; clear HO_2; clear HO_8; clear HO_37; clear HB; have HO_0 := n0_; have HO_1 := n1_; have HO_2 := n2_; have HO_8 := n3_; have HO_37 := n4_; have HB := n5_; have BK344 := n6_; have GW344 := n7_; have GE344 := n8_; clear n0_ n1_ n2_ n3_ n4_ n5_ n6_ n7_ n8_; clear hb hbox hg; have hcz59_0 : w58.cell? ⟨gb344, 0, none⟩ = some (.int .i64 0) := (blk_cell BK344.out 0).trans rfl; have hcz59_1 : w58.cell? ⟨gb344, 1, none⟩ = some (.bool false) := (blk_cell BK344.out 1).trans rfl; have hfz59_0 := blk_frozen BK344.out 0; have hfz59_1 := blk_frozen BK344.out 1))
             have n0_ : Aside0 (Kd.V k71 71 ((w58.setCell ⟨gb344, 0, none⟩ (.int .i64 t342)).setCell ⟨gb344, 1, none⟩ (.bool true)) w.heap.size (fun k_ => ((P0_ k_ ∨ P1_ k_ ∨ P2_ k_) ∨ w.heap.size ≤ k_) ∧ some k_ ≠ (u8 : Value).ownBlock ∧ some k_ ≠ (.slice (some ad341) t338.length co28 : Value).ownBlock ∧ k_ ≠ gb344) (.slice A0 l0.length c0) l0) := ⟨by (with_reducible repeat (first | apply Kd.V_alloc | apply Kd.V_drewN | apply Kd.V_drew)); exact Kd.V_mono (Kd.V_far (p := ⟨gb344, 1, none⟩) (Kd.V_far (p := ⟨gb344, 0, none⟩) (Kd.V_mono HO_0.out (fun k_ hk => (⟨hk, hk.2⟩ : _ ∧ k_ ≠ gb344))) (fun _ hk => hk.2) (.int .i64 t342)) (fun _ hk => hk.2) (.bool true)) (fun _ hk => ⟨hk.1.1.1, ⟨hk.1.1.2.1, ⟨hk.1.1.2.2, hk.1.2⟩⟩⟩)⟩
             have n1_ : Aside0 (Kd.V k71 71 ((w58.setCell ⟨gb344, 0, none⟩ (.int .i64 t342)).setCell ⟨gb344, 1, none⟩ (.bool true)) w.heap.size (fun k_ => ((P0_ k_ ∨ P1_ k_ ∨ P2_ k_) ∨ w.heap.size ≤ k_) ∧ some k_ ≠ (u8 : Value).ownBlock ∧ some k_ ≠ (.slice (some ad341) t338.length co28 : Value).ownBlock ∧ k_ ≠ gb344) (.slice A1 l1.length c1) l1) := ⟨by (with_reducible repeat (first | apply Kd.V_alloc | apply Kd.V_drewN | apply Kd.V_drew)); exact Kd.V_mono (Kd.V_far (p := ⟨gb344, 1, none⟩) (Kd.V_far (p := ⟨gb344, 0, none⟩) (Kd.V_mono HO_1.out (fun k_ hk => (⟨hk, hk.2⟩ : _ ∧ k_ ≠ gb344))) (fun _ hk => hk.2) (.int .i64 t342)) (fun _ hk => hk.2) (.bool true)) (fun _ hk => ⟨hk.1.1.1, ⟨hk.1.1.2.1, ⟨hk.1.1.2.2, hk.1.2⟩⟩⟩)⟩
             have n2_ : Aside0 (Kd.V k71 71 ((w58.setCell ⟨gb344, 0, none⟩ (.int .i64 t342)).setCell ⟨gb344, 1, none⟩ (.bool true)) w.heap.size (fun k_ => ((P0_ k_ ∨ P1_ k_ ∨ P2_ k_) ∨ w.heap.size ≤ k_) ∧ some k_ ≠ (u8 : Value).ownBlock ∧ some k_ ≠ (.slice (some ad341) t338.length co28 : Value).ownBlock ∧ k_ ≠ gb344) (.slice A2 l2.length c2) l2) := ⟨by (with_reducible repeat (first | apply Kd.V_alloc | apply Kd.V_drewN | apply Kd.V_drew)); exact Kd.V_mono (Kd.V_far (p := ⟨gb344, 1, none⟩) (Kd.V_far (p := ⟨gb344, 0, none⟩) (Kd.V_mono HO_2.out (fun k_ hk => (⟨hk, hk.2⟩ : _ ∧ k_ ≠ gb344))) (fun _ hk => hk.2) (.int .i64 t342)) (fun _ hk => hk.2) (.bool true)) (fun _ hk => ⟨hk.1.1.1, ⟨hk.1.1.2.1, ⟨hk.1.1.2.2, hk.1.2⟩⟩⟩)⟩
             have n3_ : Aside0 (Kd.R k71 71 ((w58.setCell ⟨gb344, 0, none⟩ (.int .i64 t342)).setCell ⟨gb344, 1, none⟩ (.bool true)) w.heap.size (fun k_ => (w.heap.size ≤ k_)) u8 x8_2) := ⟨by (with_reducible repeat (first | apply Kd.R_alloc | apply Kd.R_drewN | apply Kd.R_drew)); exact Kd.R_mono (Kd.R_far (p := ⟨gb344, 1, none⟩) (Kd.R_far (p := ⟨gb344, 0, none⟩) (Kd.R_types HO_8.out BK344.out (by decide)) (fun _ hk => hk.2) (.int .i64 t342)) (fun _ hk => hk.2) (.bool true)) (fun _ hk => hk.1)⟩
             have n4_ : Aside0 (Kd.R Kd.string 9 ((w58.setCell ⟨gb344, 0, none⟩ (.int .i64 t342)).setCell ⟨gb344, 1, none⟩ (.bool true)) w.heap.size (fun k_ => (w.heap.size ≤ k_)) (.slice (some ad341) t338.length co28) t338) := ⟨by (with_reducible repeat (first | apply Kd.R_alloc | apply Kd.R_drewN | apply Kd.R_drew)); exact Kd.R_mono (Kd.R_far (p := ⟨gb344, 1, none⟩) (Kd.R_far (p := ⟨gb344, 0, none⟩) (Kd.R_types HO_37.out BK344.out (by decide)) (fun _ hk => hk.2) (.int .i64 t342)) (fun _ hk => hk.2) (.bool true)) (fun _ hk => hk.1)⟩
             have n5_ : Aside0 (((w58.setCell ⟨gb344, 0, none⟩ (.int .i64 t342)).setCell ⟨gb344, 1, none⟩ (.bool true)).heap[gb344]? = some (.cells #[.int .i64 t342, .bool true] 93 (0, 0))) := ⟨by (with_reducible repeat (first | refine blk_drewN ?_ _ | refine blk_drew ?_ | refine blk_alloc ?_ _)); refine blk_put (cs := #[.int .i64 t342, .bool false]) ?_ 1 _ rfl; (with_reducible repeat (first | refine blk_drewN ?_ _ | refine blk_drew ?_ | refine blk_alloc ?_ _)); refine blk_put (cs := #[.int .i64 0, .bool false]) ?_ 0 _ rfl; (with_reducible repeat (first | refine blk_drewN ?_ _ | refine blk_drew ?_ | refine blk_alloc ?_ _)); exact BK344.out⟩
             have n6_ : Aside0 (Below w.heap.size w ((w58.setCell ⟨gb344, 0, none⟩ (.int .i64 t342)).setCell ⟨gb344, 1, none⟩ (.bool true))) := ⟨bC_ GE344.out⟩
             (try clear HO_0)
             (try clear HO_1)
             (try clear HO_2)
             (try clear HO_8)
             (try clear HO_37)
             (try clear BK344)
             (try clear HB)
             generalize ((w58.setCell ⟨gb344, 0, none⟩ (.int .i64 t342)).setCell ⟨gb344, 1, none⟩ (.bool true)) = w60 at n0_ n1_ n2_ n3_ n4_ n5_ n6_ ⊢
             have HO_0 := n0_
             have HO_1 := n1_
             have HO_2 := n2_
             have HO_8 := n3_
             have HO_37 := n4_
             have BK344 := n5_
             have HB := n6_
             clear n0_ n1_ n2_ n3_ n4_ n5_ n6_
             have n0_ := Aside0.mk (Kd.V_drew HO_0.out)
             have n1_ := Aside0.mk (Kd.V_drew HO_1.out)
             have n2_ := Aside0.mk (Kd.V_drew HO_2.out)
             have n3_ := Aside0.mk (Kd.R_drew HO_8.out)
             have n4_ := Aside0.mk (Kd.R_drew HO_37.out)
             have n5_ := Aside0.mk (blk_drew BK344.out)
             have n6_ := Aside0.mk (below_drew1 HB.out)
             clear HO_0
             clear HO_1
             clear HO_2
             clear HO_8
             clear HO_37
             clear BK344
             clear HB
             have HO_0 := n0_
             have HO_1 := n1_
             have HO_2 := n2_
             have HO_8 := n3_
             have HO_37 := n4_
             have BK344 := n5_
             have HB := n6_
             clear n0_ n1_ n2_ n3_ n4_ n5_ n6_
             refine start_ (n := 5) (S := fun w' => w'.cell? ⟨gb344, 0, none⟩ = some (.int .i64 t342) ∧ w'.cell? ⟨gb344, 1, none⟩ = some (.bool true)) (ds := []) #[false, false, false, false, false] (by kernel_rfl) rfl rfl ⟨(blk_cell BK344.out 0).trans rfl, (blk_cell BK344.out 1).trans rfl⟩ (fun hHeld => ?_)
             generalize w60.drew = w61 at HO_0 HO_1 HO_2 HO_8 HO_37 BK344 HB hHeld ⊢
             refine pure_ (i := 1) (N := some 47) (v := ?_) (a' := ?_) #[false, true, false, false, false] rfl rfl (by kernel_rfl) (fun _ _ _ h => h) (Or.inl ⟨by rfl, ?_⟩) ?_ ?_
             rotate_left
             ·
              intro w'
              go_simp
              with_reducible rfl
             rotate_left
             ·
              simp only [Act.put, q1_, q2_, q3_, i64_w, i32_w]
              rfl
             refine pure_ (i := 2) (N := some 48) (v := ?_) (a' := ?_) #[false, true, true, false, false] rfl rfl (by kernel_rfl) (fun _ _ _ h => h) (Or.inl ⟨by rfl, ?_⟩) ?_ ?_
             rotate_left
             ·
              intro w'
              go_simp
              with_reducible rfl
             rotate_left
             ·
              simp only [Act.put, q1_, q2_, q3_, i64_w, i32_w]
              rfl
             refine take_ (i := 0) (N := some 46) (v := ?_) (a' := ?_) #[true, true, true, false, false] rfl rfl (by kernel_rfl) (fun _ _ _ h => h) (Or.inl ⟨by rfl, ?_⟩) hHeld ?_ ?_
             rotate_left
             ·
              rintro w' ⟨s0, s1⟩
              go_simp
              with_reducible rfl
             rotate_left
             ·
              simp only [Act.put, q1_, q2_, q3_, i64_w, i32_w]
              rfl
             refine one_ (i := 3) (N := some 49) #[true, true, true, true, false] rfl rfl (by kernel_rfl) (by decide) (fun K hK => ?_)
             refine goes_ Try.func66 (by kernel_rfl) rfl #[.slice A0 l0.length c0, .string (rdOf ByteArray.empty t338 x39_2)] (by rfl) rfl rfl mT_ ?_
             with_reducible refine (impl_thingAt.calls k2 _ _ l0 (rdOf ByteArray.empty t338 x39_2) t345 t346 _ ?side1 ?side2 A33.out).mono ?_
             (case side1 => repeat (first | exact (Kd.V_reads' HO_0.out).2.2 | (with_reducible refine Kd.C_alloc ?_ _) | (with_reducible refine Kd.C_drewN ?_ _) | (with_reducible refine Kd.C_drew ?_)))
             (case side2 => exact (Kd.V_reads' HO_0.out).2.1)
             rintro e w62 ⟨rfl, hb⟩
             refine ⟨_, rfl, ?_⟩
             have n0_ := Aside0.mk (Kd.V_below (vA_ HO_0.out) hb)
             have n1_ := Aside0.mk (Kd.V_below (vA_ HO_1.out) hb)
             have n2_ := Aside0.mk (Kd.V_below (vA_ HO_2.out) hb)
             have n3_ := Aside0.mk (Kd.R_below (rA_ HO_8.out) hb)
             have n4_ := Aside0.mk (Kd.R_below (rA_ HO_37.out) hb)
             have n5_ := Aside0.mk (blk_below (g := gb344) (o := .cells #[.int .i64 t342, .bool true] 93 (0, 0)) (bK_ BK344.out) hb)
             have n6_ := Aside0.mk (below_step (bC_ GE344.out) hb)
             clear HO_0
             clear HO_1
             clear HO_2
             clear HO_8
             clear HO_37
             clear BK344
             clear HB
             have HO_0 := n0_
             have HO_1 := n1_
             have HO_2 := n2_
             have HO_8 := n3_
             have HO_37 := n4_
             have BK344 := n5_
             have HB := n6_
             clear n0_ n1_ n2_ n3_ n4_ n5_ n6_
             (try clear hb)
             (try clear hb2)
             (try clear hk)
             (try clear hi)
             refine hK.out _ _ ⟨(blk_cell BK344.out 0).trans rfl, (blk_cell BK344.out 1).trans rfl⟩ (fun hHeld => ?_)
             clear hK K
             refine norm_ (a' := ?_) ?_ ?_
             rotate_left
             ·
              show Act.put _ (some 49) _ = _
              simp only [Act.put, q1_, q2_, q3_, i64_w, i32_w]
              rfl
             refine pure_ (i := 4) (N := some 50) (v := ?_) (a' := ?_) #[true, true, true, true, true] rfl rfl (by kernel_rfl) (fun _ _ _ h => h) (Or.inl ⟨by rfl, ?_⟩) ?_ ?_
             rotate_left
             ·
              intro w'
              go_simp
              with_reducible rfl
             rotate_left
             ·
              simp only [Act.put, q1_, q2_, q3_, i64_w, i32_w]
              rfl
             refine done_ (by kernel_rfl) ?_
             have hcz63_0 : w62.cell? ⟨gb344, 0, none⟩ = some (.int .i64 t342) := (blk_cell BK344.out 0).trans rfl
             have hcz63_1 : w62.cell? ⟨gb344, 1, none⟩ = some (.bool true) := (blk_cell BK344.out 1).trans rfl
             have hfz63_0 := blk_frozen BK344.out 0
             have hfz63_1 := blk_frozen BK344.out 1
             try go_wp2_with (first | ((with_reducible refine gate_builtin (b := .append) (xs := #[.tmp 56, .tmp 61]) rfl ?_); at_builtin; refine Kd.R_append k71 (w0 := w) w.heap.size rfl (.tmp 56) (.tmp 61) 26 71 (.agg #[(.string ⟨#[]⟩), (.int .i64 0)]) 24 rfl Try.underlying26 info71 rfl (by decide) (by omega) u8 x8_2 (⟨rdOf ByteArray.empty t338 x39_2, t342⟩ : S71) [.string (rdOf ByteArray.empty t338 x39_2), .int .i64 t342] (fun k_ => (w.heap.size ≤ k_)) (fun _ => False) rfl rfl ?aP (fun _ hk => hk.elim) ?aF ?aO ?aB ?aS ?aL ?_; (case aP => exact k71_mkM _ _ _ (⟨rdOf ByteArray.empty t338 x39_2, t342⟩ : S71)); (case aB => exact (bC_ GE344.out)); (case aF => exact (fun k_ hk => (Nat.le_trans (below_size (bC_ GE344.out)) hk))); (case aO => exact (rA_ HO_8.out)); (case aS => exact (below_size (bC_ GE344.out))); (case aL => have := LMc56.out; omega); intro v353 w64 ho hb hg hat; rw [← Ny352.out] at ho; have n0_ := Aside0.mk (Kd.V_afterv (ok := (fun k_ => ((P0_ k_ ∨ P1_ k_ ∨ P2_ k_) ∨ w.heap.size ≤ k_) ∧ some k_ ≠ (.slice (some ad341) t338.length co28 : Value).ownBlock ∧ k_ ≠ gb344)) (by (with_reducible repeat (first | apply Kd.V_alloc | apply Kd.V_drewN | apply Kd.V_drew)); exact Kd.V_mono HO_0.out (fun _ hk => ⟨⟨hk.1, ⟨hk.2.2.1, hk.2.2.2⟩⟩, hk.2.1⟩)) hg hat); have n1_ := Aside0.mk (Kd.V_afterv (ok := (fun k_ => ((P0_ k_ ∨ P1_ k_ ∨ P2_ k_) ∨ w.heap.size ≤ k_) ∧ some k_ ≠ (.slice (some ad341) t338.length co28 : Value).ownBlock ∧ k_ ≠ gb344)) (by (with_reducible repeat (first | apply Kd.V_alloc | apply Kd.V_drewN | apply Kd.V_drew)); exact Kd.V_mono HO_1.out (fun _ hk => ⟨⟨hk.1, ⟨hk.2.2.1, hk.2.2.2⟩⟩, hk.2.1⟩)) hg hat); have n2_ := Aside0.mk (Kd.V_afterv (ok := (fun k_ => ((P0_ k_ ∨ P1_ k_ ∨ P2_ k_) ∨ w.heap.size ≤ k_) ∧ some k_ ≠ (.slice (some ad341) t338.length co28 : Value).ownBlock ∧ k_ ≠ gb344)) (by (with_reducible repeat (first | apply Kd.V_alloc | apply Kd.V_drewN | apply Kd.V_drew)); exact Kd.V_mono HO_2.out (fun _ hk => ⟨⟨hk.1, ⟨hk.2.2.1, hk.2.2.2⟩⟩, hk.2.1⟩)) hg hat); have n3_ := Aside0.mk (Kd.R_over' (rA_ HO_37.out) (Kd.R_typed (rA_ HO_8.out)) (by decide) hg); have n4_ := Aside0.mk (blk_grown (g := gb344) (o := .cells #[.int .i64 t342, .bool true] 93 (0, 0)) (bK_ BK344.out) hg (Kd.R_ne HO_8.out BK344.out (by decide))); have n5_ := Aside0.mk (hb); have n6_ := Aside0.mk (ho); clear HO_0; clear HO_1; clear HO_2; clear HO_37; clear BK344; clear HB; clear HO_8; have HO_0 := n0_; have HO_1 := n1_; have HO_2 := n2_; have HO_37 := n3_; have BK344 := n4_; have HB := n5_; have HO354 := n6_; clear n0_ n1_ n2_ n3_ n4_ n5_ n6_; clear ho hb hg hat))
             go_roundg k2
             case measure => have := HJ3.out; have := HK2.out; omega
             case rel => exact ⟨(y352), (wrap64 (x39_2 + 1)), rs_, H', ⟨by have := HJ3.out; have := HK2.out; omega⟩, ⟨by (with_reducible repeat (first | apply Kd.V_alloc | apply Kd.V_drewN | apply Kd.V_drew)); exact Kd.V_mono HO_0.out (fun _ hk => ⟨hk.1.1, ⟨hk.2, hk.1.2.1⟩⟩)⟩, ⟨by (with_reducible repeat (first | apply Kd.V_alloc | apply Kd.V_drewN | apply Kd.V_drew)); exact Kd.V_mono HO_1.out (fun _ hk => ⟨hk.1.1, ⟨hk.2, hk.1.2.1⟩⟩)⟩, ⟨by (with_reducible repeat (first | apply Kd.V_alloc | apply Kd.V_drewN | apply Kd.V_drew)); exact Kd.V_mono HO_2.out (fun _ hk => ⟨hk.1.1, ⟨hk.2, hk.1.2.1⟩⟩)⟩, ⟨rA_ HO354.out⟩, ⟨rA_ HO_37.out⟩, ⟨bC_ GE344.out⟩⟩
            ·
             rw [if_neg c56] at H
             exact absurd H (by simp)
           ·
            replace c55 := Bool.eq_false_iff.mpr c55
            subst c55
            (try (have c34b0_s := c34b0; simp only [Bool.true_beq, Bool.false_beq, beq_true, beq_false] at c34b0_s))
            have H1 : (impl_MergeStates.l0 k2 l0 l1 l2 x8_2 t338 (t338.length : Int) (wrap64 (x39_2 + 1))) = some (r1, r2) := by rw [if_neg (show ¬ (false = true) by decide)] at H; exact H
            clear H
            have H := H1
            clear H1
            have H' := Aside0.mk H
            clear H
            have p341 : 0 ≤ (x39_2 : Int) := of_decide_eq_true as_
            have q341 : x39_2 < (t338.length : Int) := of_decide_eq_true as_
            obtain ⟨ad341, e341, hx341_0⟩ := Kd.at_string (Kd.R_reads' HO_37.out).2.2 x39_2 p341 q341
            cases e341
            replace p341 := eq_true p341
            replace q341 := eq_true q341
            try go_wp2_with (first | ((with_reducible refine gate_callee (f := 66) rfl ?_); refine goesL_ (some 45) rfl rfl Try.func66 (by kernel_rfl) rfl #[.slice A1 l1.length c1, .string (rdOf ByteArray.empty t338 x39_2)] rfl mT_ ?_; (with_reducible refine (impl_thingAt.calls k2 _ _ l1 (rdOf ByteArray.empty t338 x39_2) t342 false _ ?side1 ?side2 A32.out).mono ?_); (case side1 => repeat (first | exact (Kd.V_reads' HO_1.out).2.2 | (with_reducible refine Kd.C_alloc ?_ _) | (with_reducible refine Kd.C_drewN ?_ _) | (with_reducible refine Kd.C_drew ?_))); (case side2 => exact (Kd.V_reads' HO_1.out).2.1); rintro e w65 ⟨rfl, hb⟩; refine ⟨_, rfl, ?_⟩; have n0_ := Aside0.mk (Kd.V_below (vA_ HO_0.out) hb); have n1_ := Aside0.mk (Kd.V_below (vA_ HO_1.out) hb); have n2_ := Aside0.mk (Kd.V_below (vA_ HO_2.out) hb); have n3_ := Aside0.mk (Kd.R_below (rA_ HO_8.out) hb); have n4_ := Aside0.mk (Kd.R_below (rA_ HO_37.out) hb); have n5_ := Aside0.mk (below_step bB_ hb); clear HO_0; clear HO_1; clear HO_2; clear HO_8; clear HO_37; clear HB; have HO_0 := n0_; have HO_1 := n1_; have HO_2 := n2_; have HO_8 := n3_; have HO_37 := n4_; have HB := n5_; clear n0_ n1_ n2_ n3_ n4_ n5_; (try clear hb); (try clear hb2); (try clear hk); (try clear hi)) | ((with_reducible refine gate_dst (N := 11) rfl ?_); refine box_event ?hg (N := 11) ?hd (cs := #[.int .i64 0, .bool false]) (t := 93) ?hr ?_; (case hd => rfl); (case hg => rfl); (case hr => first | (go_simp; done) | (go_simp; rfl)); intro gb344 hg w66 hbox hb; have n0_ := Aside0.mk (Kd.V_below (Kd.V_elderB (vA_ HO_0.out) gb344 (Nat.le_of_eq hg.symm)) hb); have n1_ := Aside0.mk (Kd.V_below (Kd.V_elderB (vA_ HO_1.out) gb344 (Nat.le_of_eq hg.symm)) hb); have n2_ := Aside0.mk (Kd.V_below (Kd.V_elderB (vA_ HO_2.out) gb344 (Nat.le_of_eq hg.symm)) hb); have n3_ := Aside0.mk (Kd.R_below (rA_ HO_8.out) hb); have n4_ := Aside0.mk (Kd.R_below (rA_ HO_37.out) hb); have n5_ := Aside0.mk (below_step bB_ hb); have n6_ := Aside0.mk (hbox); have n7_ := Aside0.mk ((by rw [hg]; exact (below_size bB_) : w.heap.size ≤ gb344)); have n8_ := Aside0.mk ((by rw [hg]; exact (below_size bB_) : w.heap.size ≤ gb344)); clear HO_0; clear HO_1; clear HO_2; clear HO_8; clear HO_37; clear HB; have HO_0 := n0_; have HO_1 := n1_; have HO_2 := n2_; have HO_8 := n3_; have HO_37 := n4_; have HB := n5_; have BK344 := n6_; have GW344 := n7_; have GE344 := n8_; clear n0_ n1_ n2_ n3_ n4_ n5_ n6_ n7_ n8_; clear hb hbox hg; have hcz67_0 : w66.cell? ⟨gb344, 0, none⟩ = some (.int .i64 0) := (blk_cell BK344.out 0).trans rfl; have hcz67_1 : w66.cell? ⟨gb344, 1, none⟩ = some (.bool false) := (blk_cell BK344.out 1).trans rfl; have hfz67_0 := blk_frozen BK344.out 0; have hfz67_1 := blk_frozen BK344.out 1))
            have n0_ : Aside0 (Kd.V k71 71 ((w66.setCell ⟨gb344, 0, none⟩ (.int .i64 t342)).setCell ⟨gb344, 1, none⟩ (.bool false)) w.heap.size (fun k_ => ((P0_ k_ ∨ P1_ k_ ∨ P2_ k_) ∨ w.heap.size ≤ k_) ∧ some k_ ≠ (u8 : Value).ownBlock ∧ some k_ ≠ (.slice (some ad341) t338.length co28 : Value).ownBlock ∧ k_ ≠ gb344) (.slice A0 l0.length c0) l0) := ⟨by (with_reducible repeat (first | apply Kd.V_alloc | apply Kd.V_drewN | apply Kd.V_drew)); exact Kd.V_mono (Kd.V_far (p := ⟨gb344, 1, none⟩) (Kd.V_far (p := ⟨gb344, 0, none⟩) (Kd.V_mono HO_0.out (fun k_ hk => (⟨hk, hk.2⟩ : _ ∧ k_ ≠ gb344))) (fun _ hk => hk.2) (.int .i64 t342)) (fun _ hk => hk.2) (.bool false)) (fun _ hk => ⟨hk.1.1.1, ⟨hk.1.1.2.1, ⟨hk.1.1.2.2, hk.1.2⟩⟩⟩)⟩
            have n1_ : Aside0 (Kd.V k71 71 ((w66.setCell ⟨gb344, 0, none⟩ (.int .i64 t342)).setCell ⟨gb344, 1, none⟩ (.bool false)) w.heap.size (fun k_ => ((P0_ k_ ∨ P1_ k_ ∨ P2_ k_) ∨ w.heap.size ≤ k_) ∧ some k_ ≠ (u8 : Value).ownBlock ∧ some k_ ≠ (.slice (some ad341) t338.length co28 : Value).ownBlock ∧ k_ ≠ gb344) (.slice A1 l1.length c1) l1) := ⟨by (with_reducible repeat (first | apply Kd.V_alloc | apply Kd.V_drewN | apply Kd.V_drew)); exact Kd.V_mono (Kd.V_far (p := ⟨gb344, 1, none⟩) (Kd.V_far (p := ⟨gb344, 0, none⟩) (Kd.V_mono HO_1.out (fun k_ hk => (⟨hk, hk.2⟩ : _ ∧ k_ ≠ gb344))) (fun _ hk => hk.2) (.int .i64 t342)) (fun _ hk => hk.2) (.bool false)) (fun _ hk => ⟨hk.1.1.1, ⟨hk.1.1.2.1, ⟨hk.1.1.2.2, hk.1.2⟩⟩⟩)⟩
            have n2_ : Aside0 (Kd.V k71 71 ((w66.setCell ⟨gb344, 0, none⟩ (.int .i64 t342)).setCell ⟨gb344, 1, none⟩ (.bool false)) w.heap.size (fun k_ => ((P0_ k_ ∨ P1_ k_ ∨ P2_ k_) ∨ w.heap.size ≤ k_) ∧ some k_ ≠ (u8 : Value).ownBlock ∧ some k_ ≠ (.slice (some ad341) t338.length co28 : Value).ownBlock ∧ k_ ≠ gb344) (.slice A2 l2.length c2) l2) := ⟨by (with_reducible repeat (first | apply Kd.V_alloc | apply Kd.V_drewN | apply Kd.V_drew)); exact Kd.V_mono (Kd.V_far (p := ⟨gb344, 1, none⟩) (Kd.V_far (p := ⟨gb344, 0, none⟩) (Kd.V_mono HO_2.out (fun k_ hk => (⟨hk, hk.2⟩ : _ ∧ k_ ≠ gb344))) (fun _ hk => hk.2) (.int .i64 t342)) (fun _ hk => hk.2) (.bool false)) (fun _ hk => ⟨hk.1.1.1, ⟨hk.1.1.2.1, ⟨hk.1.1.2.2, hk.1.2⟩⟩⟩)⟩
            have n3_ : Aside0 (Kd.R k71 71 ((w66.setCell ⟨gb344, 0, none⟩ (.int .i64 t342)).setCell ⟨gb344, 1, none⟩ (.bool false)) w.heap.size (fun k_ => (w.heap.size ≤ k_)) u8 x8_2) := ⟨by (with_reducible repeat (first | apply Kd.R_alloc | apply Kd.R_drewN | apply Kd.R_drew)); exact Kd.R_mono (Kd.R_far (p := ⟨gb344, 1, none⟩) (Kd.R_far (p := ⟨gb344, 0, none⟩) (Kd.R_types HO_8.out BK344.out (by decide)) (fun _ hk => hk.2) (.int .i64 t342)) (fun _ hk => hk.2) (.bool false)) (fun _ hk => hk.1)⟩
            have n4_ : Aside0 (Kd.R Kd.string 9 ((w66.setCell ⟨gb344, 0, none⟩ (.int .i64 t342)).setCell ⟨gb344, 1, none⟩ (.bool false)) w.heap.size (fun k_ => (w.heap.size ≤ k_)) (.slice (some ad341) t338.length co28) t338) := ⟨by (with_reducible repeat (first | apply Kd.R_alloc | apply Kd.R_drewN | apply Kd.R_drew)); exact Kd.R_mono (Kd.R_far (p := ⟨gb344, 1, none⟩) (Kd.R_far (p := ⟨gb344, 0, none⟩) (Kd.R_types HO_37.out BK344.out (by decide)) (fun _ hk => hk.2) (.int .i64 t342)) (fun _ hk => hk.2) (.bool false)) (fun _ hk => hk.1)⟩
            have n5_ : Aside0 (((w66.setCell ⟨gb344, 0, none⟩ (.int .i64 t342)).setCell ⟨gb344, 1, none⟩ (.bool false)).heap[gb344]? = some (.cells #[.int .i64 t342, .bool false] 93 (0, 0))) := ⟨by (with_reducible repeat (first | refine blk_drewN ?_ _ | refine blk_drew ?_ | refine blk_alloc ?_ _)); refine blk_put (cs := #[.int .i64 t342, .bool false]) ?_ 1 _ rfl; (with_reducible repeat (first | refine blk_drewN ?_ _ | refine blk_drew ?_ | refine blk_alloc ?_ _)); refine blk_put (cs := #[.int .i64 0, .bool false]) ?_ 0 _ rfl; (with_reducible repeat (first | refine blk_drewN ?_ _ | refine blk_drew ?_ | refine blk_alloc ?_ _)); exact BK344.out⟩
            have n6_ : Aside0 (Below w.heap.size w ((w66.setCell ⟨gb344, 0, none⟩ (.int .i64 t342)).setCell ⟨gb344, 1, none⟩ (.bool false))) := ⟨bC_ GE344.out⟩
            (try clear HO_0)
            (try clear HO_1)
            (try clear HO_2)
            (try clear HO_8)
            (try clear HO_37)
            (try clear BK344)
            (try clear HB)
            generalize ((w66.setCell ⟨gb344, 0, none⟩ (.int .i64 t342)).setCell ⟨gb344, 1, none⟩ (.bool false)) = w68 at n0_ n1_ n2_ n3_ n4_ n5_ n6_ ⊢
            have HO_0 := n0_
            have HO_1 := n1_
            have HO_2 := n2_
            have HO_8 := n3_
            have HO_37 := n4_
            have BK344 := n5_
            have HB := n6_
            clear n0_ n1_ n2_ n3_ n4_ n5_ n6_
            have n0_ := Aside0.mk (Kd.V_drew HO_0.out)
            have n1_ := Aside0.mk (Kd.V_drew HO_1.out)
            have n2_ := Aside0.mk (Kd.V_drew HO_2.out)
            have n3_ := Aside0.mk (Kd.R_drew HO_8.out)
            have n4_ := Aside0.mk (Kd.R_drew HO_37.out)
            have n5_ := Aside0.mk (blk_drew BK344.out)
            have n6_ := Aside0.mk (below_drew1 HB.out)
            clear HO_0
            clear HO_1
            clear HO_2
            clear HO_8
            clear HO_37
            clear BK344
            clear HB
            have HO_0 := n0_
            have HO_1 := n1_
            have HO_2 := n2_
            have HO_8 := n3_
            have HO_37 := n4_
            have BK344 := n5_
            have HB := n6_
            clear n0_ n1_ n2_ n3_ n4_ n5_ n6_
            refine start_ (n := 5) (S := fun w' => w'.cell? ⟨gb344, 0, none⟩ = some (.int .i64 t342) ∧ w'.cell? ⟨gb344, 1, none⟩ = some (.bool false)) (ds := []) #[false, false, false, false, false] (by kernel_rfl) rfl rfl ⟨(blk_cell BK344.out 0).trans rfl, (blk_cell BK344.out 1).trans rfl⟩ (fun hHeld => ?_)
            generalize w68.drew = w69 at HO_0 HO_1 HO_2 HO_8 HO_37 BK344 HB hHeld ⊢
            refine pure_ (i := 1) (N := some 47) (v := ?_) (a' := ?_) #[false, true, false, false, false] rfl rfl (by kernel_rfl) (fun _ _ _ h => h) (Or.inl ⟨by rfl, ?_⟩) ?_ ?_
            rotate_left
            ·
             intro w'
             go_simp
             with_reducible rfl
            rotate_left
            ·
             simp only [Act.put, q1_, q2_, q3_, i64_w, i32_w]
             rfl
            refine pure_ (i := 2) (N := some 48) (v := ?_) (a' := ?_) #[false, true, true, false, false] rfl rfl (by kernel_rfl) (fun _ _ _ h => h) (Or.inl ⟨by rfl, ?_⟩) ?_ ?_
            rotate_left
            ·
             intro w'
             go_simp
             with_reducible rfl
            rotate_left
            ·
             simp only [Act.put, q1_, q2_, q3_, i64_w, i32_w]
             rfl
            refine take_ (i := 0) (N := some 46) (v := ?_) (a' := ?_) #[true, true, true, false, false] rfl rfl (by kernel_rfl) (fun _ _ _ h => h) (Or.inl ⟨by rfl, ?_⟩) hHeld ?_ ?_
            rotate_left
            ·
             rintro w' ⟨s0, s1⟩
             go_simp
             with_reducible rfl
            rotate_left
            ·
             simp only [Act.put, q1_, q2_, q3_, i64_w, i32_w]
             rfl
            refine one_ (i := 3) (N := some 49) #[true, true, true, true, false] rfl rfl (by kernel_rfl) (by decide) (fun K hK => ?_)
            refine goes_ Try.func66 (by kernel_rfl) rfl #[.slice A0 l0.length c0, .string (rdOf ByteArray.empty t338 x39_2)] (by rfl) rfl rfl mT_ ?_
            with_reducible refine (impl_thingAt.calls k2 _ _ l0 (rdOf ByteArray.empty t338 x39_2) t345 t346 _ ?side1 ?side2 A33.out).mono ?_
            (case side1 => repeat (first | exact (Kd.V_reads' HO_0.out).2.2 | (with_reducible refine Kd.C_alloc ?_ _) | (with_reducible refine Kd.C_drewN ?_ _) | (with_reducible refine Kd.C_drew ?_)))
            (case side2 => exact (Kd.V_reads' HO_0.out).2.1)
            rintro e w70 ⟨rfl, hb⟩
            refine ⟨_, rfl, ?_⟩
            have n0_ := Aside0.mk (Kd.V_below (vA_ HO_0.out) hb)
            have n1_ := Aside0.mk (Kd.V_below (vA_ HO_1.out) hb)
            have n2_ := Aside0.mk (Kd.V_below (vA_ HO_2.out) hb)
            have n3_ := Aside0.mk (Kd.R_below (rA_ HO_8.out) hb)
            have n4_ := Aside0.mk (Kd.R_below (rA_ HO_37.out) hb)
            have n5_ := Aside0.mk (blk_below (g := gb344) (o := .cells #[.int .i64 t342, .bool false] 93 (0, 0)) (bK_ BK344.out) hb)
            have n6_ := Aside0.mk (below_step (bC_ GE344.out) hb)
            clear HO_0
            clear HO_1
            clear HO_2
            clear HO_8
            clear HO_37
            clear BK344
            clear HB
            have HO_0 := n0_
            have HO_1 := n1_
            have HO_2 := n2_
            have HO_8 := n3_
            have HO_37 := n4_
            have BK344 := n5_
            have HB := n6_
            clear n0_ n1_ n2_ n3_ n4_ n5_ n6_
            (try clear hb)
            (try clear hb2)
            (try clear hk)
            (try clear hi)
            refine hK.out _ _ ⟨(blk_cell BK344.out 0).trans rfl, (blk_cell BK344.out 1).trans rfl⟩ (fun hHeld => ?_)
            clear hK K
            refine norm_ (a' := ?_) ?_ ?_
            rotate_left
            ·
             show Act.put _ (some 49) _ = _
             simp only [Act.put, q1_, q2_, q3_, i64_w, i32_w]
             rfl
            refine pure_ (i := 4) (N := some 50) (v := ?_) (a' := ?_) #[true, true, true, true, true] rfl rfl (by kernel_rfl) (fun _ _ _ h => h) (Or.inl ⟨by rfl, ?_⟩) ?_ ?_
            rotate_left
            ·
             intro w'
             go_simp
             with_reducible rfl
            rotate_left
            ·
             simp only [Act.put, q1_, q2_, q3_, i64_w, i32_w]
             rfl
            refine done_ (by kernel_rfl) ?_
            have hcz71_0 : w70.cell? ⟨gb344, 0, none⟩ = some (.int .i64 t342) := (blk_cell BK344.out 0).trans rfl
            have hcz71_1 : w70.cell? ⟨gb344, 1, none⟩ = some (.bool false) := (blk_cell BK344.out 1).trans rfl
            have hfz71_0 := blk_frozen BK344.out 0
            have hfz71_1 := blk_frozen BK344.out 1
            try go_wp2
            go_roundg k2
            case measure => have := HJ3.out; have := HK2.out; omega
            case rel => exact ⟨(x8_2), (wrap64 (x39_2 + 1)), rs_, H', ⟨by have := HJ3.out; have := HK2.out; omega⟩, ⟨by (with_reducible repeat (first | apply Kd.V_alloc | apply Kd.V_drewN | apply Kd.V_drew)); exact Kd.V_mono HO_0.out (fun _ hk => ⟨hk.1, ⟨hk.2.1, hk.2.2.1⟩⟩)⟩, ⟨by (with_reducible repeat (first | apply Kd.V_alloc | apply Kd.V_drewN | apply Kd.V_drew)); exact Kd.V_mono HO_1.out (fun _ hk => ⟨hk.1, ⟨hk.2.1, hk.2.2.1⟩⟩)⟩, ⟨by (with_reducible repeat (first | apply Kd.V_alloc | apply Kd.V_drewN | apply Kd.V_drew)); exact Kd.V_mono HO_2.out (fun _ hk => ⟨hk.1, ⟨hk.2.1, hk.2.2.1⟩⟩)⟩, ⟨rA_ HO_8.out⟩, ⟨rA_ HO_37.out⟩, ⟨bC_ GE344.out⟩⟩
         ·
          rw [if_neg c31] at H
          exact absurd H (by simp)
        ·
         rw [if_neg c30] at H
         exact absurd H (by simp)
       ·
        rw [if_neg c29] at H
        have c29b0 : decide (x39_2 < (t338.length : Int)) = false := decide_eq_false c29
        clear c29
        by_cases c72 : (x8_2.length : Int) > 24
        ·
         rw [if_pos c72] at H
         have c72b0 : decide (24 < (x8_2.length : Int)) = true := decide_eq_true c72
         have c72b1 : decide (24 < x8_2.length) = true := decide_eq_true (by omega)
         clear c72
         simp only [Option.some.injEq, Prod.mk.injEq] at H
         obtain ⟨rfl, rfl⟩ := H
         obtain ⟨Ao73, co73, eo73⟩ := Kd.R_slice HO_8.out
         subst eo73
         go_wp2
         go_ret2
         exact ⟨_, er_, by first | exact Kd.R_nil _ _ _ _ _ | exact Kd.N_nil _ _ _ _ _ | exact Kd.V_nil _ _ _ _ _ | exact Kd.Q_nil _ _ _ _ _ | exact Kd.S_nil _ _ _ _ _, bB_⟩
        ·
         rw [if_neg c72] at H
         have c72b0 : decide (24 < (x8_2.length : Int)) = false := decide_eq_false c72
         have c72b1 : decide (24 < x8_2.length) = false := decide_eq_false (by omega)
         clear c72
         simp only [Option.some.injEq, Prod.mk.injEq] at H
         obtain ⟨rfl, rfl⟩ := H
         obtain ⟨Ao74, co74, eo74⟩ := Kd.R_slice HO_8.out
         subst eo74
         go_wp2
         go_ret2
         exact ⟨_, er_, rA_ HO_8.out, bB_⟩

end Go.Proofs.Ytenjhbkpcelidaa.PFnExactMergeVersions
