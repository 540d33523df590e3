-- PRINTED by print.py (a twelfth state) out of the translation. Not trusted: Lean checks it.
import Derived.Test.YtenjhbkpcelidaaPFnExactMergeVersionsx0
import Derived.Test.YtenjhbkpcelidaaPFnExactMergeVersionsx1
import Derived.Test.YtenjhbkpcelidaaPFnExactMergeVersionsx4
namespace Go.Proofs.Ytenjhbkpcelidaa.PFnExactMergeVersions
open Go.RowKit Go.Proofs.YtenjhbkpcelidaaW.PrintWords Go.Proofs.YtenjhbkpcelidaaW.PrintLast Go.Proofs.YtenjhbkpcelidaaW.PrintMore
attribute [local go_sem] max2_int min2_int max_two min_two max_three min_three max_four min_four   -- for this text's walks alone
set_option linter.unusedVariables false
set_option linter.unusedSimpArgs false

attribute [local go_sem high] eqA71
/-! ### spec_l27Merge: function 64 -/
def spec_l27Merge.l0 : Nat → List (S71) → List (S71) → List (S71) → List ByteArray → List (S71) → Int → Option ((List (S71)) × Int)
 | 0, _, _, _, _, _, _ => none
 | k + 1, x0, x1, x2, x8, x9, x10 => if x10 < (x8.length : Int) then (if 0 ≤ x10 then ((spec_l27Get.f k x1 (rdOf ByteArray.empty x8 x10)).bind fun bt187 => ((spec_l27Get.f k x0 (rdOf ByteArray.empty x8 x10)).bind fun bt191 => (if (bt187.1.toList == bt191.1.toList && (bt187.2 == bt191.2)) = true then ((spec_l27Get.f k x2 (rdOf ByteArray.empty x8 x10)).bind fun bt194 => (if bt194.1.toList = ([] : List UInt8) then (spec_l27Merge.l0 k x0 x1 x2 x8 x9 (wrap64 (x10 + 1))) else (if x9.length < 5864062014805 then (spec_l27Merge.l0 k x0 x1 x2 x8 (x9 ++ [(⟨bt194.1, bt194.2⟩ : S71)]) (wrap64 (x10 + 1))) else (none)))) else (if bt187.1.toList = ([] : List UInt8) then (spec_l27Merge.l0 k x0 x1 x2 x8 x9 (wrap64 (x10 + 1))) else (if x9.length < 5864062014805 then (spec_l27Merge.l0 k x0 x1 x2 x8 (x9 ++ [(⟨bt187.1, bt187.2⟩ : S71)]) (wrap64 (x10 + 1))) else (none)))))) else (none)) else (if (x9.length : Int) > 24 then (some (([] : List (S71)), 5)) else (some (x9, 0)))
def spec_l27Merge.f (k : Nat) (l0 : List (S71)) (l1 : List (S71)) (l2 : List (S71)) : Option ((List (S71)) × Int) := (spec_l27Conflicts.f k l0 l1 l2).bind fun t177 => (if (t177.length : Int) > 0 then (some (([] : List (S71)), 6)) else ((spec_l27Names.f k l0 l1 l2).bind fun t180 => (spec_l27Merge.l0 k l0 l1 l2 t180 (([] : List (S71))) 0)))
theorem spec_l27Merge.mono_l : ∀ k, (∀ y0 y1 y2 y3 y4 y5, LeO (spec_l27Merge.l0 k y0 y1 y2 y3 y4 y5) (spec_l27Merge.l0 (k + 1) y0 y1 y2 y3 y4 y5))
 | 0 => fun _ _ _ _ _ _ r h => by simp [spec_l27Merge.l0] at h
 | k + 1 => by
  have ih0 := spec_l27Merge.mono_l k
  ·
   intro y0 y1 y2 y3 y4 y5
   unfold spec_l27Merge.l0
   repeat' first
   | (with_reducible exact ih0 _ _ _ _ _ _)
   | (with_reducible exact spec_l27Conflicts.mono _ _ _ _)
   | (with_reducible exact spec_l27Get.mono _ _ _)
   | (with_reducible exact spec_l27Names.mono _ _ _ _)
   | (with_reducible exact LeO.refl _)
   | (with_reducible exact LeO.none _)
   | (with_reducible refine LeO.ite ?_ ?_)
   | (with_reducible refine LeO.bind ?_ (fun _ => ?_))
   | exact ih0 _ _ _ _ _ _
   | exact spec_l27Conflicts.mono _ _ _ _
   | exact spec_l27Get.mono _ _ _
   | exact spec_l27Names.mono _ _ _ _
   | exact LeO.none _
   | refine LeO.ite ?_ ?_
   | refine LeO.bind ?_ (fun _ => ?_)
theorem spec_l27Merge.mono : ∀ a0 a1 a2 k, LeO (spec_l27Merge.f k a0 a1 a2) (spec_l27Merge.f (k + 1) a0 a1 a2) := by
 intro a0 a1 a2 k
 have ih0 := spec_l27Merge.mono_l k
 unfold spec_l27Merge.f
 repeat' first
   | (with_reducible exact ih0 _ _ _ _ _ _)
   | (with_reducible exact spec_l27Conflicts.mono _ _ _ _)
   | (with_reducible exact spec_l27Get.mono _ _ _)
   | (with_reducible exact spec_l27Names.mono _ _ _ _)
   | (with_reducible exact LeO.refl _)
   | (with_reducible exact LeO.none _)
   | (with_reducible refine LeO.ite ?_ ?_)
   | (with_reducible refine LeO.bind ?_ (fun _ => ?_))
   | exact ih0 _ _ _ _ _ _
   | exact spec_l27Conflicts.mono _ _ _ _
   | exact spec_l27Get.mono _ _ _
   | exact spec_l27Names.mono _ _ _ _
   | exact LeO.none _
   | refine LeO.ite ?_ ?_
   | refine LeO.bind ?_ (fun _ => ?_)
def spec_l27Merge.T9 : Bool × List (List Nat × List Nat) := (true, [([], []), ([], []), ([], []), ([], []), ([2, 3], [2, 3]), ([4], [4]), ([1, 5], [1, 5]), ([0, 6], [0, 6])])
def spec_l27Merge.B9 : List Nat := [0, 0, 0, 0, 12, 28, 62, 127]
theorem spec_l27Merge.tab9 : rtab .any (opsOf Try.f64 9) = spec_l27Merge.T9 := by kernel_rfl
theorem spec_l27Merge.bits9 : waitsOk spec_l27Merge.T9.2 spec_l27Merge.B9 = true := by kernel_rfl
set_option maxHeartbeats 8000000 in
set_option maxRecDepth 100000 in
theorem spec_l27Merge.calls (k : Nat) (A0 : Option Addr) (c0 : Nat) (l0 : List (S71)) (A1 : Option Addr) (c1 : Nat) (l1 : List (S71)) (A2 : Option Addr) (c2 : Nat) (l2 : List (S71)) (r1 : List (S71)) (r2 : Int) (w : World) (hr0 : Kd.C k71 w A0 l0.length l0) (hc0 : l0.length ≤ c0) (hr1 : Kd.C k71 w A1 l1.length l1) (hc1 : l1.length ≤ c1) (hr2 : Kd.C k71 w A2 l2.length l2) (hc2 : l2.length ≤ c2) (h : spec_l27Merge.f k l0 l1 l2 = some (r1, r2)) :
  Calls Try.prog 64 #[.slice A0 l0.length c0, .slice A1 l1.length c1, .slice A2 l2.length c2] w fun e w' => ∃ v0_ : Value, e = .returned (.tuple #[v0_, .int .i64 r2]) ∧ Kd.R k71 71 w' w.heap.size (fun _ => True) v0_ r1 ∧ Below w.heap.size w w' := by
 have hu71 := Try.underlying71
 have HR0 := Aside0.mk hr0
 have HC0 := Aside0.mk hc0
 clear hr0 hc0
 have HR1 := Aside0.mk hr1
 have HC1 := Aside0.mk hc1
 clear hr1 hc1
 have HR2 := Aside0.mk hr2
 have HC2 := Aside0.mk hc2
 clear hr2 hc2
 have HB := Aside0.mk (Below.refl w.heap.size w)
 have H : ((spec_l27Conflicts.f k l0 l1 l2).bind fun t177 => (if (t177.length : Int) > 0 then (some (([] : List (S71)), 6)) else ((spec_l27Names.f k l0 l1 l2).bind fun t180 => (spec_l27Merge.l0 k l0 l1 l2 t180 (([] : List (S71))) 0)))) = some (r1, r2) := h
 clear h
 replace H := Option.bind_eq_some_iff.mp H
 obtain ⟨t177, A40, H⟩ := H
 replace H : (if (t177.length : Int) > 0 then (some (([] : List (S71)), 6)) else ((spec_l27Names.f k l0 l1 l2).bind fun t180 => (spec_l27Merge.l0 k l0 l1 l2 t180 (([] : List (S71))) 0))) = some (r1, r2) := H
 have A4 := Aside0.mk A40
 clear A40
 by_cases c5 : (t177.length : Int) > 0
 ·
  rw [if_pos c5] at H
  have c5b0 : decide (0 < (t177.length : Int)) = true := decide_eq_true c5
  have c5b1 : decide (0 < t177.length) = true := decide_eq_true (by omega)
  clear c5
  simp only [Option.some.injEq, Prod.mk.injEq] at H
  obtain ⟨rfl, rfl⟩ := H
  go_enter Try.func64, Try.ntmps64
  go_wp2_with (first | ((with_reducible refine gate_callee (f := 62) rfl ?_); refine goesL_ (some 15) rfl rfl Try.func62 (by kernel_rfl) rfl #[.slice A0 l0.length c0, .slice A1 l1.length c1, .slice A2 l2.length c2] rfl mT_ ?_; (with_reducible refine (spec_l27Conflicts.calls k _ _ l0 _ _ l1 _ _ l2 t177 _ ?side1 ?side2 ?side3 ?side4 ?side5 ?side6 A4.out).mono ?_); (case side1 => exact cA_ HR0.out); (case side2 => exact HC0.out); (case side3 => exact cA_ HR1.out); (case side4 => exact HC1.out); (case side5 => exact cA_ HR2.out); (case side6 => exact HC2.out); rintro e w6 ⟨v178, rfl, ho0, hb⟩; refine ⟨_, rfl, ?_⟩; have n0_ := Aside0.mk (Kd.R_lower ho0 (below_size bB_)); have n1_ := Aside0.mk (below_step bB_ hb); clear HB; have HO179 := n0_; have HB := n1_; clear n0_ n1_; (try clear hb); (try clear hb2); (try clear hk); (try clear hi); (try clear ho0); obtain ⟨Ao7, co7, eo7⟩ := Kd.R_slice HO179.out; subst eo7))
  go_ret2
  exact ⟨_, er_, by first | exact Kd.R_nil _ _ _ _ _ | exact Kd.N_nil _ _ _ _ _ | exact Kd.V_nil _ _ _ _ _ | exact Kd.Q_nil _ _ _ _ _ | exact Kd.S_nil _ _ _ _ _, bB_⟩
 ·
  rw [if_neg c5] at H
  have c5b0 : decide (0 < (t177.length : Int)) = false := decide_eq_false c5
  have c5b1 : decide (0 < t177.length) = false := decide_eq_false (by omega)
  clear c5
  replace H := Option.bind_eq_some_iff.mp H
  obtain ⟨t180, A80, H⟩ := H
  replace H : (spec_l27Merge.l0 k l0 l1 l2 t180 (([] : List (S71))) 0) = some (r1, r2) := H
  have A8 := Aside0.mk A80
  clear A80
  obtain ⟨y183, hy183⟩ : ∃ y_ : List (S71), y_ = (([] : List (S71))) := ⟨_, rfl⟩
  replace H : (spec_l27Merge.l0 k l0 l1 l2 t180 y183 0) = some (r1, r2) := by first | (rw [hy183]; with_reducible exact H) | (have H2_ := (Option.bind_some _ _).symm.trans H; rw [hy183]; with_reducible exact H2_) | (have H2_ := (Option.bind_some _ _).symm.trans H; with_reducible exact H2_) | with_reducible exact H | (rw [hy183]; exact H) | exact H
  have Ny183 := Aside0.mk hy183
  clear hy183
  have H' := Aside0.mk H
  clear H
  go_enter Try.func64, Try.ntmps64
  go_wp2_with (first | ((with_reducible refine gate_callee (f := 62) rfl ?_); refine goesL_ (some 15) rfl rfl Try.func62 (by kernel_rfl) rfl #[.slice A0 l0.length c0, .slice A1 l1.length c1, .slice A2 l2.length c2] rfl mT_ ?_; (with_reducible refine (spec_l27Conflicts.calls k _ _ l0 _ _ l1 _ _ l2 t177 _ ?side1 ?side2 ?side3 ?side4 ?side5 ?side6 A4.out).mono ?_); (case side1 => exact cA_ HR0.out); (case side2 => exact HC0.out); (case side3 => exact cA_ HR1.out); (case side4 => exact HC1.out); (case side5 => exact cA_ HR2.out); (case side6 => exact HC2.out); rintro e w9 ⟨v178, rfl, ho0, hb⟩; refine ⟨_, rfl, ?_⟩; have n0_ := Aside0.mk (Kd.R_lower ho0 (below_size bB_)); have n1_ := Aside0.mk (below_step bB_ hb); clear HB; have HO179 := n0_; have HB := n1_; clear n0_ n1_; (try clear hb); (try clear hb2); (try clear hk); (try clear hi); (try clear ho0); obtain ⟨Ao10, co10, eo10⟩ := Kd.R_slice HO179.out; subst eo10) | ((with_reducible refine gate_callee (f := 94) rfl ?_); refine goesL_ (some 21) rfl rfl Try.func94 (by kernel_rfl) rfl #[.slice A0 l0.length c0, .slice A1 l1.length c1, .slice A2 l2.length c2] rfl mT_ ?_; (with_reducible refine (spec_l27Names.calls k _ _ l0 _ _ l1 _ _ l2 t180 _ ?side1 ?side2 ?side3 ?side4 ?side5 ?side6 A8.out).mono ?_); (case side1 => exact cA_ (Kd.C_below HR0.out HB.out)); (case side2 => exact HC0.out); (case side3 => exact cA_ (Kd.C_below HR1.out HB.out)); (case side4 => exact HC1.out); (case side5 => exact cA_ (Kd.C_below HR2.out HB.out)); (case side6 => exact HC2.out); rintro e w11 ⟨v181, rfl, ho0, hb⟩; refine ⟨_, rfl, ?_⟩; have n0_ := Aside0.mk (Kd.R_elder' (rA_ HO179.out) (Kd.R_base ho0) hb); have n1_ := Aside0.mk (Kd.R_lower (Kd.R_new' ho0 (Kd.R_lt (rA_ HO179.out))) (below_size bB_)); have n2_ := Aside0.mk (below_step bB_ hb); clear HO179; clear HB; have HO179 := n0_; have HO182 := n1_; have HB := n2_; clear n0_ n1_ n2_; (try clear hb); (try clear hb2); (try clear hk); (try clear hi); (try clear ho0)) | ((with_reducible refine gate_dst (N := 22) rfl ?_); refine Kd.R_lit k71 _ 71 ?hg (N := 22) ?hd (xs := ([] : List (S71))) (inner := []) (ok := fun _ => True) (okp := fun _ => True) ?hr ?hp (fun _ hk => hk) trivial (Below.refl _ _) (Nat.le_refl _) (by simp) ?_; (case hd => rfl); (case hg => rfl); (case hr => first | (go_simp; done) | (go_simp; rfl)); (case hp => exact (Reps.none _ _)); intro v184 w12 ho13 hb hg_ hnew_; clear hg_ hnew_; (first | rw [← Ny183.out] at ho13 | (simp only [Int.reduceToNat] at ho13; rw [← Ny183.out] at ho13)); have n0_ := Aside0.mk (Kd.R_below (rA_ HO179.out) hb); have n1_ := Aside0.mk (Kd.R_below (rA_ HO182.out) hb); have n2_ := Aside0.mk (Kd.R_lower ho13 (below_size bB_)); have n3_ := Aside0.mk (below_step bB_ hb); clear HO179; clear HO182; clear HB; have HO179 := n0_; have HO182 := n1_; have HO185 := n2_; have HB := n3_; clear n0_ n1_ n2_ n3_; clear hb ho13))
  go_loopg [9, 10] k (fun kq v9 v10 w' => ∃ (x9_1 : List (S71)) (x10_1 : Int), v10 = .int .i64 x10_1 ∧ Aside0 (spec_l27Merge.l0 kq l0 l1 l2 t180 x9_1 x10_1 = some (r1, r2)) ∧ Aside0 (kq ≤ k) ∧ Aside0 (Kd.R Kd.string 9 w' w.heap.size (fun _ => True) v181 t180) ∧ Aside0 (Kd.R k71 71 w' w.heap.size (fun _ => True) v9 x9_1) ∧ Aside0 (Below w.heap.size w w'))
  case atStart => exact ⟨(y183), (0), rs_, H', ⟨Nat.le_refl _⟩, ⟨by (with_reducible repeat (first | apply Kd.R_alloc | apply Kd.R_drewN | apply Kd.R_drew)); exact Kd.R_mono HO182.out (fun _ hk => trivial)⟩, ⟨rA_ HO185.out⟩, ⟨bB_⟩⟩
  case round =>
   clear H'
   try clear c1
   try clear c2
   try clear p2
   try clear c5
   try clear c5b0
   try clear c5b1
   try clear c6
   try clear c9
   obtain ⟨x9_1, x10_1, rfl, HA, HK1, HO_8, HO_9, HB⟩ := hrel
   cases gk with
   | zero => exact absurd HA.out (by simp [spec_l27Merge.l0])
   | succ k1 =>
    have H := HA.out
    clear HA
    simp only [spec_l27Merge.l0] at H
    by_cases c14 : x10_1 < (t180.length : Int)
    ·
     rw [if_pos c14] at H
     have c14b0 : decide (x10_1 < (t180.length : Int)) = true := decide_eq_true c14
     clear c14
     by_cases c15 : 0 ≤ x10_1
     ·
      rw [if_pos c15] at H
      have c15b0 : decide (0 ≤ x10_1) = true := decide_eq_true c15
      clear c15
      replace H := Option.bind_eq_some_iff.mp H
      obtain ⟨⟨t187, t188⟩, A160, H⟩ := H
      replace H : ((spec_l27Get.f k1 l0 (rdOf ByteArray.empty t180 x10_1)).bind fun bt191 => (if (t187.toList == bt191.1.toList && (t188 == bt191.2)) = true then ((spec_l27Get.f k1 l2 (rdOf ByteArray.empty t180 x10_1)).bind fun bt194 => (if bt194.1.toList = ([] : List UInt8) then (spec_l27Merge.l0 k1 l0 l1 l2 t180 x9_1 (wrap64 (x10_1 + 1))) else (if x9_1.length < 5864062014805 then (spec_l27Merge.l0 k1 l0 l1 l2 t180 (x9_1 ++ [(⟨bt194.1, bt194.2⟩ : S71)]) (wrap64 (x10_1 + 1))) else (none)))) else (if t187.toList = ([] : List UInt8) then (spec_l27Merge.l0 k1 l0 l1 l2 t180 x9_1 (wrap64 (x10_1 + 1))) else (if x9_1.length < 5864062014805 then (spec_l27Merge.l0 k1 l0 l1 l2 t180 (x9_1 ++ [(⟨t187, t188⟩ : S71)]) (wrap64 (x10_1 + 1))) else (none))))) = some (r1, r2) := H
      have A16 := Aside0.mk A160
      clear A160
      replace H := Option.bind_eq_some_iff.mp H
      obtain ⟨⟨t191, t192⟩, A170, H⟩ := H
      replace H : (if (t187.toList == t191.toList && (t188 == t192)) = true then ((spec_l27Get.f k1 l2 (rdOf ByteArray.empty t180 x10_1)).bind fun bt194 => (if bt194.1.toList = ([] : List UInt8) then (spec_l27Merge.l0 k1 l0 l1 l2 t180 x9_1 (wrap64 (x10_1 + 1))) else (if x9_1.length < 5864062014805 then (spec_l27Merge.l0 k1 l0 l1 l2 t180 (x9_1 ++ [(⟨bt194.1, bt194.2⟩ : S71)]) (wrap64 (x10_1 + 1))) else (none)))) else (if t187.toList = ([] : List UInt8) then (spec_l27Merge.l0 k1 l0 l1 l2 t180 x9_1 (wrap64 (x10_1 + 1))) else (if x9_1.length < 5864062014805 then (spec_l27Merge.l0 k1 l0 l1 l2 t180 (x9_1 ++ [(⟨t187, t188⟩ : S71)]) (wrap64 (x10_1 + 1))) else (none)))) = some (r1, r2) := H
      have A17 := Aside0.mk A170
      clear A170
      by_cases c18 : (t187.toList == t191.toList && (t188 == t192)) = true
      ·
       rw [if_pos c18] at H
       have c18b0 : (t187.toList == t191.toList && (t188 == t192)) = true := c18
       (try (have c18b1 : decide (t187.toList = t191.toList && (t188 == t192)) = true := by simpa using c18))
       (try (have c18b2 : (t187.toList == t191.toList && (t188 == t192)) = true := by simpa using c18))
       clear c18
       replace H := Option.bind_eq_some_iff.mp H
       obtain ⟨⟨t194, t195⟩, A190, H⟩ := H
       replace H : (if t194.toList = ([] : List UInt8) then (spec_l27Merge.l0 k1 l0 l1 l2 t180 x9_1 (wrap64 (x10_1 + 1))) else (if x9_1.length < 5864062014805 then (spec_l27Merge.l0 k1 l0 l1 l2 t180 (x9_1 ++ [(⟨t194, t195⟩ : S71)]) (wrap64 (x10_1 + 1))) else (none))) = some (r1, r2) := H
       have A19 := Aside0.mk A190
       clear A190
       by_cases c20 : t194.toList = ([] : List UInt8)
       ·
        rw [if_pos c20] at H
        have c20b0 : (t194.toList == ([] : List UInt8)) = true := beq_iff_eq.mpr c20
        have c20b1 : (t194.toList != ([] : List UInt8)) = false := bne_eq_false_iff_eq.mpr c20
        clear c20
        have H' := Aside0.mk H
        clear H
        obtain ⟨Ao21, co21, eo21⟩ := Kd.R_slice HO_8.out
        subst eo21
        have p186 : 0 ≤ (x10_1 : Int) := of_decide_eq_true as_
        have q186 : x10_1 < (t180.length : Int) := of_decide_eq_true as_
        obtain ⟨ad186, e186, hx186_0⟩ := Kd.at_string (Kd.R_reads' HO_8.out).2.2 x10_1 p186 q186
        cases e186
        replace p186 := eq_true p186
        replace q186 := eq_true q186
        try go_wp2_with (first | ((with_reducible refine gate_callee (f := 95) rfl ?_); refine goesL_ (some 34) rfl rfl Try.func95 (by kernel_rfl) rfl #[.slice A1 l1.length c1, .string (rdOf ByteArray.empty t180 x10_1)] rfl mT_ ?_; (with_reducible refine (spec_l27Get.calls k1 _ _ l1 (rdOf ByteArray.empty t180 x10_1) t187 t188 _ ?side1 ?side2 A16.out).mono ?_); (case side1 => exact cA_ (Kd.C_below HR1.out HB.out)); (case side2 => exact HC1.out); rintro e w22 ⟨rfl, hb⟩; refine ⟨_, rfl, ?_⟩; have n0_ := Aside0.mk (Kd.R_below (rA_ HO_8.out) hb); have n1_ := Aside0.mk (Kd.R_below (rA_ HO_9.out) hb); have n2_ := Aside0.mk (below_step bB_ hb); clear HO_8; clear HO_9; clear HB; have HO_8 := n0_; have HO_9 := n1_; have HB := n2_; clear n0_ n1_ n2_; (try clear hb); (try clear hb2); (try clear hk); (try clear hi)) | ((with_reducible refine gate_dst (N := 11) rfl ?_); refine box_event ?hg (N := 11) ?hd (cs := #[.string (⟨#[]⟩ : ByteArray), .int .i64 0]) (t := 71) ?hr ?_; (case hd => rfl); (case hg => rfl); (case hr => first | (go_simp; done) | (go_simp; rfl)); intro gb189 hg w23 hbox hb; have n0_ := Aside0.mk (Kd.R_below (rA_ HO_8.out) hb); have n1_ := Aside0.mk (Kd.R_below (Kd.R_elderB (rA_ HO_9.out) gb189 (Nat.le_of_eq hg.symm)) hb); have n2_ := Aside0.mk (below_step bB_ hb); have n3_ := Aside0.mk (hbox); have n4_ := Aside0.mk ((by rw [hg]; exact (below_size bB_) : w.heap.size ≤ gb189)); have n5_ := Aside0.mk ((by rw [hg]; exact (below_size bB_) : w.heap.size ≤ gb189)); clear HO_8; clear HO_9; clear HB; have HO_8 := n0_; have HO_9 := n1_; have HB := n2_; have BK189 := n3_; have GW189 := n4_; have GE189 := n5_; clear n0_ n1_ n2_ n3_ n4_ n5_; clear hb hbox hg; have hcz24_0 : w23.cell? ⟨gb189, 0, none⟩ = some (.string (⟨#[]⟩ : ByteArray)) := (blk_cell BK189.out 0).trans rfl; have hcz24_1 : w23.cell? ⟨gb189, 1, none⟩ = some (.int .i64 0) := (blk_cell BK189.out 1).trans rfl; have hfz24_0 := blk_frozen BK189.out 0; have hfz24_1 := blk_frozen BK189.out 1))
        have n0_ : Aside0 (Kd.R Kd.string 9 ((w23.setCell ⟨gb189, 0, none⟩ (.string t187)).setCell ⟨gb189, 1, none⟩ (.int .i64 t188)) w.heap.size (fun _ => True) (.slice (some ad186) t180.length co21) t180) := ⟨by (with_reducible repeat (first | apply Kd.R_alloc | apply Kd.R_drewN | apply Kd.R_drew)); exact Kd.R_mono (Kd.R_far (p := ⟨gb189, 1, none⟩) (Kd.R_far (p := ⟨gb189, 0, none⟩) (Kd.R_types HO_8.out BK189.out (by decide)) (fun _ hk => hk.2) (.string t187)) (fun _ hk => hk.2) (.int .i64 t188)) (fun _ hk => trivial)⟩
        have n1_ : Aside0 (Kd.R k71 71 ((w23.setCell ⟨gb189, 0, none⟩ (.string t187)).setCell ⟨gb189, 1, none⟩ (.int .i64 t188)) w.heap.size (fun k_ => k_ ≠ gb189) u9 x9_1) := ⟨by (with_reducible repeat (first | apply Kd.R_alloc | apply Kd.R_drewN | apply Kd.R_drew)); exact Kd.R_mono (Kd.R_far (p := ⟨gb189, 1, none⟩) (Kd.R_far (p := ⟨gb189, 0, none⟩) (Kd.R_mono HO_9.out (fun k_ hk => (⟨hk, hk.2⟩ : _ ∧ k_ ≠ gb189))) (fun _ hk => hk.2) (.string t187)) (fun _ hk => hk.2) (.int .i64 t188)) (fun _ hk => hk.1.2)⟩
        have n2_ : Aside0 (((w23.setCell ⟨gb189, 0, none⟩ (.string t187)).setCell ⟨gb189, 1, none⟩ (.int .i64 t188)).heap[gb189]? = some (.cells #[.string t187, .int .i64 t188] 71 (0, 0))) := ⟨by (with_reducible repeat (first | refine blk_drewN ?_ _ | refine blk_drew ?_ | refine blk_alloc ?_ _)); refine blk_put (cs := #[.string t187, .int .i64 0]) ?_ 1 _ rfl; (with_reducible repeat (first | refine blk_drewN ?_ _ | refine blk_drew ?_ | refine blk_alloc ?_ _)); refine blk_put (cs := #[.string (⟨#[]⟩ : ByteArray), .int .i64 0]) ?_ 0 _ rfl; (with_reducible repeat (first | refine blk_drewN ?_ _ | refine blk_drew ?_ | refine blk_alloc ?_ _)); exact BK189.out⟩
        have n3_ : Aside0 (Below w.heap.size w ((w23.setCell ⟨gb189, 0, none⟩ (.string t187)).setCell ⟨gb189, 1, none⟩ (.int .i64 t188))) := ⟨bC_ GE189.out⟩
        (try clear HO_8)
        (try clear HO_9)
        (try clear BK189)
        (try clear HB)
        generalize ((w23.setCell ⟨gb189, 0, none⟩ (.string t187)).setCell ⟨gb189, 1, none⟩ (.int .i64 t188)) = w25 at n0_ n1_ n2_ n3_ ⊢
        have HO_8 := n0_
        have HO_9 := n1_
        have BK189 := n2_
        have HB := n3_
        clear n0_ n1_ n2_ n3_
        have n0_ := Aside0.mk (Kd.R_drew HO_8.out)
        have n1_ := Aside0.mk (Kd.R_drew HO_9.out)
        have n2_ := Aside0.mk (blk_drew BK189.out)
        have n3_ := Aside0.mk (below_drew1 HB.out)
        clear HO_8
        clear HO_9
        clear BK189
        clear HB
        have HO_8 := n0_
        have HO_9 := n1_
        have BK189 := n2_
        have HB := n3_
        clear n0_ n1_ n2_ n3_
        have p190 : 0 ≤ (x10_1 : Int) := of_decide_eq_true as_
        have q190 : x10_1 < (t180.length : Int) := of_decide_eq_true as_
        obtain ⟨ad190, e190, hx190_0⟩ := Kd.at_string (Kd.R_reads' HO_8.out).2.2 x10_1 p190 q190
        obtain rfl : ad186 = ad190 := (by injection e190)
        replace p190 := eq_true p190
        replace q190 := eq_true q190
        refine start_ (n := 8) (S := fun w' => w'.cell? ⟨gb189, 0, none⟩ = some (.string t187) ∧ w'.cell? ⟨gb189, 1, none⟩ = some (.int .i64 t188) ∧ w'.cell? (ad186.add (x10_1).toNat) = some (.string (rdOf ByteArray.empty t180 x10_1))) (ds := []) #[false, false, false, false, false, false, false, false] (by kernel_rfl) rfl rfl ⟨(blk_cell BK189.out 0).trans rfl, (blk_cell BK189.out 1).trans rfl, hx190_0⟩ (fun hHeld => ?_); refine with_tabW spec_l27Merge.tab9 spec_l27Merge.bits9 (fun HT_ HW_ => ?_)
        generalize w25.drew = w26 at HO_8 HO_9 BK189 HB hx190_0 hHeld ⊢
        refine pure_ (i := 1) (N := some 36) (v := ?_) (a' := ?_) #[false, true, false, false, false, false, false, false] rfl rfl (any_of HT_.out (by kernel_rfl)) (fun _ _ _ h => h) (Or.inl ⟨by rfl, ?_⟩) ?_ ?_
        rotate_left
        ·
         intro w'
         go_simp
         with_reducible rfl
        rotate_left
        ·
         simp only [Act.put, q1_, q2_, q3_, i64_w, i32_w]
         rfl
        refine pure_ (i := 2) (N := some 37) (v := ?_) (a' := ?_) #[false, true, true, false, false, false, false, false] rfl rfl (any_of HT_.out (by kernel_rfl)) (fun _ _ _ h => h) (Or.inl ⟨by rfl, ?_⟩) ?_ ?_
        rotate_left
        ·
         intro w'
         go_simp
         with_reducible rfl
        rotate_left
        ·
         simp only [Act.put, q1_, q2_, q3_, i64_w, i32_w]
         rfl
        refine pure_ (i := 3) (N := some 38) (v := ?_) (a' := ?_) #[false, true, true, true, false, false, false, false] rfl rfl (any_of HT_.out (by kernel_rfl)) (fun _ _ _ h => h) (Or.inl ⟨by rfl, ?_⟩) ?_ ?_
        rotate_left
        ·
         intro w'
         go_simp
         with_reducible rfl
        rotate_left
        ·
         simp only [Act.put, q1_, q2_, q3_, i64_w, i32_w]
         rfl
        refine pure_ (i := 4) (N := some 39) (v := ?_) (a' := ?_) #[false, true, true, true, true, false, false, false] rfl rfl (any_of HT_.out (by kernel_rfl)) (fun _ _ _ h => h) (Or.inl ⟨by rfl, ?_⟩) ?_ ?_
        rotate_left
        ·
         intro w'
         go_simp
         with_reducible rfl
        rotate_left
        ·
         simp only [Act.put, q1_, q2_, q3_, i64_w, i32_w]
         rfl
        refine take_ (i := 0) (N := some 35) (v := ?_) (a' := ?_) #[true, true, true, true, true, false, false, false] rfl rfl (take_ofW HT_.out HW_.out (by kernel_rfl)) (fun _ _ _ h => h) (Or.inl ⟨by rfl, ?_⟩) hHeld ?_ ?_
        rotate_left
        ·
         rintro w' ⟨s0, s1, s2⟩
         go_simp
         with_reducible rfl
        rotate_left
        ·
         simp only [Act.put, q1_, q2_, q3_, i64_w, i32_w]
         rfl
        refine take_ (i := 5) (N := some 40) (v := ?_) (a' := ?_) #[true, true, true, true, true, true, false, false] rfl rfl (take_ofW HT_.out HW_.out (by kernel_rfl)) (fun _ _ _ h => h) (Or.inl ⟨by rfl, ?_⟩) hHeld ?_ ?_
        rotate_left
        ·
         rintro w' ⟨s0, s1, s2⟩
         go_simp
         with_reducible rfl
        rotate_left
        ·
         simp only [Act.put, q1_, q2_, q3_, i64_w, i32_w]
         rfl
        refine one_ (i := 6) (N := some 41) #[true, true, true, true, true, true, true, false] rfl rfl (one_of HT_.out (by kernel_rfl)) (by decide) (fun K hK => ?_)
        refine goes_ Try.func95 (by kernel_rfl) rfl #[.slice A0 l0.length c0, .string (rdOf ByteArray.empty t180 x10_1)] (by rfl) rfl rfl mT_ ?_
        with_reducible refine (spec_l27Get.calls k1 _ _ l0 (rdOf ByteArray.empty t180 x10_1) t191 t192 _ ?side1 ?side2 A17.out).mono ?_
        (case side1 => exact cA_ (Kd.C_below HR0.out HB.out))
        (case side2 => exact HC0.out)
        rintro e w27 ⟨rfl, hb⟩
        have HS2_ := (hb.cell (World.block_lt_of_cell? _ _ (hHeld.2.2))).trans (hHeld.2.2)
        refine ⟨_, rfl, ?_⟩
        have n0_ := Aside0.mk (Kd.R_below (rA_ HO_8.out) hb)
        have n1_ := Aside0.mk (Kd.R_below (rA_ HO_9.out) hb)
        have n2_ := Aside0.mk (blk_below (g := gb189) (o := .cells #[.string t187, .int .i64 t188] 71 (0, 0)) (bK_ BK189.out) hb)
        have n3_ := Aside0.mk (below_step (bC_ GE189.out) hb)
        clear HO_8
        clear HO_9
        clear BK189
        clear HB
        have HO_8 := n0_
        have HO_9 := n1_
        have BK189 := n2_
        have HB := n3_
        clear n0_ n1_ n2_ n3_
        (try clear hb)
        (try clear hb2)
        (try clear hk)
        (try clear hi)
        refine hK.out _ _ ⟨(blk_cell BK189.out 0).trans rfl, (blk_cell BK189.out 1).trans rfl, HS2_⟩ (fun hHeld => ?_)
        clear hK K
        refine norm_ (a' := ?_) ?_ ?_
        rotate_left
        ·
         show Act.put _ (some 41) _ = _
         simp only [Act.put, q1_, q2_, q3_, i64_w, i32_w]
         rfl
        refine pure_ (i := 7) (N := some 42) (v := ?_) (a' := ?_) #[true, true, true, true, true, true, true, true] rfl rfl (any_of HT_.out (by kernel_rfl)) (fun _ _ _ h => h) (Or.inl ⟨by rfl, ?_⟩) ?_ ?_
        rotate_left
        ·
         intro w'
         go_simp
         with_reducible rfl
        rotate_left
        ·
         simp only [Act.put, q1_, q2_, q3_, i64_w, i32_w]
         rfl
        refine done_ (done_of HT_.out (by kernel_rfl)) ?_
        have p193 : 0 ≤ (x10_1 : Int) := of_decide_eq_true as_
        have q193 : x10_1 < (t180.length : Int) := of_decide_eq_true as_
        obtain ⟨ad193, e193, hx193_0⟩ := Kd.at_string (Kd.R_reads' HO_8.out).2.2 x10_1 p193 q193
        obtain rfl : ad186 = ad193 := (by injection e193)
        replace p193 := eq_true p193
        replace q193 := eq_true q193
        try go_wp2_with (first | ((with_reducible refine gate_callee (f := 95) rfl ?_); refine goesL_ (some 48) rfl rfl Try.func95 (by kernel_rfl) rfl #[.slice A2 l2.length c2, .string (rdOf ByteArray.empty t180 x10_1)] rfl mT_ ?_; (with_reducible refine (spec_l27Get.calls k1 _ _ l2 (rdOf ByteArray.empty t180 x10_1) t194 t195 _ ?side1 ?side2 A19.out).mono ?_); (case side1 => exact cA_ (Kd.C_below HR2.out HB.out)); (case side2 => exact HC2.out); rintro e w28 ⟨rfl, hb⟩; refine ⟨_, rfl, ?_⟩; have n0_ := Aside0.mk (Kd.R_below (rA_ HO_8.out) hb); have n1_ := Aside0.mk (Kd.R_below (rA_ HO_9.out) hb); have n2_ := Aside0.mk (blk_below (g := gb189) (o := .cells #[.string t187, .int .i64 t188] 71 (0, 0)) (bK_ BK189.out) hb); have n3_ := Aside0.mk (below_step (bC_ GE189.out) hb); clear HO_8; clear HO_9; clear BK189; clear HB; have HO_8 := n0_; have HO_9 := n1_; have BK189 := n2_; have HB := n3_; clear n0_ n1_ n2_ n3_; (try clear hb); (try clear hb2); (try clear hk); (try clear hi); have hcz29_0 : w28.cell? ⟨gb189, 0, none⟩ = some (.string t187) := (blk_cell BK189.out 0).trans rfl; have hcz29_1 : w28.cell? ⟨gb189, 1, none⟩ = some (.int .i64 t188) := (blk_cell BK189.out 1).trans rfl; have hfz29_0 := blk_frozen BK189.out 0; have hfz29_1 := blk_frozen BK189.out 1))
        go_roundg k1
        case measure => have := HK1.out; omega
        case rel => exact ⟨(x9_1), (wrap64 (x10_1 + 1)), rs_, H', ⟨by have := HK1.out; omega⟩, ⟨by (with_reducible repeat (first | apply Kd.R_alloc | apply Kd.R_drewN | apply Kd.R_drew)); exact Kd.R_mono (Kd.R_far (p := ⟨gb189, 1, none⟩) (Kd.R_far (p := ⟨gb189, 0, none⟩) (Kd.R_types HO_8.out BK189.out (by decide)) (fun _ hk => hk.2) (.string t194)) (fun _ hk => hk.2) (.int .i64 t195)) (fun _ hk => trivial)⟩, ⟨by (with_reducible repeat (first | apply Kd.R_alloc | apply Kd.R_drewN | apply Kd.R_drew)); exact Kd.R_mono (Kd.R_far (p := ⟨gb189, 1, none⟩) (Kd.R_far (p := ⟨gb189, 0, none⟩) (Kd.R_mono HO_9.out (fun k_ hk => (⟨hk, hk⟩ : _ ∧ k_ ≠ gb189))) (fun _ hk => hk.2) (.string t194)) (fun _ hk => hk.2) (.int .i64 t195)) (fun _ hk => trivial)⟩, ⟨bC_ GE189.out⟩⟩
       ·
        rw [if_neg c20] at H
        have c20b0 : (t194.toList == ([] : List UInt8)) = false := beq_eq_false_iff_ne.mpr c20
        have c20b1 : (t194.toList != ([] : List UInt8)) = true := bne_iff_ne.mpr c20
        by_cases c30 : x9_1.length < 5864062014805
        ·
         rw [if_pos c30] at H
         have LMc30 := Aside0.mk c30
         clear c30
         obtain ⟨y196, hy196⟩ : ∃ y_ : List (S71), y_ = (x9_1 ++ [(⟨t194, t195⟩ : S71)]) := ⟨_, rfl⟩
         replace H : (spec_l27Merge.l0 k1 l0 l1 l2 t180 y196 (wrap64 (x10_1 + 1))) = some (r1, r2) := by first | (rw [hy196]; with_reducible exact H) | (have H2_ := (Option.bind_some _ _).symm.trans H; rw [hy196]; with_reducible exact H2_) | (have H2_ := (Option.bind_some _ _).symm.trans H; with_reducible exact H2_) | with_reducible exact H | (rw [hy196]; exact H) | exact H
         have Ny196 := Aside0.mk hy196
         clear hy196
         have H' := Aside0.mk H
         clear H
         obtain ⟨Ao31, co31, eo31⟩ := Kd.R_slice HO_8.out
         subst eo31
         have p186 : 0 ≤ (x10_1 : Int) := of_decide_eq_true as_
         have q186 : x10_1 < (t180.length : Int) := of_decide_eq_true as_
         obtain ⟨ad186, e186, hx186_0⟩ := Kd.at_string (Kd.R_reads' HO_8.out).2.2 x10_1 p186 q186
         cases e186
         replace p186 := eq_true p186
         replace q186 := eq_true q186
         try go_wp2_with (first | ((with_reducible refine gate_callee (f := 95) rfl ?_); refine goesL_ (some 34) rfl rfl Try.func95 (by kernel_rfl) rfl #[.slice A1 l1.length c1, .string (rdOf ByteArray.empty t180 x10_1)] rfl mT_ ?_; (with_reducible refine (spec_l27Get.calls k1 _ _ l1 (rdOf ByteArray.empty t180 x10_1) t187 t188 _ ?side1 ?side2 A16.out).mono ?_); (case side1 => exact cA_ (Kd.C_below HR1.out HB.out)); (case side2 => exact HC1.out); rintro e w32 ⟨rfl, hb⟩; refine ⟨_, rfl, ?_⟩; have n0_ := Aside0.mk (Kd.R_below (rA_ HO_8.out) hb); have n1_ := Aside0.mk (Kd.R_below (rA_ HO_9.out) hb); have n2_ := Aside0.mk (below_step bB_ hb); clear HO_8; clear HO_9; clear HB; have HO_8 := n0_; have HO_9 := n1_; have HB := n2_; clear n0_ n1_ n2_; (try clear hb); (try clear hb2); (try clear hk); (try clear hi)) | ((with_reducible refine gate_dst (N := 11) rfl ?_); refine box_event ?hg (N := 11) ?hd (cs := #[.string (⟨#[]⟩ : ByteArray), .int .i64 0]) (t := 71) ?hr ?_; (case hd => rfl); (case hg => rfl); (case hr => first | (go_simp; done) | (go_simp; rfl)); intro gb189 hg w33 hbox hb; have n0_ := Aside0.mk (Kd.R_below (rA_ HO_8.out) hb); have n1_ := Aside0.mk (Kd.R_below (Kd.R_elderB (rA_ HO_9.out) gb189 (Nat.le_of_eq hg.symm)) hb); have n2_ := Aside0.mk (below_step bB_ hb); have n3_ := Aside0.mk (hbox); have n4_ := Aside0.mk ((by rw [hg]; exact (below_size bB_) : w.heap.size ≤ gb189)); have n5_ := Aside0.mk ((by rw [hg]; exact (below_size bB_) : w.heap.size ≤ gb189)); clear HO_8; clear HO_9; clear HB; have HO_8 := n0_; have HO_9 := n1_; have HB := n2_; have BK189 := n3_; have GW189 := n4_; have GE189 := n5_; clear n0_ n1_ n2_ n3_ n4_ n5_; clear hb hbox hg; have hcz34_0 : w33.cell? ⟨gb189, 0, none⟩ = some (.string (⟨#[]⟩ : ByteArray)) := (blk_cell BK189.out 0).trans rfl; have hcz34_1 : w33.cell? ⟨gb189, 1, none⟩ = some (.int .i64 0) := (blk_cell BK189.out 1).trans rfl; have hfz34_0 := blk_frozen BK189.out 0; have hfz34_1 := blk_frozen BK189.out 1))
         have n0_ : Aside0 (Kd.R Kd.string 9 ((w33.setCell ⟨gb189, 0, none⟩ (.string t187)).setCell ⟨gb189, 1, none⟩ (.int .i64 t188)) w.heap.size (fun _ => True) (.slice (some ad186) t180.length co31) t180) := ⟨by (with_reducible repeat (first | apply Kd.R_alloc | apply Kd.R_drewN | apply Kd.R_drew)); exact Kd.R_mono (Kd.R_far (p := ⟨gb189, 1, none⟩) (Kd.R_far (p := ⟨gb189, 0, none⟩) (Kd.R_types HO_8.out BK189.out (by decide)) (fun _ hk => hk.2) (.string t187)) (fun _ hk => hk.2) (.int .i64 t188)) (fun _ hk => trivial)⟩
         have n1_ : Aside0 (Kd.R k71 71 ((w33.setCell ⟨gb189, 0, none⟩ (.string t187)).setCell ⟨gb189, 1, none⟩ (.int .i64 t188)) w.heap.size (fun k_ => k_ ≠ gb189) u9 x9_1) := ⟨by (with_reducible repeat (first | apply Kd.R_alloc | apply Kd.R_drewN | apply Kd.R_drew)); exact Kd.R_mono (Kd.R_far (p := ⟨gb189, 1, none⟩) (Kd.R_far (p := ⟨gb189, 0, none⟩) (Kd.R_mono HO_9.out (fun k_ hk => (⟨hk, hk.2⟩ : _ ∧ k_ ≠ gb189))) (fun _ hk => hk.2) (.string t187)) (fun _ hk => hk.2) (.int .i64 t188)) (fun _ hk => hk.1.2)⟩
         have n2_ : Aside0 (((w33.setCell ⟨gb189, 0, none⟩ (.string t187)).setCell ⟨gb189, 1, none⟩ (.int .i64 t188)).heap[gb189]? = some (.cells #[.string t187, .int .i64 t188] 71 (0, 0))) := ⟨by (with_reducible repeat (first | refine blk_drewN ?_ _ | refine blk_drew ?_ | refine blk_alloc ?_ _)); refine blk_put (cs := #[.string t187, .int .i64 0]) ?_ 1 _ rfl; (with_reducible repeat (first | refine blk_drewN ?_ _ | refine blk_drew ?_ | refine blk_alloc ?_ _)); refine blk_put (cs := #[.string (⟨#[]⟩ : ByteArray), .int .i64 0]) ?_ 0 _ rfl; (with_reducible repeat (first | refine blk_drewN ?_ _ | refine blk_drew ?_ | refine blk_alloc ?_ _)); exact BK189.out⟩
         have n3_ : Aside0 (Below w.heap.size w ((w33.setCell ⟨gb189, 0, none⟩ (.string t187)).setCell ⟨gb189, 1, none⟩ (.int .i64 t188))) := ⟨bC_ GE189.out⟩
         (try clear HO_8)
         (try clear HO_9)
         (try clear BK189)
         (try clear HB)
         generalize ((w33.setCell ⟨gb189, 0, none⟩ (.string t187)).setCell ⟨gb189, 1, none⟩ (.int .i64 t188)) = w35 at n0_ n1_ n2_ n3_ ⊢
         have HO_8 := n0_
         have HO_9 := n1_
         have BK189 := n2_
         have HB := n3_
         clear n0_ n1_ n2_ n3_
         have n0_ := Aside0.mk (Kd.R_drew HO_8.out)
         have n1_ := Aside0.mk (Kd.R_drew HO_9.out)
         have n2_ := Aside0.mk (blk_drew BK189.out)
         have n3_ := Aside0.mk (below_drew1 HB.out)
         clear HO_8
         clear HO_9
         clear BK189
         clear HB
         have HO_8 := n0_
         have HO_9 := n1_
         have BK189 := n2_
         have HB := n3_
         clear n0_ n1_ n2_ n3_
         have p190 : 0 ≤ (x10_1 : Int) := of_decide_eq_true as_
         have q190 : x10_1 < (t180.length : Int) := of_decide_eq_true as_
         obtain ⟨ad190, e190, hx190_0⟩ := Kd.at_string (Kd.R_reads' HO_8.out).2.2 x10_1 p190 q190
         obtain rfl : ad186 = ad190 := (by injection e190)
         replace p190 := eq_true p190
         replace q190 := eq_true q190
         refine start_ (n := 8) (S := fun w' => w'.cell? ⟨gb189, 0, none⟩ = some (.string t187) ∧ w'.cell? ⟨gb189, 1, none⟩ = some (.int .i64 t188) ∧ w'.cell? (ad186.add (x10_1).toNat) = some (.string (rdOf ByteArray.empty t180 x10_1))) (ds := []) #[false, false, false, false, false, false, false, false] (by kernel_rfl) rfl rfl ⟨(blk_cell BK189.out 0).trans rfl, (blk_cell BK189.out 1).trans rfl, hx190_0⟩ (fun hHeld => ?_); refine with_tabW spec_l27Merge.tab9 spec_l27Merge.bits9 (fun HT_ HW_ => ?_)
         generalize w35.drew = w36 at HO_8 HO_9 BK189 HB hx190_0 hHeld ⊢
         refine pure_ (i := 1) (N := some 36) (v := ?_) (a' := ?_) #[false, true, false, false, false, false, false, false] rfl rfl (any_of HT_.out (by kernel_rfl)) (fun _ _ _ h => h) (Or.inl ⟨by rfl, ?_⟩) ?_ ?_
         rotate_left
         ·
          intro w'
          go_simp
          with_reducible rfl
         rotate_left
         ·
          simp only [Act.put, q1_, q2_, q3_, i64_w, i32_w]
          rfl
         refine pure_ (i := 2) (N := some 37) (v := ?_) (a' := ?_) #[false, true, true, false, false, false, false, false] rfl rfl (any_of HT_.out (by kernel_rfl)) (fun _ _ _ h => h) (Or.inl ⟨by rfl, ?_⟩) ?_ ?_
         rotate_left
         ·
          intro w'
          go_simp
          with_reducible rfl
         rotate_left
         ·
          simp only [Act.put, q1_, q2_, q3_, i64_w, i32_w]
          rfl
         refine pure_ (i := 3) (N := some 38) (v := ?_) (a' := ?_) #[false, true, true, true, false, false, false, false] rfl rfl (any_of HT_.out (by kernel_rfl)) (fun _ _ _ h => h) (Or.inl ⟨by rfl, ?_⟩) ?_ ?_
         rotate_left
         ·
          intro w'
          go_simp
          with_reducible rfl
         rotate_left
         ·
          simp only [Act.put, q1_, q2_, q3_, i64_w, i32_w]
          rfl
         refine pure_ (i := 4) (N := some 39) (v := ?_) (a' := ?_) #[false, true, true, true, true, false, false, false] rfl rfl (any_of HT_.out (by kernel_rfl)) (fun _ _ _ h => h) (Or.inl ⟨by rfl, ?_⟩) ?_ ?_
         rotate_left
         ·
          intro w'
          go_simp
          with_reducible rfl
         rotate_left
         ·
          simp only [Act.put, q1_, q2_, q3_, i64_w, i32_w]
          rfl
         refine take_ (i := 0) (N := some 35) (v := ?_) (a' := ?_) #[true, true, true, true, true, false, false, false] rfl rfl (take_ofW HT_.out HW_.out (by kernel_rfl)) (fun _ _ _ h => h) (Or.inl ⟨by rfl, ?_⟩) hHeld ?_ ?_
         rotate_left
         ·
          rintro w' ⟨s0, s1, s2⟩
          go_simp
          with_reducible rfl
         rotate_left
         ·
          simp only [Act.put, q1_, q2_, q3_, i64_w, i32_w]
          rfl
         refine take_ (i := 5) (N := some 40) (v := ?_) (a' := ?_) #[true, true, true, true, true, true, false, false] rfl rfl (take_ofW HT_.out HW_.out (by kernel_rfl)) (fun _ _ _ h => h) (Or.inl ⟨by rfl, ?_⟩) hHeld ?_ ?_
         rotate_left
         ·
          rintro w' ⟨s0, s1, s2⟩
          go_simp
          with_reducible rfl
         rotate_left
         ·
          simp only [Act.put, q1_, q2_, q3_, i64_w, i32_w]
          rfl
         refine one_ (i := 6) (N := some 41) #[true, true, true, true, true, true, true, false] rfl rfl (one_of HT_.out (by kernel_rfl)) (by decide) (fun K hK => ?_)
         refine goes_ Try.func95 (by kernel_rfl) rfl #[.slice A0 l0.length c0, .string (rdOf ByteArray.empty t180 x10_1)] (by rfl) rfl rfl mT_ ?_
         with_reducible refine (spec_l27Get.calls k1 _ _ l0 (rdOf ByteArray.empty t180 x10_1) t191 t192 _ ?side1 ?side2 A17.out).mono ?_
         (case side1 => exact cA_ (Kd.C_below HR0.out HB.out))
         (case side2 => exact HC0.out)
         rintro e w37 ⟨rfl, hb⟩
         have HS2_ := (hb.cell (World.block_lt_of_cell? _ _ (hHeld.2.2))).trans (hHeld.2.2)
         refine ⟨_, rfl, ?_⟩
         have n0_ := Aside0.mk (Kd.R_below (rA_ HO_8.out) hb)
         have n1_ := Aside0.mk (Kd.R_below (rA_ HO_9.out) hb)
         have n2_ := Aside0.mk (blk_below (g := gb189) (o := .cells #[.string t187, .int .i64 t188] 71 (0, 0)) (bK_ BK189.out) hb)
         have n3_ := Aside0.mk (below_step (bC_ GE189.out) hb)
         clear HO_8
         clear HO_9
         clear BK189
         clear HB
         have HO_8 := n0_
         have HO_9 := n1_
         have BK189 := n2_
         have HB := n3_
         clear n0_ n1_ n2_ n3_
         (try clear hb)
         (try clear hb2)
         (try clear hk)
         (try clear hi)
         refine hK.out _ _ ⟨(blk_cell BK189.out 0).trans rfl, (blk_cell BK189.out 1).trans rfl, HS2_⟩ (fun hHeld => ?_)
         clear hK K
         refine norm_ (a' := ?_) ?_ ?_
         rotate_left
         ·
          show Act.put _ (some 41) _ = _
          simp only [Act.put, q1_, q2_, q3_, i64_w, i32_w]
          rfl
         refine pure_ (i := 7) (N := some 42) (v := ?_) (a' := ?_) #[true, true, true, true, true, true, true, true] rfl rfl (any_of HT_.out (by kernel_rfl)) (fun _ _ _ h => h) (Or.inl ⟨by rfl, ?_⟩) ?_ ?_
         rotate_left
         ·
          intro w'
          go_simp
          with_reducible rfl
         rotate_left
         ·
          simp only [Act.put, q1_, q2_, q3_, i64_w, i32_w]
          rfl
         refine done_ (done_of HT_.out (by kernel_rfl)) ?_
         have p193 : 0 ≤ (x10_1 : Int) := of_decide_eq_true as_
         have q193 : x10_1 < (t180.length : Int) := of_decide_eq_true as_
         obtain ⟨ad193, e193, hx193_0⟩ := Kd.at_string (Kd.R_reads' HO_8.out).2.2 x10_1 p193 q193
         obtain rfl : ad186 = ad193 := (by injection e193)
         replace p193 := eq_true p193
         replace q193 := eq_true q193
         try go_wp2_with (first | ((with_reducible refine gate_callee (f := 95) rfl ?_); refine goesL_ (some 48) rfl rfl Try.func95 (by kernel_rfl) rfl #[.slice A2 l2.length c2, .string (rdOf ByteArray.empty t180 x10_1)] rfl mT_ ?_; (with_reducible refine (spec_l27Get.calls k1 _ _ l2 (rdOf ByteArray.empty t180 x10_1) t194 t195 _ ?side1 ?side2 A19.out).mono ?_); (case side1 => exact cA_ (Kd.C_below HR2.out HB.out)); (case side2 => exact HC2.out); rintro e w38 ⟨rfl, hb⟩; refine ⟨_, rfl, ?_⟩; have n0_ := Aside0.mk (Kd.R_below (rA_ HO_8.out) hb); have n1_ := Aside0.mk (Kd.R_below (rA_ HO_9.out) hb); have n2_ := Aside0.mk (blk_below (g := gb189) (o := .cells #[.string t187, .int .i64 t188] 71 (0, 0)) (bK_ BK189.out) hb); have n3_ := Aside0.mk (below_step (bC_ GE189.out) hb); clear HO_8; clear HO_9; clear BK189; clear HB; have HO_8 := n0_; have HO_9 := n1_; have BK189 := n2_; have HB := n3_; clear n0_ n1_ n2_ n3_; (try clear hb); (try clear hb2); (try clear hk); (try clear hi); have hcz39_0 : w38.cell? ⟨gb189, 0, none⟩ = some (.string t187) := (blk_cell BK189.out 0).trans rfl; have hcz39_1 : w38.cell? ⟨gb189, 1, none⟩ = some (.int .i64 t188) := (blk_cell BK189.out 1).trans rfl; have hfz39_0 := blk_frozen BK189.out 0; have hfz39_1 := blk_frozen BK189.out 1) | ((with_reducible refine gate_builtin (b := .append) (xs := #[.tmp 52, .tmp 54]) rfl ?_); at_builtin; refine Kd.R_append k71 (w0 := w) w.heap.size rfl (.tmp 52) (.tmp 54) 26 71 (.agg #[(.string ⟨#[]⟩), (.int .i64 0)]) 24 rfl Try.underlying26 info71 rfl (by decide) (by omega) u9 x9_1 (⟨t194, t195⟩ : S71) [.string t194, .int .i64 t195] (fun k_ => k_ ≠ gb189) (fun _ => False) rfl (by first | (go_simp; done) | (go_simp; rfl)) ?aP (fun _ hk => hk.elim) ?aF ?aO ?aB ?aS ?aL ?_; (case aP => exact k71_mkM _ _ _ (⟨t194, t195⟩ : S71)); (case aB => exact (bC_ GE189.out)); (case aF => exact (fun k_ hk => Kd.freshB (g := gb189) (o := .cells #[.string t194, .int .i64 t195] 71 (0, 0)) (by (with_reducible repeat (first | refine blk_drewN ?_ _ | refine blk_drew ?_ | refine blk_alloc ?_ _)); refine blk_put (cs := #[.string t194, .int .i64 t188]) ?_ 1 _ rfl; (with_reducible repeat (first | refine blk_drewN ?_ _ | refine blk_drew ?_ | refine blk_alloc ?_ _)); refine blk_put (cs := #[.string t187, .int .i64 t188]) ?_ 0 _ rfl; (with_reducible repeat (first | refine blk_drewN ?_ _ | refine blk_drew ?_ | refine blk_alloc ?_ _)); exact BK189.out) k_ hk)); (case aO => exact (by (with_reducible repeat (first | apply Kd.R_alloc | apply Kd.R_drewN | apply Kd.R_drew)); exact Kd.R_mono (Kd.R_far (p := ⟨gb189, 1, none⟩) (Kd.R_far (p := ⟨gb189, 0, none⟩) (Kd.R_mono HO_9.out (fun k_ hk => (⟨hk, hk⟩ : _ ∧ k_ ≠ gb189))) (fun _ hk => hk.2) (.string t194)) (fun _ hk => hk.2) (.int .i64 t195)) (fun _ hk => hk.1))); (case aS => exact (below_size (bC_ GE189.out))); (case aL => have := LMc30.out; omega); intro v197 w40 ho hb hg hat; rw [← Ny196.out] at ho; have n0_ := Aside0.mk (Kd.R_over' (by (with_reducible repeat (first | apply Kd.R_alloc | apply Kd.R_drewN | apply Kd.R_drew)); exact (Kd.R_mono (Kd.R_far (p := ⟨gb189, 1, none⟩) (Kd.R_far (p := ⟨gb189, 0, none⟩) (Kd.R_types HO_8.out BK189.out (by decide)) (fun _ hk => hk.2) (.string t194)) (fun _ hk => hk.2) (.int .i64 t195)) (fun _ h_ => h_.1))) (Kd.R_typed (by (with_reducible repeat (first | apply Kd.R_alloc | apply Kd.R_drewN | apply Kd.R_drew)); exact (Kd.R_mono (Kd.R_far (p := ⟨gb189, 1, none⟩) (Kd.R_far (p := ⟨gb189, 0, none⟩) (Kd.R_mono HO_9.out (fun k_ hk => (⟨hk, hk⟩ : _ ∧ k_ ≠ gb189))) (fun _ hk => hk.2) (.string t194)) (fun _ hk => hk.2) (.int .i64 t195)) (fun _ h_ => h_.1)))) (by decide) hg); have n1_ := Aside0.mk (blk_grown (g := gb189) (o := .cells #[.string t194, .int .i64 t195] 71 (0, 0)) (by (with_reducible repeat (first | refine blk_drewN ?_ _ | refine blk_drew ?_ | refine blk_alloc ?_ _)); refine blk_put (cs := #[.string t194, .int .i64 t188]) ?_ 1 _ rfl; (with_reducible repeat (first | refine blk_drewN ?_ _ | refine blk_drew ?_ | refine blk_alloc ?_ _)); refine blk_put (cs := #[.string t187, .int .i64 t188]) ?_ 0 _ rfl; (with_reducible repeat (first | refine blk_drewN ?_ _ | refine blk_drew ?_ | refine blk_alloc ?_ _)); exact BK189.out) hg (Kd.R_away HO_9.out (fun _ hk => hk))); have n2_ := Aside0.mk (hb); have n3_ := Aside0.mk (ho); clear HO_8; clear BK189; clear HB; clear HO_9; have HO_8 := n0_; have BK189 := n1_; have HB := n2_; have HO198 := n3_; clear n0_ n1_ n2_ n3_; clear ho hb hg hat))
         go_roundg k1
         case measure => have := HK1.out; omega
         case rel => exact ⟨(y196), (wrap64 (x10_1 + 1)), rs_, H', ⟨by have := HK1.out; omega⟩, ⟨rA_ HO_8.out⟩, ⟨by (with_reducible repeat (first | apply Kd.R_alloc | apply Kd.R_drewN | apply Kd.R_drew)); exact Kd.R_mono HO198.out (fun _ hk => trivial)⟩, ⟨bC_ GE189.out⟩⟩
        ·
         rw [if_neg c30] at H
         exact absurd H (by simp)
      ·
       rw [if_neg c18] at H
       have c18b0 : (t187.toList == t191.toList && (t188 == t192)) = false := by simpa using c18
       (try (have c18b1 : decide (t187.toList = t191.toList && (t188 == t192)) = false := by simpa using c18))
       (try (have c18b2 : (t187.toList == t191.toList && (t188 == t192)) = false := by simpa using c18))
       (try (have c18b3 : ¬ (t187.toList = t191.toList && (t188 == t192)) := by simpa using c18))
       clear c18
       by_cases c41 : t187.toList = ([] : List UInt8)
       ·
        rw [if_pos c41] at H
        have c41b0 : (t187.toList == ([] : List UInt8)) = true := beq_iff_eq.mpr c41
        have c41b1 : (t187.toList != ([] : List UInt8)) = false := bne_eq_false_iff_eq.mpr c41
        clear c41
        have H' := Aside0.mk H
        clear H
        obtain ⟨Ao42, co42, eo42⟩ := Kd.R_slice HO_8.out
        subst eo42
        have p186 : 0 ≤ (x10_1 : Int) := of_decide_eq_true as_
        have q186 : x10_1 < (t180.length : Int) := of_decide_eq_true as_
        obtain ⟨ad186, e186, hx186_0⟩ := Kd.at_string (Kd.R_reads' HO_8.out).2.2 x10_1 p186 q186
        cases e186
        replace p186 := eq_true p186
        replace q186 := eq_true q186
        try go_wp2_with (first | ((with_reducible refine gate_callee (f := 95) rfl ?_); refine goesL_ (some 34) rfl rfl Try.func95 (by kernel_rfl) rfl #[.slice A1 l1.length c1, .string (rdOf ByteArray.empty t180 x10_1)] rfl mT_ ?_; (with_reducible refine (spec_l27Get.calls k1 _ _ l1 (rdOf ByteArray.empty t180 x10_1) t187 t188 _ ?side1 ?side2 A16.out).mono ?_); (case side1 => exact cA_ (Kd.C_below HR1.out HB.out)); (case side2 => exact HC1.out); rintro e w43 ⟨rfl, hb⟩; refine ⟨_, rfl, ?_⟩; have n0_ := Aside0.mk (Kd.R_below (rA_ HO_8.out) hb); have n1_ := Aside0.mk (Kd.R_below (rA_ HO_9.out) hb); have n2_ := Aside0.mk (below_step bB_ hb); clear HO_8; clear HO_9; clear HB; have HO_8 := n0_; have HO_9 := n1_; have HB := n2_; clear n0_ n1_ n2_; (try clear hb); (try clear hb2); (try clear hk); (try clear hi)) | ((with_reducible refine gate_dst (N := 11) rfl ?_); refine box_event ?hg (N := 11) ?hd (cs := #[.string (⟨#[]⟩ : ByteArray), .int .i64 0]) (t := 71) ?hr ?_; (case hd => rfl); (case hg => rfl); (case hr => first | (go_simp; done) | (go_simp; rfl)); intro gb189 hg w44 hbox hb; have n0_ := Aside0.mk (Kd.R_below (rA_ HO_8.out) hb); have n1_ := Aside0.mk (Kd.R_below (Kd.R_elderB (rA_ HO_9.out) gb189 (Nat.le_of_eq hg.symm)) hb); have n2_ := Aside0.mk (below_step bB_ hb); have n3_ := Aside0.mk (hbox); have n4_ := Aside0.mk ((by rw [hg]; exact (below_size bB_) : w.heap.size ≤ gb189)); have n5_ := Aside0.mk ((by rw [hg]; exact (below_size bB_) : w.heap.size ≤ gb189)); clear HO_8; clear HO_9; clear HB; have HO_8 := n0_; have HO_9 := n1_; have HB := n2_; have BK189 := n3_; have GW189 := n4_; have GE189 := n5_; clear n0_ n1_ n2_ n3_ n4_ n5_; clear hb hbox hg; have hcz45_0 : w44.cell? ⟨gb189, 0, none⟩ = some (.string (⟨#[]⟩ : ByteArray)) := (blk_cell BK189.out 0).trans rfl; have hcz45_1 : w44.cell? ⟨gb189, 1, none⟩ = some (.int .i64 0) := (blk_cell BK189.out 1).trans rfl; have hfz45_0 := blk_frozen BK189.out 0; have hfz45_1 := blk_frozen BK189.out 1))
        have n0_ : Aside0 (Kd.R Kd.string 9 ((w44.setCell ⟨gb189, 0, none⟩ (.string t187)).setCell ⟨gb189, 1, none⟩ (.int .i64 t188)) w.heap.size (fun _ => True) (.slice (some ad186) t180.length co42) t180) := ⟨by (with_reducible repeat (first | apply Kd.R_alloc | apply Kd.R_drewN | apply Kd.R_drew)); exact Kd.R_mono (Kd.R_far (p := ⟨gb189, 1, none⟩) (Kd.R_far (p := ⟨gb189, 0, none⟩) (Kd.R_types HO_8.out BK189.out (by decide)) (fun _ hk => hk.2) (.string t187)) (fun _ hk => hk.2) (.int .i64 t188)) (fun _ hk => trivial)⟩
        have n1_ : Aside0 (Kd.R k71 71 ((w44.setCell ⟨gb189, 0, none⟩ (.string t187)).setCell ⟨gb189, 1, none⟩ (.int .i64 t188)) w.heap.size (fun k_ => k_ ≠ gb189) u9 x9_1) := ⟨by (with_reducible repeat (first | apply Kd.R_alloc | apply Kd.R_drewN | apply Kd.R_drew)); exact Kd.R_mono (Kd.R_far (p := ⟨gb189, 1, none⟩) (Kd.R_far (p := ⟨gb189, 0, none⟩) (Kd.R_mono HO_9.out (fun k_ hk => (⟨hk, hk.2⟩ : _ ∧ k_ ≠ gb189))) (fun _ hk => hk.2) (.string t187)) (fun _ hk => hk.2) (.int .i64 t188)) (fun _ hk => hk.1.2)⟩
        have n2_ : Aside0 (((w44.setCell ⟨gb189, 0, none⟩ (.string t187)).setCell ⟨gb189, 1, none⟩ (.int .i64 t188)).heap[gb189]? = some (.cells #[.string t187, .int .i64 t188] 71 (0, 0))) := ⟨by (with_reducible repeat (first | refine blk_drewN ?_ _ | refine blk_drew ?_ | refine blk_alloc ?_ _)); refine blk_put (cs := #[.string t187, .int .i64 0]) ?_ 1 _ rfl; (with_reducible repeat (first | refine blk_drewN ?_ _ | refine blk_drew ?_ | refine blk_alloc ?_ _)); refine blk_put (cs := #[.string (⟨#[]⟩ : ByteArray), .int .i64 0]) ?_ 0 _ rfl; (with_reducible repeat (first | refine blk_drewN ?_ _ | refine blk_drew ?_ | refine blk_alloc ?_ _)); exact BK189.out⟩
        have n3_ : Aside0 (Below w.heap.size w ((w44.setCell ⟨gb189, 0, none⟩ (.string t187)).setCell ⟨gb189, 1, none⟩ (.int .i64 t188))) := ⟨bC_ GE189.out⟩
        (try clear HO_8)
        (try clear HO_9)
        (try clear BK189)
        (try clear HB)
        generalize ((w44.setCell ⟨gb189, 0, none⟩ (.string t187)).setCell ⟨gb189, 1, none⟩ (.int .i64 t188)) = w46 at n0_ n1_ n2_ n3_ ⊢
        have HO_8 := n0_
        have HO_9 := n1_
        have BK189 := n2_
        have HB := n3_
        clear n0_ n1_ n2_ n3_
        have n0_ := Aside0.mk (Kd.R_drew HO_8.out)
        have n1_ := Aside0.mk (Kd.R_drew HO_9.out)
        have n2_ := Aside0.mk (blk_drew BK189.out)
        have n3_ := Aside0.mk (below_drew1 HB.out)
        clear HO_8
        clear HO_9
        clear BK189
        clear HB
        have HO_8 := n0_
        have HO_9 := n1_
        have BK189 := n2_
        have HB := n3_
        clear n0_ n1_ n2_ n3_
        have p190 : 0 ≤ (x10_1 : Int) := of_decide_eq_true as_
        have q190 : x10_1 < (t180.length : Int) := of_decide_eq_true as_
        obtain ⟨ad190, e190, hx190_0⟩ := Kd.at_string (Kd.R_reads' HO_8.out).2.2 x10_1 p190 q190
        obtain rfl : ad186 = ad190 := (by injection e190)
        replace p190 := eq_true p190
        replace q190 := eq_true q190
        refine start_ (n := 8) (S := fun w' => w'.cell? ⟨gb189, 0, none⟩ = some (.string t187) ∧ w'.cell? ⟨gb189, 1, none⟩ = some (.int .i64 t188) ∧ w'.cell? (ad186.add (x10_1).toNat) = some (.string (rdOf ByteArray.empty t180 x10_1))) (ds := []) #[false, false, false, false, false, false, false, false] (by kernel_rfl) rfl rfl ⟨(blk_cell BK189.out 0).trans rfl, (blk_cell BK189.out 1).trans rfl, hx190_0⟩ (fun hHeld => ?_); refine with_tabW spec_l27Merge.tab9 spec_l27Merge.bits9 (fun HT_ HW_ => ?_)
        generalize w46.drew = w47 at HO_8 HO_9 BK189 HB hx190_0 hHeld ⊢
        refine pure_ (i := 1) (N := some 36) (v := ?_) (a' := ?_) #[false, true, false, false, false, false, false, false] rfl rfl (any_of HT_.out (by kernel_rfl)) (fun _ _ _ h => h) (Or.inl ⟨by rfl, ?_⟩) ?_ ?_
        rotate_left
        ·
         intro w'
         go_simp
         with_reducible rfl
        rotate_left
        ·
         simp only [Act.put, q1_, q2_, q3_, i64_w, i32_w]
         rfl
        refine pure_ (i := 2) (N := some 37) (v := ?_) (a' := ?_) #[false, true, true, false, false, false, false, false] rfl rfl (any_of HT_.out (by kernel_rfl)) (fun _ _ _ h => h) (Or.inl ⟨by rfl, ?_⟩) ?_ ?_
        rotate_left
        ·
         intro w'
         go_simp
         with_reducible rfl
        rotate_left
        ·
         simp only [Act.put, q1_, q2_, q3_, i64_w, i32_w]
         rfl
        refine pure_ (i := 3) (N := some 38) (v := ?_) (a' := ?_) #[false, true, true, true, false, false, false, false] rfl rfl (any_of HT_.out (by kernel_rfl)) (fun _ _ _ h => h) (Or.inl ⟨by rfl, ?_⟩) ?_ ?_
        rotate_left
        ·
         intro w'
         go_simp
         with_reducible rfl
        rotate_left
        ·
         simp only [Act.put, q1_, q2_, q3_, i64_w, i32_w]
         rfl
        refine pure_ (i := 4) (N := some 39) (v := ?_) (a' := ?_) #[false, true, true, true, true, false, false, false] rfl rfl (any_of HT_.out (by kernel_rfl)) (fun _ _ _ h => h) (Or.inl ⟨by rfl, ?_⟩) ?_ ?_
        rotate_left
        ·
         intro w'
         go_simp
         with_reducible rfl
        rotate_left
        ·
         simp only [Act.put, q1_, q2_, q3_, i64_w, i32_w]
         rfl
        refine take_ (i := 0) (N := some 35) (v := ?_) (a' := ?_) #[true, true, true, true, true, false, false, false] rfl rfl (take_ofW HT_.out HW_.out (by kernel_rfl)) (fun _ _ _ h => h) (Or.inl ⟨by rfl, ?_⟩) hHeld ?_ ?_
        rotate_left
        ·
         rintro w' ⟨s0, s1, s2⟩
         go_simp
         with_reducible rfl
        rotate_left
        ·
         simp only [Act.put, q1_, q2_, q3_, i64_w, i32_w]
         rfl
        refine take_ (i := 5) (N := some 40) (v := ?_) (a' := ?_) #[true, true, true, true, true, true, false, false] rfl rfl (take_ofW HT_.out HW_.out (by kernel_rfl)) (fun _ _ _ h => h) (Or.inl ⟨by rfl, ?_⟩) hHeld ?_ ?_
        rotate_left
        ·
         rintro w' ⟨s0, s1, s2⟩
         go_simp
         with_reducible rfl
        rotate_left
        ·
         simp only [Act.put, q1_, q2_, q3_, i64_w, i32_w]
         rfl
        refine one_ (i := 6) (N := some 41) #[true, true, true, true, true, true, true, false] rfl rfl (one_of HT_.out (by kernel_rfl)) (by decide) (fun K hK => ?_)
        refine goes_ Try.func95 (by kernel_rfl) rfl #[.slice A0 l0.length c0, .string (rdOf ByteArray.empty t180 x10_1)] (by rfl) rfl rfl mT_ ?_
        with_reducible refine (spec_l27Get.calls k1 _ _ l0 (rdOf ByteArray.empty t180 x10_1) t191 t192 _ ?side1 ?side2 A17.out).mono ?_
        (case side1 => exact cA_ (Kd.C_below HR0.out HB.out))
        (case side2 => exact HC0.out)
        rintro e w48 ⟨rfl, hb⟩
        have HS2_ := (hb.cell (World.block_lt_of_cell? _ _ (hHeld.2.2))).trans (hHeld.2.2)
        refine ⟨_, rfl, ?_⟩
        have n0_ := Aside0.mk (Kd.R_below (rA_ HO_8.out) hb)
        have n1_ := Aside0.mk (Kd.R_below (rA_ HO_9.out) hb)
        have n2_ := Aside0.mk (blk_below (g := gb189) (o := .cells #[.string t187, .int .i64 t188] 71 (0, 0)) (bK_ BK189.out) hb)
        have n3_ := Aside0.mk (below_step (bC_ GE189.out) hb)
        clear HO_8
        clear HO_9
        clear BK189
        clear HB
        have HO_8 := n0_
        have HO_9 := n1_
        have BK189 := n2_
        have HB := n3_
        clear n0_ n1_ n2_ n3_
        (try clear hb)
        (try clear hb2)
        (try clear hk)
        (try clear hi)
        refine hK.out _ _ ⟨(blk_cell BK189.out 0).trans rfl, (blk_cell BK189.out 1).trans rfl, HS2_⟩ (fun hHeld => ?_)
        clear hK K
        refine norm_ (a' := ?_) ?_ ?_
        rotate_left
        ·
         show Act.put _ (some 41) _ = _
         simp only [Act.put, q1_, q2_, q3_, i64_w, i32_w]
         rfl
        refine pure_ (i := 7) (N := some 42) (v := ?_) (a' := ?_) #[true, true, true, true, true, true, true, true] rfl rfl (any_of HT_.out (by kernel_rfl)) (fun _ _ _ h => h) (Or.inl ⟨by rfl, ?_⟩) ?_ ?_
        rotate_left
        ·
         intro w'
         go_simp
         with_reducible rfl
        rotate_left
        ·
         simp only [Act.put, q1_, q2_, q3_, i64_w, i32_w]
         rfl
        refine done_ (done_of HT_.out (by kernel_rfl)) ?_
        have hcz49_0 : w48.cell? ⟨gb189, 0, none⟩ = some (.string t187) := (blk_cell BK189.out 0).trans rfl
        have hcz49_1 : w48.cell? ⟨gb189, 1, none⟩ = some (.int .i64 t188) := (blk_cell BK189.out 1).trans rfl
        have hfz49_0 := blk_frozen BK189.out 0
        have hfz49_1 := blk_frozen BK189.out 1
        try go_wp2
        go_roundg k1
        case measure => have := HK1.out; omega
        case rel => exact ⟨(x9_1), (wrap64 (x10_1 + 1)), rs_, H', ⟨by have := HK1.out; omega⟩, ⟨rA_ HO_8.out⟩, ⟨by (with_reducible repeat (first | apply Kd.R_alloc | apply Kd.R_drewN | apply Kd.R_drew)); exact Kd.R_mono HO_9.out (fun _ hk => trivial)⟩, ⟨bC_ GE189.out⟩⟩
       ·
        rw [if_neg c41] at H
        have c41b0 : (t187.toList == ([] : List UInt8)) = false := beq_eq_false_iff_ne.mpr c41
        have c41b1 : (t187.toList != ([] : List UInt8)) = true := bne_iff_ne.mpr c41
        by_cases c50 : x9_1.length < 5864062014805
        ·
         rw [if_pos c50] at H
         have LMc50 := Aside0.mk c50
         clear c50
         obtain ⟨y199, hy199⟩ : ∃ y_ : List (S71), y_ = (x9_1 ++ [(⟨t187, t188⟩ : S71)]) := ⟨_, rfl⟩
         replace H : (spec_l27Merge.l0 k1 l0 l1 l2 t180 y199 (wrap64 (x10_1 + 1))) = some (r1, r2) := by first | (rw [hy199]; with_reducible exact H) | (have H2_ := (Option.bind_some _ _).symm.trans H; rw [hy199]; with_reducible exact H2_) | (have H2_ := (Option.bind_some _ _).symm.trans H; with_reducible exact H2_) | with_reducible exact H | (rw [hy199]; exact H) | exact H
         have Ny199 := Aside0.mk hy199
         clear hy199
         have H' := Aside0.mk H
         clear H
         obtain ⟨Ao51, co51, eo51⟩ := Kd.R_slice HO_8.out
         subst eo51
         have p186 : 0 ≤ (x10_1 : Int) := of_decide_eq_true as_
         have q186 : x10_1 < (t180.length : Int) := of_decide_eq_true as_
         obtain ⟨ad186, e186, hx186_0⟩ := Kd.at_string (Kd.R_reads' HO_8.out).2.2 x10_1 p186 q186
         cases e186
         replace p186 := eq_true p186
         replace q186 := eq_true q186
         try go_wp2_with (first | ((with_reducible refine gate_callee (f := 95) rfl ?_); refine goesL_ (some 34) rfl rfl Try.func95 (by kernel_rfl) rfl #[.slice A1 l1.length c1, .string (rdOf ByteArray.empty t180 x10_1)] rfl mT_ ?_; (with_reducible refine (spec_l27Get.calls k1 _ _ l1 (rdOf ByteArray.empty t180 x10_1) t187 t188 _ ?side1 ?side2 A16.out).mono ?_); (case side1 => exact cA_ (Kd.C_below HR1.out HB.out)); (case side2 => exact HC1.out); rintro e w52 ⟨rfl, hb⟩; refine ⟨_, rfl, ?_⟩; have n0_ := Aside0.mk (Kd.R_below (rA_ HO_8.out) hb); have n1_ := Aside0.mk (Kd.R_below (rA_ HO_9.out) hb); have n2_ := Aside0.mk (below_step bB_ hb); clear HO_8; clear HO_9; clear HB; have HO_8 := n0_; have HO_9 := n1_; have HB := n2_; clear n0_ n1_ n2_; (try clear hb); (try clear hb2); (try clear hk); (try clear hi)) | ((with_reducible refine gate_dst (N := 11) rfl ?_); refine box_event ?hg (N := 11) ?hd (cs := #[.string (⟨#[]⟩ : ByteArray), .int .i64 0]) (t := 71) ?hr ?_; (case hd => rfl); (case hg => rfl); (case hr => first | (go_simp; done) | (go_simp; rfl)); intro gb189 hg w53 hbox hb; have n0_ := Aside0.mk (Kd.R_below (rA_ HO_8.out) hb); have n1_ := Aside0.mk (Kd.R_below (Kd.R_elderB (rA_ HO_9.out) gb189 (Nat.le_of_eq hg.symm)) hb); have n2_ := Aside0.mk (below_step bB_ hb); have n3_ := Aside0.mk (hbox); have n4_ := Aside0.mk ((by rw [hg]; exact (below_size bB_) : w.heap.size ≤ gb189)); have n5_ := Aside0.mk ((by rw [hg]; exact (below_size bB_) : w.heap.size ≤ gb189)); clear HO_8; clear HO_9; clear HB; have HO_8 := n0_; have HO_9 := n1_; have HB := n2_; have BK189 := n3_; have GW189 := n4_; have GE189 := n5_; clear n0_ n1_ n2_ n3_ n4_ n5_; clear hb hbox hg; have hcz54_0 : w53.cell? ⟨gb189, 0, none⟩ = some (.string (⟨#[]⟩ : ByteArray)) := (blk_cell BK189.out 0).trans rfl; have hcz54_1 : w53.cell? ⟨gb189, 1, none⟩ = some (.int .i64 0) := (blk_cell BK189.out 1).trans rfl; have hfz54_0 := blk_frozen BK189.out 0; have hfz54_1 := blk_frozen BK189.out 1))
         have n0_ : Aside0 (Kd.R Kd.string 9 ((w53.setCell ⟨gb189, 0, none⟩ (.string t187)).setCell ⟨gb189, 1, none⟩ (.int .i64 t188)) w.heap.size (fun _ => True) (.slice (some ad186) t180.length co51) t180) := ⟨by (with_reducible repeat (first | apply Kd.R_alloc | apply Kd.R_drewN | apply Kd.R_drew)); exact Kd.R_mono (Kd.R_far (p := ⟨gb189, 1, none⟩) (Kd.R_far (p := ⟨gb189, 0, none⟩) (Kd.R_types HO_8.out BK189.out (by decide)) (fun _ hk => hk.2) (.string t187)) (fun _ hk => hk.2) (.int .i64 t188)) (fun _ hk => trivial)⟩
         have n1_ : Aside0 (Kd.R k71 71 ((w53.setCell ⟨gb189, 0, none⟩ (.string t187)).setCell ⟨gb189, 1, none⟩ (.int .i64 t188)) w.heap.size (fun k_ => k_ ≠ gb189) u9 x9_1) := ⟨by (with_reducible repeat (first | apply Kd.R_alloc | apply Kd.R_drewN | apply Kd.R_drew)); exact Kd.R_mono (Kd.R_far (p := ⟨gb189, 1, none⟩) (Kd.R_far (p := ⟨gb189, 0, none⟩) (Kd.R_mono HO_9.out (fun k_ hk => (⟨hk, hk.2⟩ : _ ∧ k_ ≠ gb189))) (fun _ hk => hk.2) (.string t187)) (fun _ hk => hk.2) (.int .i64 t188)) (fun _ hk => hk.1.2)⟩
         have n2_ : Aside0 (((w53.setCell ⟨gb189, 0, none⟩ (.string t187)).setCell ⟨gb189, 1, none⟩ (.int .i64 t188)).heap[gb189]? = some (.cells #[.string t187, .int .i64 t188] 71 (0, 0))) := ⟨by (with_reducible repeat (first | refine blk_drewN ?_ _ | refine blk_drew ?_ | refine blk_alloc ?_ _)); refine blk_put (cs := #[.string t187, .int .i64 0]) ?_ 1 _ rfl; (with_reducible repeat (first | refine blk_drewN ?_ _ | refine blk_drew ?_ | refine blk_alloc ?_ _)); refine blk_put (cs := #[.string (⟨#[]⟩ : ByteArray), .int .i64 0]) ?_ 0 _ rfl; (with_reducible repeat (first | refine blk_drewN ?_ _ | refine blk_drew ?_ | refine blk_alloc ?_ _)); exact BK189.out⟩
         have n3_ : Aside0 (Below w.heap.size w ((w53.setCell ⟨gb189, 0, none⟩ (.string t187)).setCell ⟨gb189, 1, none⟩ (.int .i64 t188))) := ⟨bC_ GE189.out⟩
         (try clear HO_8)
         (try clear HO_9)
         (try clear BK189)
         (try clear HB)
         generalize ((w53.setCell ⟨gb189, 0, none⟩ (.string t187)).setCell ⟨gb189, 1, none⟩ (.int .i64 t188)) = w55 at n0_ n1_ n2_ n3_ ⊢
         have HO_8 := n0_
         have HO_9 := n1_
         have BK189 := n2_
         have HB := n3_
         clear n0_ n1_ n2_ n3_
         have n0_ := Aside0.mk (Kd.R_drew HO_8.out)
         have n1_ := Aside0.mk (Kd.R_drew HO_9.out)
         have n2_ := Aside0.mk (blk_drew BK189.out)
         have n3_ := Aside0.mk (below_drew1 HB.out)
         clear HO_8
         clear HO_9
         clear BK189
         clear HB
         have HO_8 := n0_
         have HO_9 := n1_
         have BK189 := n2_
         have HB := n3_
         clear n0_ n1_ n2_ n3_
         have p190 : 0 ≤ (x10_1 : Int) := of_decide_eq_true as_
         have q190 : x10_1 < (t180.length : Int) := of_decide_eq_true as_
         obtain ⟨ad190, e190, hx190_0⟩ := Kd.at_string (Kd.R_reads' HO_8.out).2.2 x10_1 p190 q190
         obtain rfl : ad186 = ad190 := (by injection e190)
         replace p190 := eq_true p190
         replace q190 := eq_true q190
         refine start_ (n := 8) (S := fun w' => w'.cell? ⟨gb189, 0, none⟩ = some (.string t187) ∧ w'.cell? ⟨gb189, 1, none⟩ = some (.int .i64 t188) ∧ w'.cell? (ad186.add (x10_1).toNat) = some (.string (rdOf ByteArray.empty t180 x10_1))) (ds := []) #[false, false, false, false, false, false, false, false] (by kernel_rfl) rfl rfl ⟨(blk_cell BK189.out 0).trans rfl, (blk_cell BK189.out 1).trans rfl, hx190_0⟩ (fun hHeld => ?_); refine with_tabW spec_l27Merge.tab9 spec_l27Merge.bits9 (fun HT_ HW_ => ?_)
         generalize w55.drew = w56 at HO_8 HO_9 BK189 HB hx190_0 hHeld ⊢
         refine pure_ (i := 1) (N := some 36) (v := ?_) (a' := ?_) #[false, true, false, false, false, false, false, false] rfl rfl (any_of HT_.out (by kernel_rfl)) (fun _ _ _ h => h) (Or.inl ⟨by rfl, ?_⟩) ?_ ?_
         rotate_left
         ·
          intro w'
          go_simp
          with_reducible rfl
         rotate_left
         ·
          simp only [Act.put, q1_, q2_, q3_, i64_w, i32_w]
          rfl
         refine pure_ (i := 2) (N := some 37) (v := ?_) (a' := ?_) #[false, true, true, false, false, false, false, false] rfl rfl (any_of HT_.out (by kernel_rfl)) (fun _ _ _ h => h) (Or.inl ⟨by rfl, ?_⟩) ?_ ?_
         rotate_left
         ·
          intro w'
          go_simp
          with_reducible rfl
         rotate_left
         ·
          simp only [Act.put, q1_, q2_, q3_, i64_w, i32_w]
          rfl
         refine pure_ (i := 3) (N := some 38) (v := ?_) (a' := ?_) #[false, true, true, true, false, false, false, false] rfl rfl (any_of HT_.out (by kernel_rfl)) (fun _ _ _ h => h) (Or.inl ⟨by rfl, ?_⟩) ?_ ?_
         rotate_left
         ·
          intro w'
          go_simp
          with_reducible rfl
         rotate_left
         ·
          simp only [Act.put, q1_, q2_, q3_, i64_w, i32_w]
          rfl
         refine pure_ (i := 4) (N := some 39) (v := ?_) (a' := ?_) #[false, true, true, true, true, false, false, false] rfl rfl (any_of HT_.out (by kernel_rfl)) (fun _ _ _ h => h) (Or.inl ⟨by rfl, ?_⟩) ?_ ?_
         rotate_left
         ·
          intro w'
          go_simp
          with_reducible rfl
         rotate_left
         ·
          simp only [Act.put, q1_, q2_, q3_, i64_w, i32_w]
          rfl
         refine take_ (i := 0) (N := some 35) (v := ?_) (a' := ?_) #[true, true, true, true, true, false, false, false] rfl rfl (take_ofW HT_.out HW_.out (by kernel_rfl)) (fun _ _ _ h => h) (Or.inl ⟨by rfl, ?_⟩) hHeld ?_ ?_
         rotate_left
         ·
          rintro w' ⟨s0, s1, s2⟩
          go_simp
          with_reducible rfl
         rotate_left
         ·
          simp only [Act.put, q1_, q2_, q3_, i64_w, i32_w]
          rfl
         refine take_ (i := 5) (N := some 40) (v := ?_) (a' := ?_) #[true, true, true, true, true, true, false, false] rfl rfl (take_ofW HT_.out HW_.out (by kernel_rfl)) (fun _ _ _ h => h) (Or.inl ⟨by rfl, ?_⟩) hHeld ?_ ?_
         rotate_left
         ·
          rintro w' ⟨s0, s1, s2⟩
          go_simp
          with_reducible rfl
         rotate_left
         ·
          simp only [Act.put, q1_, q2_, q3_, i64_w, i32_w]
          rfl
         refine one_ (i := 6) (N := some 41) #[true, true, true, true, true, true, true, false] rfl rfl (one_of HT_.out (by kernel_rfl)) (by decide) (fun K hK => ?_)
         refine goes_ Try.func95 (by kernel_rfl) rfl #[.slice A0 l0.length c0, .string (rdOf ByteArray.empty t180 x10_1)] (by rfl) rfl rfl mT_ ?_
         with_reducible refine (spec_l27Get.calls k1 _ _ l0 (rdOf ByteArray.empty t180 x10_1) t191 t192 _ ?side1 ?side2 A17.out).mono ?_
         (case side1 => exact cA_ (Kd.C_below HR0.out HB.out))
         (case side2 => exact HC0.out)
         rintro e w57 ⟨rfl, hb⟩
         have HS2_ := (hb.cell (World.block_lt_of_cell? _ _ (hHeld.2.2))).trans (hHeld.2.2)
         refine ⟨_, rfl, ?_⟩
         have n0_ := Aside0.mk (Kd.R_below (rA_ HO_8.out) hb)
         have n1_ := Aside0.mk (Kd.R_below (rA_ HO_9.out) hb)
         have n2_ := Aside0.mk (blk_below (g := gb189) (o := .cells #[.string t187, .int .i64 t188] 71 (0, 0)) (bK_ BK189.out) hb)
         have n3_ := Aside0.mk (below_step (bC_ GE189.out) hb)
         clear HO_8
         clear HO_9
         clear BK189
         clear HB
         have HO_8 := n0_
         have HO_9 := n1_
         have BK189 := n2_
         have HB := n3_
         clear n0_ n1_ n2_ n3_
         (try clear hb)
         (try clear hb2)
         (try clear hk)
         (try clear hi)
         refine hK.out _ _ ⟨(blk_cell BK189.out 0).trans rfl, (blk_cell BK189.out 1).trans rfl, HS2_⟩ (fun hHeld => ?_)
         clear hK K
         refine norm_ (a' := ?_) ?_ ?_
         rotate_left
         ·
          show Act.put _ (some 41) _ = _
          simp only [Act.put, q1_, q2_, q3_, i64_w, i32_w]
          rfl
         refine pure_ (i := 7) (N := some 42) (v := ?_) (a' := ?_) #[true, true, true, true, true, true, true, true] rfl rfl (any_of HT_.out (by kernel_rfl)) (fun _ _ _ h => h) (Or.inl ⟨by rfl, ?_⟩) ?_ ?_
         rotate_left
         ·
          intro w'
          go_simp
          with_reducible rfl
         rotate_left
         ·
          simp only [Act.put, q1_, q2_, q3_, i64_w, i32_w]
          rfl
         refine done_ (done_of HT_.out (by kernel_rfl)) ?_
         have hcz58_0 : w57.cell? ⟨gb189, 0, none⟩ = some (.string t187) := (blk_cell BK189.out 0).trans rfl
         have hcz58_1 : w57.cell? ⟨gb189, 1, none⟩ = some (.int .i64 t188) := (blk_cell BK189.out 1).trans rfl
         have hfz58_0 := blk_frozen BK189.out 0
         have hfz58_1 := blk_frozen BK189.out 1
         try go_wp2_with (first | ((with_reducible refine gate_builtin (b := .append) (xs := #[.tmp 52, .tmp 54]) rfl ?_); at_builtin; refine Kd.R_append k71 (w0 := w) w.heap.size rfl (.tmp 52) (.tmp 54) 26 71 (.agg #[(.string ⟨#[]⟩), (.int .i64 0)]) 24 rfl Try.underlying26 info71 rfl (by decide) (by omega) u9 x9_1 (⟨t187, t188⟩ : S71) [.string t187, .int .i64 t188] (fun k_ => k_ ≠ gb189) (fun _ => False) rfl rfl ?aP (fun _ hk => hk.elim) ?aF ?aO ?aB ?aS ?aL ?_; (case aP => exact k71_mkM _ _ _ (⟨t187, t188⟩ : S71)); (case aB => exact (bC_ GE189.out)); (case aF => exact (fun k_ hk => Kd.freshB (g := gb189) (o := .cells #[.string t187, .int .i64 t188] 71 (0, 0)) (bK_ BK189.out) k_ hk)); (case aO => exact (rA_ HO_9.out)); (case aS => exact (below_size (bC_ GE189.out))); (case aL => have := LMc50.out; omega); intro v200 w59 ho hb hg hat; rw [← Ny199.out] at ho; have n0_ := Aside0.mk (Kd.R_over' (rA_ HO_8.out) (Kd.R_typed (rA_ HO_9.out)) (by decide) hg); have n1_ := Aside0.mk (blk_grown (g := gb189) (o := .cells #[.string t187, .int .i64 t188] 71 (0, 0)) (bK_ BK189.out) hg (Kd.R_away HO_9.out (fun _ hk => hk))); have n2_ := Aside0.mk (hb); have n3_ := Aside0.mk (ho); clear HO_8; clear BK189; clear HB; clear HO_9; have HO_8 := n0_; have BK189 := n1_; have HB := n2_; have HO201 := n3_; clear n0_ n1_ n2_ n3_; clear ho hb hg hat))
         go_roundg k1
         case measure => have := HK1.out; omega
         case rel => exact ⟨(y199), (wrap64 (x10_1 + 1)), rs_, H', ⟨by have := HK1.out; omega⟩, ⟨rA_ HO_8.out⟩, ⟨by (with_reducible repeat (first | apply Kd.R_alloc | apply Kd.R_drewN | apply Kd.R_drew)); exact Kd.R_mono HO201.out (fun _ hk => trivial)⟩, ⟨bC_ GE189.out⟩⟩
        ·
         rw [if_neg c50] at H
         exact absurd H (by simp)
     ·
      rw [if_neg c15] at H
      exact absurd H (by simp)
    ·
     rw [if_neg c14] at H
     have c14b0 : decide (x10_1 < (t180.length : Int)) = false := decide_eq_false c14
     clear c14
     by_cases c60 : (x9_1.length : Int) > 24
     ·
      rw [if_pos c60] at H
      have c60b0 : decide (24 < (x9_1.length : Int)) = true := decide_eq_true c60
      have c60b1 : decide (24 < x9_1.length) = true := decide_eq_true (by omega)
      clear c60
      simp only [Option.some.injEq, Prod.mk.injEq] at H
      obtain ⟨rfl, rfl⟩ := H
      obtain ⟨Ao61, co61, eo61⟩ := Kd.R_slice HO_8.out
      subst eo61
      obtain ⟨Ao62, co62, eo62⟩ := Kd.R_slice HO_9.out
      subst eo62
      go_wp2
      go_ret2
      exact ⟨_, er_, by first | exact Kd.R_nil _ _ _ _ _ | exact Kd.N_nil _ _ _ _ _ | exact Kd.V_nil _ _ _ _ _ | exact Kd.Q_nil _ _ _ _ _ | exact Kd.S_nil _ _ _ _ _, bB_⟩
     ·
      rw [if_neg c60] at H
      have c60b0 : decide (24 < (x9_1.length : Int)) = false := decide_eq_false c60
      have c60b1 : decide (24 < x9_1.length) = false := decide_eq_false (by omega)
      clear c60
      simp only [Option.some.injEq, Prod.mk.injEq] at H
      obtain ⟨rfl, rfl⟩ := H
      obtain ⟨Ao63, co63, eo63⟩ := Kd.R_slice HO_8.out
      subst eo63
      obtain ⟨Ao64, co64, eo64⟩ := Kd.R_slice HO_9.out
      subst eo64
      go_wp2
      go_ret2
      exact ⟨_, er_, rA_ HO_9.out, bB_⟩

/-! ### spec_l00In: function 87 -/
def spec_l00In.f (a0 : Int) (a1 : Int) (a2 : Int) : Option (Bool) := if a0 ≥ a1 then (some (decide (a0 ≤ a2))) else (some false)
set_option maxHeartbeats 8000000 in
set_option maxRecDepth 100000 in
theorem spec_l00In.calls (a0 : Int) (a1 : Int) (a2 : Int) (r : Bool) (w : World) (h : spec_l00In.f a0 a1 a2 = some r) :
  Calls Try.prog 87 #[.int .i64 a0, .int .i64 a1, .int .i64 a2] w fun e w' => e = .returned (.bool r) ∧ Drawn0 w w' := by
 have H : (if a0 ≥ a1 then (some (decide (a0 ≤ a2))) else (some false)) = some r := h
 clear h
 by_cases c4 : a0 ≥ a1
 ·
  rw [if_pos c4] at H
  have c4b0 : decide (a1 ≤ a0) = true := decide_eq_true c4
  clear c4
  obtain rfl := Option.some.inj H
  go_enter Try.func87, Try.ntmps87
  go_wp2
  go_ret
  exact ⟨rs_, dr_⟩
 ·
  rw [if_neg c4] at H
  have c4b0 : decide (a1 ≤ a0) = false := decide_eq_false c4
  clear c4
  obtain rfl := Option.some.inj H
  go_enter Try.func87, Try.ntmps87
  go_wp2
  go_ret
  exact ⟨rs_, dr_⟩

/-! ### spec_l01Small: function 124 -/
def spec_l01Small.f (a0 : Int) : Option (Bool) := if a0 ≥ 97 then (some (decide (a0 ≤ 122))) else (some false)
set_option maxHeartbeats 8000000 in
set_option maxRecDepth 100000 in
theorem spec_l01Small.calls (a0 : Int) (r : Bool) (w : World) (h : spec_l01Small.f a0 = some r) :
  Calls Try.prog 124 #[.int .u8 a0] w fun e w' => e = .returned (.bool r) ∧ Drawn0 w w' := by
 have H : (if a0 ≥ 97 then (some (decide (a0 ≤ 122))) else (some false)) = some r := h
 clear h
 by_cases c2 : a0 ≥ 97
 ·
  rw [if_pos c2] at H
  have c2b0 : decide (97 ≤ a0) = true := decide_eq_true c2
  clear c2
  obtain rfl := Option.some.inj H
  go_enter Try.func124, Try.ntmps124
  go_wp2
  go_ret
  exact ⟨rs_, dr_⟩
 ·
  rw [if_neg c2] at H
  have c2b0 : decide (97 ≤ a0) = false := decide_eq_false c2
  clear c2
  obtain rfl := Option.some.inj H
  go_enter Try.func124, Try.ntmps124
  go_wp2
  go_ret
  exact ⟨rs_, dr_⟩

/-! ### spec_l01Digit: function 125 -/
def spec_l01Digit.f (a0 : Int) : Option (Bool) := if a0 ≥ 48 then (some (decide (a0 ≤ 57))) else (some false)
set_option maxHeartbeats 8000000 in
set_option maxRecDepth 100000 in
theorem spec_l01Digit.calls (a0 : Int) (r : Bool) (w : World) (h : spec_l01Digit.f a0 = some r) :
  Calls Try.prog 125 #[.int .u8 a0] w fun e w' => e = .returned (.bool r) ∧ Drawn0 w w' := by
 have H : (if a0 ≥ 48 then (some (decide (a0 ≤ 57))) else (some false)) = some r := h
 clear h
 by_cases c2 : a0 ≥ 48
 ·
  rw [if_pos c2] at H
  have c2b0 : decide (48 ≤ a0) = true := decide_eq_true c2
  clear c2
  obtain rfl := Option.some.inj H
  go_enter Try.func125, Try.ntmps125
  go_wp2
  go_ret
  exact ⟨rs_, dr_⟩
 ·
  rw [if_neg c2] at H
  have c2b0 : decide (48 ≤ a0) = false := decide_eq_false c2
  clear c2
  obtain rfl := Option.some.inj H
  go_enter Try.func125, Try.ntmps125
  go_wp2
  go_ret
  exact ⟨rs_, dr_⟩

end Go.Proofs.Ytenjhbkpcelidaa.PFnExactMergeVersions
