-- PRINTED by print.py (a twelfth state) out of the translation. Not trusted: Lean checks it.
import Derived.Test.YtfnheijpgldlcabPFnExactSmoothImagex0
import Derived.Test.YtfnheijpgldlcabPFnExactSmoothImagex1
namespace Go.Proofs.Ytfnheijpgldlcab.PFnExactSmoothImage
open Go.RowKit Go.Proofs.YtfnheijpgldlcabW.PrintWords Go.Proofs.YtfnheijpgldlcabW.PrintLast Go.Proofs.YtfnheijpgldlcabW.PrintMore
attribute [local go_sem] max2_int min2_int max_two min_two max_three min_three max_four min_four   -- for this text's walks alone
set_option linter.unusedVariables false
set_option linter.unusedSimpArgs false

/-! ### spec_SmoothImage: function 6 -/
mutual
def spec_SmoothImage.l0 : Nat → List (List Int) → List (List Int) → Int → Option ((List (List Int)) × Int)
  | 0, _, _, _ => none
  | k + 1, x0, x4, x5 => if x5 < (x0.length : Int) then (spec_SmoothImage.l1 k x0 x4 x5 (([] : List Int)) 0) else (some (x4, 0))
def spec_SmoothImage.l1 : Nat → List (List Int) → List (List Int) → Int → List Int → Int → Option ((List (List Int)) × Int)
  | 0, _, _, _, _, _ => none
  | k + 1, x0, x4, x5, x6, x7 => if 0 ≤ x5 then (if x5 < (x0.length : Int) then (if x7 < ((rd_L1 x0 x5).length : Int) then (if 0 ≤ x7 then (spec_SmoothImage.l2 k x0 x4 x5 x6 x7 (rd (rd_L1 x0 x5) x7) 1 (([(([wrap64 (x5 - 1), x7] : List Int)), (([x5, wrap64 (x7 - 1)] : List Int)), (([x5, wrap64 (x7 + 1)] : List Int)), (([wrap64 (x5 + 1), x7] : List Int))] : List (List Int))) 0) else (none)) else (if x4.length < 5864062014805 then (spec_SmoothImage.l0 k x0 (x4 ++ [x6]) (wrap64 (x5 + 1))) else (none))) else (none)) else (none)
def spec_SmoothImage.l2 : Nat → List (List Int) → List (List Int) → Int → List Int → Int → Int → Int → List (List Int) → Int → Option ((List (List Int)) × Int)
  | 0, _, _, _, _, _, _, _, _, _ => none
  | k + 1, x0, x4, x5, x6, x7, x8, x9, x10, x11 => if x11 < 4 then (if 0 ≤ x11 then (if x11 < (x10.length : Int) then (if 0 < ((rd_L2 x10 x11).length : Int) then (if 1 < ((rd_L2 x10 x11).length : Int) then (if (rd (rd_L2 x10 x11) 0) ≥ 0 then (if (rd (rd_L2 x10 x11) 0) < (x0.length : Int) then (if (rd (rd_L2 x10 x11) 1) ≥ 0 then (if 0 < (x0.length : Int) then (if (rd (rd_L2 x10 x11) 1) < ((rd_L1 x0 0).length : Int) then (if 0 ≤ (rd (rd_L2 x10 x11) 0) then (if 0 ≤ (rd (rd_L2 x10 x11) 1) then (if (rd (rd_L2 x10 x11) 1) < ((rd_L1 x0 (rd (rd_L2 x10 x11) 0)).length : Int) then (spec_SmoothImage.l2 k x0 x4 x5 x6 x7 (wrap64 (x8 + (rd (rd_L1 x0 (rd (rd_L2 x10 x11) 0)) (rd (rd_L2 x10 x11) 1)))) (wrap64 (x9 + 1)) x10 (wrap64 (x11 + 1))) else (none)) else (none)) else (none)) else (spec_SmoothImage.l2 k x0 x4 x5 x6 x7 x8 x9 x10 (wrap64 (x11 + 1)))) else (none)) else (spec_SmoothImage.l2 k x0 x4 x5 x6 x7 x8 x9 x10 (wrap64 (x11 + 1)))) else (spec_SmoothImage.l2 k x0 x4 x5 x6 x7 x8 x9 x10 (wrap64 (x11 + 1)))) else (spec_SmoothImage.l2 k x0 x4 x5 x6 x7 x8 x9 x10 (wrap64 (x11 + 1)))) else (none)) else (none)) else (none)) else (none)) else ((spec_l01Div.f x8 x9).bind fun t147 => (if x6.length < 17592186044416 then (spec_SmoothImage.l1 k x0 x4 x5 (x6 ++ [t147]) (wrap64 (x7 + 1))) else (none)))
end
def spec_SmoothImage.f (k : Nat) (l0 : List (List Int)) : Option ((List (List Int)) × Int) := (spec_l28Ok.f k l0).bind fun t112 => (if t112 = true then (spec_SmoothImage.l0 k l0 (([] : List (List Int))) 0) else (some (([] : List (List Int)), 1)))
theorem spec_SmoothImage.mono_l : ∀ k, (∀ y0 y1 y2, LeO (spec_SmoothImage.l0 k y0 y1 y2) (spec_SmoothImage.l0 (k + 1) y0 y1 y2)) ∧ (∀ y0 y1 y2 y3 y4, LeO (spec_SmoothImage.l1 k y0 y1 y2 y3 y4) (spec_SmoothImage.l1 (k + 1) y0 y1 y2 y3 y4)) ∧ (∀ y0 y1 y2 y3 y4 y5 y6 y7 y8, LeO (spec_SmoothImage.l2 k y0 y1 y2 y3 y4 y5 y6 y7 y8) (spec_SmoothImage.l2 (k + 1) y0 y1 y2 y3 y4 y5 y6 y7 y8))
  | 0 => ⟨fun _ _ _ r h => by simp [spec_SmoothImage.l0] at h, fun _ _ _ _ _ r h => by simp [spec_SmoothImage.l1] at h, fun _ _ _ _ _ _ _ _ _ r h => by simp [spec_SmoothImage.l2] at h⟩
  | k + 1 => by
    obtain ⟨ih0, ih1, ih2⟩ := spec_SmoothImage.mono_l k
    refine ⟨?_, ?_, ?_⟩
    · intro y0 y1 y2
      unfold spec_SmoothImage.l0
      repeat' first
      | (with_reducible exact ih0 _ _ _)
      | (with_reducible exact ih1 _ _ _ _ _)
      | (with_reducible exact ih2 _ _ _ _ _ _ _ _ _)
      | (with_reducible exact spec_l28Ok.mono _ _)
      | (with_reducible exact LeO.refl _)
      | (with_reducible exact LeO.none _)
      | (with_reducible refine LeO.ite ?_ ?_)
      | (with_reducible refine LeO.bind ?_ (fun _ => ?_))
      | exact ih0 _ _ _
      | exact ih1 _ _ _ _ _
      | exact ih2 _ _ _ _ _ _ _ _ _
      | exact spec_l28Ok.mono _ _
      | exact LeO.none _
      | refine LeO.ite ?_ ?_
      | refine LeO.bind ?_ (fun _ => ?_)
    · intro y0 y1 y2 y3 y4
      unfold spec_SmoothImage.l1
      repeat' first
      | (with_reducible exact ih0 _ _ _)
      | (with_reducible exact ih1 _ _ _ _ _)
      | (with_reducible exact ih2 _ _ _ _ _ _ _ _ _)
      | (with_reducible exact spec_l28Ok.mono _ _)
      | (with_reducible exact LeO.refl _)
      | (with_reducible exact LeO.none _)
      | (with_reducible refine LeO.ite ?_ ?_)
      | (with_reducible refine LeO.bind ?_ (fun _ => ?_))
      | exact ih0 _ _ _
      | exact ih1 _ _ _ _ _
      | exact ih2 _ _ _ _ _ _ _ _ _
      | exact spec_l28Ok.mono _ _
      | exact LeO.none _
      | refine LeO.ite ?_ ?_
      | refine LeO.bind ?_ (fun _ => ?_)
    · intro y0 y1 y2 y3 y4 y5 y6 y7 y8
      unfold spec_SmoothImage.l2
      repeat' first
      | (with_reducible exact ih0 _ _ _)
      | (with_reducible exact ih1 _ _ _ _ _)
      | (with_reducible exact ih2 _ _ _ _ _ _ _ _ _)
      | (with_reducible exact spec_l28Ok.mono _ _)
      | (with_reducible exact LeO.refl _)
      | (with_reducible exact LeO.none _)
      | (with_reducible refine LeO.ite ?_ ?_)
      | (with_reducible refine LeO.bind ?_ (fun _ => ?_))
      | exact ih0 _ _ _
      | exact ih1 _ _ _ _ _
      | exact ih2 _ _ _ _ _ _ _ _ _
      | exact spec_l28Ok.mono _ _
      | exact LeO.none _
      | refine LeO.ite ?_ ?_
      | refine LeO.bind ?_ (fun _ => ?_)
theorem spec_SmoothImage.mono : ∀ a0 k, LeO (spec_SmoothImage.f k a0) (spec_SmoothImage.f (k + 1) a0) := by
  intro a0 k
  obtain ⟨ih0, ih1, ih2⟩ := spec_SmoothImage.mono_l k
  unfold spec_SmoothImage.f
  repeat' first
      | (with_reducible exact ih0 _ _ _)
      | (with_reducible exact ih1 _ _ _ _ _)
      | (with_reducible exact ih2 _ _ _ _ _ _ _ _ _)
      | (with_reducible exact spec_l28Ok.mono _ _)
      | (with_reducible exact LeO.refl _)
      | (with_reducible exact LeO.none _)
      | (with_reducible refine LeO.ite ?_ ?_)
      | (with_reducible refine LeO.bind ?_ (fun _ => ?_))
      | exact ih0 _ _ _
      | exact ih1 _ _ _ _ _
      | exact ih2 _ _ _ _ _ _ _ _ _
      | exact spec_l28Ok.mono _ _
      | exact LeO.none _
      | refine LeO.ite ?_ ?_
      | refine LeO.bind ?_ (fun _ => ?_)
set_option maxHeartbeats 8000000 in
set_option maxRecDepth 100000 in
theorem spec_SmoothImage.calls (k : Nat) (A0 : Option Addr) (c0 : Nat) (l0 : List (List Int)) (r1 : List (List Int)) (r2 : Int) (w : World) (hr0 : Kd.C (Kd.slice 2 (Kd.int .i64)) w A0 l0.length l0) (hc0 : l0.length ≤ c0) (h : spec_SmoothImage.f k l0 = some (r1, r2)) :
    Calls Try.prog 6 #[.slice A0 l0.length c0] w fun e w' => ∃ v0_ : Value, e = .returned (.tuple #[v0_, .int .i64 r2]) ∧ Kd.S (Kd.slice 2 (Kd.int .i64)) 36 w' w.heap.size (fun _ => True) v0_ r1 ∧ Below w.heap.size w w' := by
  have HR0 := Aside0.mk hr0
  have HC0 := Aside0.mk hc0
  clear hr0 hc0
  have HB := Aside0.mk (Below.refl w.heap.size w)
  have H : ((spec_l28Ok.f k l0).bind fun t112 => (if t112 = true then (spec_SmoothImage.l0 k l0 (([] : List (List Int))) 0) else (some (([] : List (List Int)), 1)))) = some (r1, r2) := h
  clear h
  replace H := Option.bind_eq_some_iff.mp H
  obtain ⟨t112, A20, H⟩ := H
  replace H : (if t112 = true then (spec_SmoothImage.l0 k l0 (([] : List (List Int))) 0) else (some (([] : List (List Int)), 1))) = some (r1, r2) := H
  have A2 := Aside0.mk A20
  clear A20
  by_cases c3 : t112 = true
  · subst c3
    have H1 : (spec_SmoothImage.l0 k l0 (([] : List (List Int))) 0) = some (r1, r2) := by rw [if_pos rfl] at H; exact H
    clear H
    have H := H1
    clear H1
    obtain ⟨y113, hy113⟩ : ∃ y_ : List (List Int), y_ = (([] : List (List Int))) := ⟨_, rfl⟩
    replace H : (spec_SmoothImage.l0 k l0 y113 0) = some (r1, r2) := by first | (rw [hy113]; with_reducible exact H) | (have H2_ := (Option.bind_some _ _).symm.trans H; rw [hy113]; with_reducible exact H2_) | (have H2_ := (Option.bind_some _ _).symm.trans H; with_reducible exact H2_) | with_reducible exact H | (rw [hy113]; exact H) | exact H
    have Ny113 := Aside0.mk hy113
    clear hy113
    have H' := Aside0.mk H
    clear H
    go_enter Try.func6, Try.ntmps6
    go_wp2_with (first | ((with_reducible refine gate_callee (f := 18) rfl ?_); refine goesL_ (some 15) rfl rfl Try.func18 (by kernel_rfl) rfl #[.slice A0 l0.length c0] rfl (by (try simp only [List.map_toArray, List.map_cons, List.map_nil]); first | done | rfl | (simp only [List.length_drop, List.length_take]; rfl)) ?_; (with_reducible refine (spec_l28Ok.calls k _ _ l0 true _ ?side1 ?side2 A2.out).mono ?_); (case side1 => repeat (first | exact HR0.out | (with_reducible refine Kd.C_alloc ?_ _) | (with_reducible refine Kd.C_drewN ?_ _) | (with_reducible refine Kd.C_drew ?_))); (case side2 => exact HC0.out); rintro e w' ⟨rfl, ⟨nd, rfl⟩⟩; refine ⟨_, rfl, ?_⟩) | ((with_reducible refine gate_dst (N := 17) rfl ?_); (try (refine gate_guard (by rfl) ?_; dsimp only)); refine Kd.S_lit (Kd.slice 2 (Kd.int .i64)) _ 36 ?hg (N := 17) ?hd (xs := ([] : List (List Int))) (inner := []) (ok := fun _ => True) (okp := fun _ => True) ?hr ?hp (fun _ hk => hk) trivial (Below.refl _ _) (Nat.le_refl _) (by simp) ?_; (case hd => rfl); (case hg => rfl); (case hr => first | (go_simp; done) | (go_simp; rfl)); (case hp => exact (Reps.none _ _)); intro v114 w4 ho5 hb hg_ hnew_; clear hg_ hnew_; (first | rw [← Ny113.out] at ho5 | (simp only [Int.reduceToNat] at ho5; rw [← Ny113.out] at ho5)); have n0_ := Aside0.mk (Kd.S_lower ho5 (below_size (by repeat (first | (with_reducible first | exact HB.out | apply below_alloc | apply pw_below_drewN | apply below_drew1) | exact HB.out)))); have n1_ := Aside0.mk (below_step (by repeat (first | (with_reducible first | exact HB.out | apply below_alloc | apply pw_below_drewN | apply below_drew1) | exact HB.out)) hb); clear HB; have HO115 := n0_; have HB := n1_; clear n0_ n1_; clear hb ho5))
    go_loopg [4, 5] k (fun kq v4 v5 w' => ∃ (x4_1 : List (List Int)) (x5_1 : Int), v5 = .int .i64 x5_1 ∧ Aside0 (spec_SmoothImage.l0 kq l0 x4_1 x5_1 = some (r1, r2)) ∧ Aside0 (kq ≤ k) ∧ Aside0 (Kd.S (Kd.slice 2 (Kd.int .i64)) 36 w' w.heap.size (fun _ => True) v4 x4_1) ∧ Aside0 (Below w.heap.size w w'))
    case atStart => exact ⟨(y113), (0), (by first | rfl | (simp; done) | (simp [*]; done)), H', ⟨Nat.le_refl _⟩, ⟨by (with_reducible repeat (first | apply Kd.S_alloc | apply Kd.S_drewN | apply Kd.S_drew)); exact HO115.out⟩, ⟨by repeat (first | (with_reducible first | exact HB.out | apply below_alloc | apply pw_below_drewN | apply below_drew1) | exact HB.out)⟩⟩
    case round =>
      clear H'
      try clear c1
      try clear p2
      try clear c3
      obtain ⟨x4_1, x5_1, rfl, HA, HK1, HO_4, HB⟩ := hrel
      cases gk with
      | zero => exact absurd HA.out (by simp [spec_SmoothImage.l0])
      | succ k1 =>
        have H := HA.out
        clear HA
        simp only [spec_SmoothImage.l0] at H
        by_cases c6 : x5_1 < (l0.length : Int)
        · rw [if_pos c6] at H
          have c6b0 : decide (x5_1 < (l0.length : Int)) = true := decide_eq_true c6
          clear c6
          obtain ⟨y116, hy116⟩ : ∃ y_ : List Int, y_ = (([] : List Int)) := ⟨_, rfl⟩
          replace H : (spec_SmoothImage.l1 k1 l0 x4_1 x5_1 y116 0) = some (r1, r2) := by first | (rw [hy116]; with_reducible exact H) | (have H2_ := (Option.bind_some _ _).symm.trans H; rw [hy116]; with_reducible exact H2_) | (have H2_ := (Option.bind_some _ _).symm.trans H; with_reducible exact H2_) | with_reducible exact H | (rw [hy116]; exact H) | exact H
          have Ny116 := Aside0.mk hy116
          clear hy116
          have H' := Aside0.mk H
          clear H
          go_wp2_with (first | ((with_reducible refine gate_dst (N := 24) rfl ?_); (try (refine gate_guard (by rfl) ?_; dsimp only)); refine Kd.R_lit (Kd.int .i64) _ 2 ?hg (N := 24) ?hd (xs := ([] : List Int)) (inner := []) (ok := fun _ => True) (okp := fun _ => True) ?hr ?hp (fun _ hk => hk) trivial (Below.refl _ _) (Nat.le_refl _) (by simp) ?_; (case hd => rfl); (case hg => rfl); (case hr => first | (go_simp; done) | (go_simp; rfl)); (case hp => exact (Reps.none _ _)); intro v117 w7 ho8 hb hg_ hnew_; clear hg_ hnew_; (first | rw [← Ny116.out] at ho8 | (simp only [Int.reduceToNat] at ho8; rw [← Ny116.out] at ho8)); have n0_ := Aside0.mk (Kd.S_elder' (by (with_reducible repeat (first | apply Kd.S_alloc | apply Kd.S_drewN | apply Kd.S_drew)); exact HO_4.out) (Kd.R_base ho8) hb); have n1_ := Aside0.mk (Kd.R_lower ho8 (below_size (by repeat (first | (with_reducible first | exact HB.out | apply below_alloc | apply pw_below_drewN | apply below_drew1) | exact HB.out)))); have n2_ := Aside0.mk (below_step (by repeat (first | (with_reducible first | exact HB.out | apply below_alloc | apply pw_below_drewN | apply below_drew1) | exact HB.out)) hb); clear HO_4; clear HB; have HO_4 := n0_; have HO118 := n1_; have HB := n2_; clear n0_ n1_ n2_; clear hb ho8))
          go_loopg [6, 7] k1 (fun kq v6 v7 w' => ∃ (x6_2 : List Int) (x7_2 : Int), v7 = .int .i64 x7_2 ∧ Aside0 (spec_SmoothImage.l1 kq l0 x4_1 x5_1 x6_2 x7_2 = some (r1, r2)) ∧ Aside0 (kq ≤ k1) ∧ Aside0 (Kd.S (Kd.slice 2 (Kd.int .i64)) 36 w' w.heap.size (fun k_ => some k_ ≠ (v6 : Value).ownBlock) u4 x4_1) ∧ Aside0 (Kd.R (Kd.int .i64) 2 w' w.heap.size (fun _ => True) v6 x6_2) ∧ Aside0 (Below w.heap.size w w'))
          case atStart => exact ⟨(y116), (0), (by first | rfl | (simp; done) | (simp [*]; done)), H', ⟨Nat.le_refl _⟩, ⟨by (with_reducible repeat (first | apply Kd.S_alloc | apply Kd.S_drewN | apply Kd.S_drew)); exact Kd.S_mono HO_4.out (fun _ hk => hk.2)⟩, ⟨by (with_reducible repeat (first | apply Kd.R_alloc | apply Kd.R_drewN | apply Kd.R_drew)); exact HO118.out⟩, ⟨by repeat (first | (with_reducible first | exact HB.out | apply below_alloc | apply pw_below_drewN | apply below_drew1) | exact HB.out)⟩⟩
          case round =>
            clear H'
            try clear c1
            try clear p2
            try clear c3
            try clear c6
            try clear c6b0
            try clear p2
            obtain ⟨x6_2, x7_2, rfl, HA, HK2, HO_4, HO_6, HB⟩ := hrel
            cases gk with
            | zero => exact absurd HA.out (by simp [spec_SmoothImage.l1])
            | succ k2 =>
              have H := HA.out
              clear HA
              simp only [spec_SmoothImage.l1] at H
              by_cases c9 : 0 ≤ x5_1
              · rw [if_pos c9] at H
                have c9b0 : decide (0 ≤ x5_1) = true := decide_eq_true c9
                clear c9
                by_cases c10 : x5_1 < (l0.length : Int)
                · rw [if_pos c10] at H
                  have c10b0 : decide (x5_1 < (l0.length : Int)) = true := decide_eq_true c10
                  clear c10
                  by_cases c11 : x7_2 < ((rd_L1 l0 x5_1).length : Int)
                  · rw [if_pos c11] at H
                    have c11b0 : decide (x7_2 < ((rd_L1 l0 x5_1).length : Int)) = true := decide_eq_true c11
                    clear c11
                    by_cases c12 : 0 ≤ x7_2
                    · rw [if_pos c12] at H
                      have c12b0 : decide (0 ≤ x7_2) = true := decide_eq_true c12
                      clear c12
                      obtain ⟨y125, hy125⟩ : ∃ y_ : List Int, y_ = (([wrap64 (x5_1 - 1), x7_2] : List Int)) := ⟨_, rfl⟩
                      replace H : (spec_SmoothImage.l2 k2 l0 x4_1 x5_1 x6_2 x7_2 (rd (rd_L1 l0 x5_1) x7_2) 1 (([y125, (([x5_1, wrap64 (x7_2 - 1)] : List Int)), (([x5_1, wrap64 (x7_2 + 1)] : List Int)), (([wrap64 (x5_1 + 1), x7_2] : List Int))] : List (List Int))) 0) = some (r1, r2) := by first | (rw [hy125]; with_reducible exact H) | (have H2_ := (Option.bind_some _ _).symm.trans H; rw [hy125]; with_reducible exact H2_) | (have H2_ := (Option.bind_some _ _).symm.trans H; with_reducible exact H2_) | with_reducible exact H | (rw [hy125]; exact H) | exact H
                      have Ny125 := Aside0.mk hy125
                      clear hy125
                      obtain ⟨y128, hy128⟩ : ∃ y_ : List Int, y_ = (([x5_1, wrap64 (x7_2 - 1)] : List Int)) := ⟨_, rfl⟩
                      replace H : (spec_SmoothImage.l2 k2 l0 x4_1 x5_1 x6_2 x7_2 (rd (rd_L1 l0 x5_1) x7_2) 1 (([y125, y128, (([x5_1, wrap64 (x7_2 + 1)] : List Int)), (([wrap64 (x5_1 + 1), x7_2] : List Int))] : List (List Int))) 0) = some (r1, r2) := by first | (rw [hy128]; with_reducible exact H) | (have H2_ := (Option.bind_some _ _).symm.trans H; rw [hy128]; with_reducible exact H2_) | (have H2_ := (Option.bind_some _ _).symm.trans H; with_reducible exact H2_) | with_reducible exact H | (rw [hy128]; exact H) | exact H
                      have Ny128 := Aside0.mk hy128
                      clear hy128
                      obtain ⟨y131, hy131⟩ : ∃ y_ : List Int, y_ = (([x5_1, wrap64 (x7_2 + 1)] : List Int)) := ⟨_, rfl⟩
                      replace H : (spec_SmoothImage.l2 k2 l0 x4_1 x5_1 x6_2 x7_2 (rd (rd_L1 l0 x5_1) x7_2) 1 (([y125, y128, y131, (([wrap64 (x5_1 + 1), x7_2] : List Int))] : List (List Int))) 0) = some (r1, r2) := by first | (rw [hy131]; with_reducible exact H) | (have H2_ := (Option.bind_some _ _).symm.trans H; rw [hy131]; with_reducible exact H2_) | (have H2_ := (Option.bind_some _ _).symm.trans H; with_reducible exact H2_) | with_reducible exact H | (rw [hy131]; exact H) | exact H
                      have Ny131 := Aside0.mk hy131
                      clear hy131
                      obtain ⟨y134, hy134⟩ : ∃ y_ : List Int, y_ = (([wrap64 (x5_1 + 1), x7_2] : List Int)) := ⟨_, rfl⟩
                      replace H : (spec_SmoothImage.l2 k2 l0 x4_1 x5_1 x6_2 x7_2 (rd (rd_L1 l0 x5_1) x7_2) 1 (([y125, y128, y131, y134] : List (List Int))) 0) = some (r1, r2) := by first | (rw [hy134]; with_reducible exact H) | (have H2_ := (Option.bind_some _ _).symm.trans H; rw [hy134]; with_reducible exact H2_) | (have H2_ := (Option.bind_some _ _).symm.trans H; with_reducible exact H2_) | with_reducible exact H | (rw [hy134]; exact H) | exact H
                      have Ny134 := Aside0.mk hy134
                      clear hy134
                      obtain ⟨y137, hy137⟩ : ∃ y_ : List (List Int), y_ = (([y125, y128, y131, y134] : List (List Int))) := ⟨_, rfl⟩
                      replace H : (spec_SmoothImage.l2 k2 l0 x4_1 x5_1 x6_2 x7_2 (rd (rd_L1 l0 x5_1) x7_2) 1 y137 0) = some (r1, r2) := by first | (rw [hy137]; with_reducible exact H) | (have H2_ := (Option.bind_some _ _).symm.trans H; rw [hy137]; with_reducible exact H2_) | (have H2_ := (Option.bind_some _ _).symm.trans H; with_reducible exact H2_) | with_reducible exact H | (rw [hy137]; exact H) | exact H
                      have Ny137 := Aside0.mk hy137
                      clear hy137
                      have H' := Aside0.mk H
                      clear H
                      have p119 : 0 ≤ (x5_1 : Int) := of_decide_eq_true (by first | (with_reducible assumption) | assumption)
                      have q119 : x5_1 < (l0.length : Int) := of_decide_eq_true (by first | (with_reducible assumption) | assumption)
                      obtain ⟨ad119, A119_0, c119_0, e119, hx119_0, hl119_0, hi119_0⟩ := at_L1 HR0.out x5_1 p119 q119
                      cases e119
                      replace hx119_0 := (HB.out.cell (World.block_lt_of_cell? w _ hx119_0)).trans hx119_0
                      have HR119_0 := Aside0.mk hi119_0
                      have HC119_0 := Aside0.mk hl119_0
                      clear hi119_0 hl119_0
                      replace p119 := eq_true p119
                      replace q119 := eq_true q119
                      have p123 : 0 ≤ (x5_1 : Int) := of_decide_eq_true (by first | (with_reducible assumption) | assumption)
                      have q123 : x5_1 < (l0.length : Int) := of_decide_eq_true (by first | (with_reducible assumption) | assumption)
                      obtain ⟨ad123, A123_0, c123_0, e123, hx123_0, hl123_0, hi123_0⟩ := at_L1 HR0.out x5_1 p123 q123
                      obtain rfl : ad119 = ad123 := (by injection e123)
                      replace hx123_0 := (HB.out.cell (World.block_lt_of_cell? w _ hx123_0)).trans hx123_0
                      have HR123_0 := Aside0.mk hi123_0
                      have HC123_0 := Aside0.mk hl123_0
                      clear hi123_0 hl123_0
                      replace p123 := eq_true p123
                      replace q123 := eq_true q123
                      have ea_ := Option.some.inj (hx119_0.symm.trans hx123_0)
                      injection ea_ with ea_ en_ ec_
                      subst ea_
                      subst ec_
                      clear en_
                      have p124 : 0 ≤ (x7_2 : Int) := of_decide_eq_true (by first | (with_reducible assumption) | assumption)
                      have q124 : x7_2 < ((rd_L1 l0 x5_1).length : Int) := of_decide_eq_true (by first | (with_reducible assumption) | assumption)
                      obtain ⟨ad124, e124, hx124_0⟩ := Kd.at_int HR123_0.out x7_2 p124 q124
                      cases e124
                      replace hx124_0 := (HB.out.cell (World.block_lt_of_cell? w _ hx124_0)).trans hx124_0
                      replace p124 := eq_true p124
                      replace q124 := eq_true q124
                      go_wp2_with (first | ((with_reducible refine gate_dst (N := 44) rfl ?_); (try (refine gate_guard (by rfl) ?_; dsimp only)); refine Kd.R_lit (Kd.int .i64) _ 3 ?hg (N := 44) ?hd (xs := ([wrap64 (x5_1 - 1), x7_2] : List Int)) (inner := [.int .i64 (wrap64 (x5_1 - 1)), .int .i64 x7_2]) (ok := fun _ => True) (okp := fun _ => True) ?hr ?hp (fun _ hk => hk) trivial (Below.refl _ _) (Nat.le_refl _) (by simp) ?_; (case hd => rfl); (case hg => rfl); (case hr => first | (go_simp; done) | (go_simp; rfl)); (case hp => exact (Reps.one (show Kd.M (Kd.int .i64) _ _ _ (wrap64 (x5_1 - 1)) [.int .i64 (wrap64 (x5_1 - 1))] from rfl) (Reps.one (show Kd.M (Kd.int .i64) _ _ _ x7_2 [.int .i64 x7_2] from rfl) (Reps.none _ _)))); intro v126 w13 ho14 hb hg_ hnew_; clear hg_ hnew_; (first | rw [← Ny125.out] at ho14 | (simp only [Int.reduceToNat] at ho14; rw [← Ny125.out] at ho14)); have n0_ := Aside0.mk (Kd.S_below (by (with_reducible repeat (first | apply Kd.S_alloc | apply Kd.S_drewN | apply Kd.S_drew)); exact HO_4.out) hb); have n1_ := Aside0.mk (Kd.R_below (by (with_reducible repeat (first | apply Kd.R_alloc | apply Kd.R_drewN | apply Kd.R_drew)); exact HO_6.out) hb); have n2_ := Aside0.mk (Kd.R_lower ho14 (below_size (by repeat (first | (with_reducible first | exact HB.out | apply below_alloc | apply pw_below_drewN | apply below_drew1) | exact HB.out)))); have n3_ := Aside0.mk (below_step (by repeat (first | (with_reducible first | exact HB.out | apply below_alloc | apply pw_below_drewN | apply below_drew1) | exact HB.out)) hb); clear HO_4; clear HO_6; clear HB; have HO_4 := n0_; have HO_6 := n1_; have HO127 := n2_; have HB := n3_; clear n0_ n1_ n2_ n3_; clear hb ho14) | ((with_reducible refine gate_dst (N := 48) rfl ?_); (try (refine gate_guard (by rfl) ?_; dsimp only)); refine Kd.R_lit (Kd.int .i64) _ 3 ?hg (N := 48) ?hd (xs := ([x5_1, wrap64 (x7_2 - 1)] : List Int)) (inner := [.int .i64 x5_1, .int .i64 (wrap64 (x7_2 - 1))]) (ok := fun _ => True) (okp := fun _ => True) ?hr ?hp (fun _ hk => hk) trivial (Below.refl _ _) (Nat.le_refl _) (by simp) ?_; (case hd => rfl); (case hg => rfl); (case hr => first | (go_simp; done) | (go_simp; rfl)); (case hp => exact (Reps.one (show Kd.M (Kd.int .i64) _ _ _ x5_1 [.int .i64 x5_1] from rfl) (Reps.one (show Kd.M (Kd.int .i64) _ _ _ (wrap64 (x7_2 - 1)) [.int .i64 (wrap64 (x7_2 - 1))] from rfl) (Reps.none _ _)))); intro v129 w15 ho16 hb hg_ hnew_; clear hg_ hnew_; (first | rw [← Ny128.out] at ho16 | (simp only [Int.reduceToNat] at ho16; rw [← Ny128.out] at ho16)); have n0_ := Aside0.mk (Kd.S_below (by (with_reducible repeat (first | apply Kd.S_alloc | apply Kd.S_drewN | apply Kd.S_drew)); exact HO_4.out) hb); have n1_ := Aside0.mk (Kd.R_below (by (with_reducible repeat (first | apply Kd.R_alloc | apply Kd.R_drewN | apply Kd.R_drew)); exact HO_6.out) hb); have n2_ := Aside0.mk (Kd.R_elder' (by (with_reducible repeat (first | apply Kd.R_alloc | apply Kd.R_drewN | apply Kd.R_drew)); exact HO127.out) (Kd.R_base ho16) hb); have n3_ := Aside0.mk (Kd.R_lower (Kd.R_new' ho16 (Kd.R_lt (by (with_reducible repeat (first | apply Kd.R_alloc | apply Kd.R_drewN | apply Kd.R_drew)); exact HO127.out))) (below_size (by repeat (first | (with_reducible first | exact HB.out | apply below_alloc | apply pw_below_drewN | apply below_drew1) | exact HB.out)))); have n4_ := Aside0.mk (below_step (by repeat (first | (with_reducible first | exact HB.out | apply below_alloc | apply pw_below_drewN | apply below_drew1) | exact HB.out)) hb); clear HO_4; clear HO_6; clear HO127; clear HB; have HO_4 := n0_; have HO_6 := n1_; have HO127 := n2_; have HO130 := n3_; have HB := n4_; clear n0_ n1_ n2_ n3_ n4_; clear hb ho16) | ((with_reducible refine gate_dst (N := 52) rfl ?_); (try (refine gate_guard (by rfl) ?_; dsimp only)); refine Kd.R_lit (Kd.int .i64) _ 3 ?hg (N := 52) ?hd (xs := ([x5_1, wrap64 (x7_2 + 1)] : List Int)) (inner := [.int .i64 x5_1, .int .i64 (wrap64 (x7_2 + 1))]) (ok := fun _ => True) (okp := fun _ => True) ?hr ?hp (fun _ hk => hk) trivial (Below.refl _ _) (Nat.le_refl _) (by simp) ?_; (case hd => rfl); (case hg => rfl); (case hr => first | (go_simp; done) | (go_simp; rfl)); (case hp => exact (Reps.one (show Kd.M (Kd.int .i64) _ _ _ x5_1 [.int .i64 x5_1] from rfl) (Reps.one (show Kd.M (Kd.int .i64) _ _ _ (wrap64 (x7_2 + 1)) [.int .i64 (wrap64 (x7_2 + 1))] from rfl) (Reps.none _ _)))); intro v132 w17 ho18 hb hg_ hnew_; clear hg_ hnew_; (first | rw [← Ny131.out] at ho18 | (simp only [Int.reduceToNat] at ho18; rw [← Ny131.out] at ho18)); have n0_ := Aside0.mk (Kd.S_below (by (with_reducible repeat (first | apply Kd.S_alloc | apply Kd.S_drewN | apply Kd.S_drew)); exact HO_4.out) hb); have n1_ := Aside0.mk (Kd.R_below (by (with_reducible repeat (first | apply Kd.R_alloc | apply Kd.R_drewN | apply Kd.R_drew)); exact HO_6.out) hb); have n2_ := Aside0.mk (Kd.R_elder' (by (with_reducible repeat (first | apply Kd.R_alloc | apply Kd.R_drewN | apply Kd.R_drew)); exact HO127.out) (Kd.R_base ho18) hb); have n3_ := Aside0.mk (Kd.R_elder' (by (with_reducible repeat (first | apply Kd.R_alloc | apply Kd.R_drewN | apply Kd.R_drew)); exact HO130.out) (Kd.R_base ho18) hb); have n4_ := Aside0.mk (Kd.R_lower (Kd.R_new' (Kd.R_new' ho18 (Kd.R_lt (by (with_reducible repeat (first | apply Kd.R_alloc | apply Kd.R_drewN | apply Kd.R_drew)); exact HO127.out))) (Kd.R_lt (by (with_reducible repeat (first | apply Kd.R_alloc | apply Kd.R_drewN | apply Kd.R_drew)); exact HO130.out))) (below_size (by repeat (first | (with_reducible first | exact HB.out | apply below_alloc | apply pw_below_drewN | apply below_drew1) | exact HB.out)))); have n5_ := Aside0.mk (below_step (by repeat (first | (with_reducible first | exact HB.out | apply below_alloc | apply pw_below_drewN | apply below_drew1) | exact HB.out)) hb); clear HO_4; clear HO_6; clear HO127; clear HO130; clear HB; have HO_4 := n0_; have HO_6 := n1_; have HO127 := n2_; have HO130 := n3_; have HO133 := n4_; have HB := n5_; clear n0_ n1_ n2_ n3_ n4_ n5_; clear hb ho18) | ((with_reducible refine gate_dst (N := 56) rfl ?_); (try (refine gate_guard (by rfl) ?_; dsimp only)); refine Kd.R_lit (Kd.int .i64) _ 3 ?hg (N := 56) ?hd (xs := ([wrap64 (x5_1 + 1), x7_2] : List Int)) (inner := [.int .i64 (wrap64 (x5_1 + 1)), .int .i64 x7_2]) (ok := fun _ => True) (okp := fun _ => True) ?hr ?hp (fun _ hk => hk) trivial (Below.refl _ _) (Nat.le_refl _) (by simp) ?_; (case hd => rfl); (case hg => rfl); (case hr => first | (go_simp; done) | (go_simp; rfl)); (case hp => exact (Reps.one (show Kd.M (Kd.int .i64) _ _ _ (wrap64 (x5_1 + 1)) [.int .i64 (wrap64 (x5_1 + 1))] from rfl) (Reps.one (show Kd.M (Kd.int .i64) _ _ _ x7_2 [.int .i64 x7_2] from rfl) (Reps.none _ _)))); intro v135 w19 ho20 hb hg_ hnew_; clear hg_ hnew_; (first | rw [← Ny134.out] at ho20 | (simp only [Int.reduceToNat] at ho20; rw [← Ny134.out] at ho20)); have n0_ := Aside0.mk (Kd.S_below (by (with_reducible repeat (first | apply Kd.S_alloc | apply Kd.S_drewN | apply Kd.S_drew)); exact HO_4.out) hb); have n1_ := Aside0.mk (Kd.R_below (by (with_reducible repeat (first | apply Kd.R_alloc | apply Kd.R_drewN | apply Kd.R_drew)); exact HO_6.out) hb); have n2_ := Aside0.mk (Kd.R_elder' (by (with_reducible repeat (first | apply Kd.R_alloc | apply Kd.R_drewN | apply Kd.R_drew)); exact HO127.out) (Kd.R_base ho20) hb); have n3_ := Aside0.mk (Kd.R_elder' (by (with_reducible repeat (first | apply Kd.R_alloc | apply Kd.R_drewN | apply Kd.R_drew)); exact HO130.out) (Kd.R_base ho20) hb); have n4_ := Aside0.mk (Kd.R_elder' (by (with_reducible repeat (first | apply Kd.R_alloc | apply Kd.R_drewN | apply Kd.R_drew)); exact HO133.out) (Kd.R_base ho20) hb); have n5_ := Aside0.mk (Kd.R_lower (Kd.R_new' (Kd.R_new' (Kd.R_new' ho20 (Kd.R_lt (by (with_reducible repeat (first | apply Kd.R_alloc | apply Kd.R_drewN | apply Kd.R_drew)); exact HO127.out))) (Kd.R_lt (by (with_reducible repeat (first | apply Kd.R_alloc | apply Kd.R_drewN | apply Kd.R_drew)); exact HO130.out))) (Kd.R_lt (by (with_reducible repeat (first | apply Kd.R_alloc | apply Kd.R_drewN | apply Kd.R_drew)); exact HO133.out))) (below_size (by repeat (first | (with_reducible first | exact HB.out | apply below_alloc | apply pw_below_drewN | apply below_drew1) | exact HB.out)))); have n6_ := Aside0.mk (below_step (by repeat (first | (with_reducible first | exact HB.out | apply below_alloc | apply pw_below_drewN | apply below_drew1) | exact HB.out)) hb); clear HO_4; clear HO_6; clear HO127; clear HO130; clear HO133; clear HB; have HO_4 := n0_; have HO_6 := n1_; have HO127 := n2_; have HO130 := n3_; have HO133 := n4_; have HO136 := n5_; have HB := n6_; clear n0_ n1_ n2_ n3_ n4_ n5_ n6_; clear hb ho20; obtain ⟨Ao21, co21, eo21⟩ := Kd.R_slice HO127.out; subst eo21; obtain ⟨Ao22, co22, eo22⟩ := Kd.R_slice HO130.out; subst eo22; obtain ⟨Ao23, co23, eo23⟩ := Kd.R_slice HO133.out; subst eo23; obtain ⟨Ao24, co24, eo24⟩ := Kd.R_slice HO136.out; subst eo24) | ((with_reducible refine gate_dst (N := 57) rfl ?_); (try (refine gate_guard (by rfl) ?_; dsimp only)); refine Kd.S_lits (Kd.slice 3 (Kd.int .i64)) w.heap.size 37 ?hg (N := 57) ?hd (xs := ([y125, y128, y131, y134] : List (List Int))) (inner := [.slice Ao21 y125.length co21, .slice Ao22 y128.length co22, .slice Ao23 y131.length co23, .slice Ao24 y134.length co24]) (ok := fun _ => True) (fun j_ k_ => (j_ = 0 ∧ some k_ = (.slice Ao21 y125.length co21 : Value).ownBlock) ∨ (j_ = 1 ∧ some k_ = (.slice Ao22 y128.length co22 : Value).ownBlock) ∨ (j_ = 2 ∧ some k_ = (.slice Ao23 y131.length co23 : Value).ownBlock) ∨ (j_ = 3 ∧ some k_ = (.slice Ao24 y134.length co24 : Value).ownBlock)) ?hr (by first | rfl | simp) ?hp ?ha (fun _ _ _ => trivial) trivial (Below.refl _ _) (below_size (by repeat (first | (with_reducible first | exact HB.out | apply below_alloc | apply pw_below_drewN | apply below_drew1) | exact HB.out))) (by simp) ?_; (case hd => rfl); (case hg => rfl); (case hr => first | (go_simp; done) | (go_simp; rfl)); (case hp => (rintro j_ x_ hx_; rcases j_ with _ | _ | _ | _ | j_; (focus (injection (show some y125 = some x_ from hx_) with hx2_; subst hx2_; exact Kd.M_row (Kd.R_mono (Kd.R_tight rfl (by (with_reducible repeat (first | apply Kd.R_alloc | apply Kd.R_drewN | apply Kd.R_drew)); exact HO127.out)) (fun k_ h_ => (.inl ⟨rfl, h_⟩))))); (focus (injection (show some y128 = some x_ from hx_) with hx2_; subst hx2_; exact Kd.M_row (Kd.R_mono (Kd.R_tight rfl (by (with_reducible repeat (first | apply Kd.R_alloc | apply Kd.R_drewN | apply Kd.R_drew)); exact HO130.out)) (fun k_ h_ => (.inr (.inl ⟨rfl, h_⟩)))))); (focus (injection (show some y131 = some x_ from hx_) with hx2_; subst hx2_; exact Kd.M_row (Kd.R_mono (Kd.R_tight rfl (by (with_reducible repeat (first | apply Kd.R_alloc | apply Kd.R_drewN | apply Kd.R_drew)); exact HO133.out)) (fun k_ h_ => (.inr (.inr (.inl ⟨rfl, h_⟩))))))); (focus (injection (show some y134 = some x_ from hx_) with hx2_; subst hx2_; exact Kd.M_row (Kd.R_mono (Kd.R_tight rfl (by (with_reducible repeat (first | apply Kd.R_alloc | apply Kd.R_drewN | apply Kd.R_drew)); exact HO136.out)) (fun k_ h_ => (.inr (.inr (.inr ⟨rfl, h_⟩))))))); (focus (exact absurd hx_ (by simp))))); (case ha => (have ne0_1 : ∀ k_, some k_ = (.slice Ao21 y125.length co21 : Value).ownBlock → some k_ = (.slice Ao22 y128.length co22 : Value).ownBlock → False := fun k_ h1_ h2_ => (HO127.out.1 k_ h1_.symm).1.1.2 h2_; have ne0_2 : ∀ k_, some k_ = (.slice Ao21 y125.length co21 : Value).ownBlock → some k_ = (.slice Ao23 y131.length co23 : Value).ownBlock → False := fun k_ h1_ h2_ => (HO127.out.1 k_ h1_.symm).1.2 h2_; have ne0_3 : ∀ k_, some k_ = (.slice Ao21 y125.length co21 : Value).ownBlock → some k_ = (.slice Ao24 y134.length co24 : Value).ownBlock → False := fun k_ h1_ h2_ => (HO127.out.1 k_ h1_.symm).2 h2_; have ne1_2 : ∀ k_, some k_ = (.slice Ao22 y128.length co22 : Value).ownBlock → some k_ = (.slice Ao23 y131.length co23 : Value).ownBlock → False := fun k_ h1_ h2_ => (HO130.out.1 k_ h1_.symm).1.2 h2_; have ne1_3 : ∀ k_, some k_ = (.slice Ao22 y128.length co22 : Value).ownBlock → some k_ = (.slice Ao24 y134.length co24 : Value).ownBlock → False := fun k_ h1_ h2_ => (HO130.out.1 k_ h1_.symm).2 h2_; have ne2_3 : ∀ k_, some k_ = (.slice Ao23 y131.length co23 : Value).ownBlock → some k_ = (.slice Ao24 y134.length co24 : Value).ownBlock → False := fun k_ h1_ h2_ => (HO133.out.1 k_ h1_.symm).2 h2_; rintro i_ j_ k_ hi_ hj_; rcases hi_ with ⟨hx_, hy_⟩ | ⟨hx_, hy_⟩ | ⟨hx_, hy_⟩ | ⟨hx_, hy_⟩; (focus (rcases hj_ with ⟨hz_, hw_⟩ | ⟨hz_, hw_⟩ | ⟨hz_, hw_⟩ | ⟨hz_, hw_⟩; (focus (rw [hx_, hz_])); (focus (exact (ne0_1 k_ hy_ hw_).elim)); (focus (exact (ne0_2 k_ hy_ hw_).elim)); (focus (exact (ne0_3 k_ hy_ hw_).elim)))); (focus (rcases hj_ with ⟨hz_, hw_⟩ | ⟨hz_, hw_⟩ | ⟨hz_, hw_⟩ | ⟨hz_, hw_⟩; (focus (exact (ne0_1 k_ hw_ hy_).elim)); (focus (rw [hx_, hz_])); (focus (exact (ne1_2 k_ hy_ hw_).elim)); (focus (exact (ne1_3 k_ hy_ hw_).elim)))); (focus (rcases hj_ with ⟨hz_, hw_⟩ | ⟨hz_, hw_⟩ | ⟨hz_, hw_⟩ | ⟨hz_, hw_⟩; (focus (exact (ne0_2 k_ hw_ hy_).elim)); (focus (exact (ne1_2 k_ hw_ hy_).elim)); (focus (rw [hx_, hz_])); (focus (exact (ne2_3 k_ hy_ hw_).elim)))); (focus (rcases hj_ with ⟨hz_, hw_⟩ | ⟨hz_, hw_⟩ | ⟨hz_, hw_⟩ | ⟨hz_, hw_⟩; (focus (exact (ne0_3 k_ hw_ hy_).elim)); (focus (exact (ne1_3 k_ hw_ hy_).elim)); (focus (exact (ne2_3 k_ hw_ hy_).elim)); (focus (rw [hx_, hz_])))))); intro v138 w25 ho26 hb hg_ hnew_; have hb2_ := (show ∀ {B_ : Nat} {a_ b_ : World}, Below B_ a_ b_ → a_.grownBy b_ none → Below a_.heap.size a_ b_ from fun h_ g_ => ⟨h_.os, h_.tape, h_.output, h_.size, fun k_ hk_ => g_.block k_ hk_ (by simp)⟩) hb hg_; clear hb; have hb := hb2_; clear hb2_; clear hg_ hnew_; (first | rw [← Ny137.out] at ho26 | (simp only [Int.reduceToNat] at ho26; rw [← Ny137.out] at ho26)); have n0_ := Aside0.mk (Kd.S_below (by (with_reducible repeat (first | apply Kd.S_alloc | apply Kd.S_drewN | apply Kd.S_drew)); exact HO_4.out) hb); have n1_ := Aside0.mk (Kd.R_below (by (with_reducible repeat (first | apply Kd.R_alloc | apply Kd.R_drewN | apply Kd.R_drew)); exact HO_6.out) hb); have n2_ := Aside0.mk (ho26); have n3_ := Aside0.mk (below_step (by repeat (first | (with_reducible first | exact HB.out | apply below_alloc | apply pw_below_drewN | apply below_drew1) | exact HB.out)) hb); clear HO_4; clear HO_6; clear HB; clear HO127; clear HO130; clear HO133; clear HO136; have HO_4 := n0_; have HO_6 := n1_; have HO139 := n2_; have HB := n3_; clear n0_ n1_ n2_ n3_; clear hb ho26))
                      go_loopg [8, 9, 11] k2 (fun kq v8 v9 v11 w' => ∃ (x8_3 : Int) (x9_3 : Int) (x11_3 : Int), v8 = .int .i64 x8_3 ∧ v9 = .int .i64 x9_3 ∧ v11 = .int .i64 x11_3 ∧ Aside0 (spec_SmoothImage.l2 kq l0 x4_1 x5_1 x6_2 x7_2 x8_3 x9_3 y137 x11_3 = some (r1, r2)) ∧ Aside0 (kq ≤ k2) ∧ Aside0 (Kd.S (Kd.slice 2 (Kd.int .i64)) 36 w' w.heap.size (fun k_ => some k_ ≠ (u6 : Value).ownBlock) u4 x4_1) ∧ Aside0 (Kd.R (Kd.int .i64) 2 w' w.heap.size (fun _ => True) u6 x6_2) ∧ Aside0 (Kd.S (Kd.slice 3 (Kd.int .i64)) 37 w' w.heap.size (fun _ => True) v138 y137) ∧ Aside0 (Below w.heap.size w w'))
                      case atStart => exact ⟨(rd (rd_L1 l0 x5_1) x7_2), (1), (0), (by first | rfl | (simp; done) | (simp [*]; done)), (by first | rfl | (simp; done) | (simp [*]; done)), (by first | rfl | (simp; done) | (simp [*]; done)), H', ⟨Nat.le_refl _⟩, ⟨by (with_reducible repeat (first | apply Kd.S_alloc | apply Kd.S_drewN | apply Kd.S_drew)); exact HO_4.out⟩, ⟨by (with_reducible repeat (first | apply Kd.R_alloc | apply Kd.R_drewN | apply Kd.R_drew)); exact HO_6.out⟩, ⟨by (with_reducible repeat (first | apply Kd.S_alloc | apply Kd.S_drewN | apply Kd.S_drew)); exact HO139.out⟩, ⟨by repeat (first | (with_reducible first | exact HB.out | apply below_alloc | apply pw_below_drewN | apply below_drew1) | exact HB.out)⟩⟩
                      case round =>
                        clear H'
                        try clear c1
                        try clear p1
                        try clear q1
                        try clear hx1
                        try clear p2
                        try clear hx2
                        try clear c3
                        try clear c6
                        try clear c6b0
                        try clear p6
                        try clear c9
                        try clear c9b0
                        try clear c10
                        try clear c10b0
                        try clear c11
                        try clear c11b0
                        try clear p11
                        try clear q11
                        try clear hx11
                        try clear c12
                        try clear c12b0
                        try clear p12
                        try clear q12
                        try clear hx12
                        try clear c18
                        try clear hx119_0
                        try clear hx123_0
                        try clear hx124_0
                        try clear p119
                        try clear p123
                        try clear p124
                        try clear p2
                        try clear q119
                        try clear q123
                        try clear q124
                        obtain ⟨x8_3, x9_3, x11_3, rfl, rfl, rfl, HA, HK3, HO_4, HO_6, HO_10, HB⟩ := hrel
                        cases gk with
                        | zero => exact absurd HA.out (by simp [spec_SmoothImage.l2])
                        | succ k3 =>
                          have H := HA.out
                          clear HA
                          simp only [spec_SmoothImage.l2] at H
                          by_cases c27 : x11_3 < 4
                          · rw [if_pos c27] at H
                            have c27b0 : decide (x11_3 < 4) = true := decide_eq_true c27
                            clear c27
                            by_cases c28 : 0 ≤ x11_3
                            · rw [if_pos c28] at H
                              have c28b0 : decide (0 ≤ x11_3) = true := decide_eq_true c28
                              clear c28
                              by_cases c29 : x11_3 < (y137.length : Int)
                              · rw [if_pos c29] at H
                                have c29b0 : decide (x11_3 < (y137.length : Int)) = true := decide_eq_true c29
                                clear c29
                                by_cases c30 : 0 < ((rd_L2 y137 x11_3).length : Int)
                                · rw [if_pos c30] at H
                                  have c30b0 : decide (0 < ((rd_L2 y137 x11_3).length : Int)) = true := decide_eq_true c30
                                  have c30b1 : decide (0 < (rd_L2 y137 x11_3).length) = true := decide_eq_true (by omega)
                                  clear c30
                                  by_cases c31 : 1 < ((rd_L2 y137 x11_3).length : Int)
                                  · rw [if_pos c31] at H
                                    have c31b0 : decide (1 < ((rd_L2 y137 x11_3).length : Int)) = true := decide_eq_true c31
                                    have c31b1 : decide (1 < (rd_L2 y137 x11_3).length) = true := decide_eq_true (by omega)
                                    clear c31
                                    by_cases c32 : (rd (rd_L2 y137 x11_3) 0) ≥ 0
                                    · rw [if_pos c32] at H
                                      have c32b0 : decide (0 ≤ (rd (rd_L2 y137 x11_3) 0)) = true := decide_eq_true c32
                                      clear c32
                                      by_cases c33 : (rd (rd_L2 y137 x11_3) 0) < (l0.length : Int)
                                      · rw [if_pos c33] at H
                                        have c33b0 : decide ((rd (rd_L2 y137 x11_3) 0) < (l0.length : Int)) = true := decide_eq_true c33
                                        clear c33
                                        by_cases c34 : (rd (rd_L2 y137 x11_3) 1) ≥ 0
                                        · rw [if_pos c34] at H
                                          have c34b0 : decide (0 ≤ (rd (rd_L2 y137 x11_3) 1)) = true := decide_eq_true c34
                                          clear c34
                                          by_cases c35 : 0 < (l0.length : Int)
                                          · rw [if_pos c35] at H
                                            have c35b0 : decide (0 < (l0.length : Int)) = true := decide_eq_true c35
                                            have c35b1 : decide (0 < l0.length) = true := decide_eq_true (by omega)
                                            clear c35
                                            by_cases c36 : (rd (rd_L2 y137 x11_3) 1) < ((rd_L1 l0 0).length : Int)
                                            · rw [if_pos c36] at H
                                              have c36b0 : decide ((rd (rd_L2 y137 x11_3) 1) < ((rd_L1 l0 0).length : Int)) = true := decide_eq_true c36
                                              clear c36
                                              by_cases c37 : 0 ≤ (rd (rd_L2 y137 x11_3) 0)
                                              · rw [if_pos c37] at H
                                                have c37b0 : decide (0 ≤ (rd (rd_L2 y137 x11_3) 0)) = true := decide_eq_true c37
                                                clear c37
                                                by_cases c38 : 0 ≤ (rd (rd_L2 y137 x11_3) 1)
                                                · rw [if_pos c38] at H
                                                  have c38b0 : decide (0 ≤ (rd (rd_L2 y137 x11_3) 1)) = true := decide_eq_true c38
                                                  clear c38
                                                  by_cases c39 : (rd (rd_L2 y137 x11_3) 1) < ((rd_L1 l0 (rd (rd_L2 y137 x11_3) 0)).length : Int)
                                                  · rw [if_pos c39] at H
                                                    have c39b0 : decide ((rd (rd_L2 y137 x11_3) 1) < ((rd_L1 l0 (rd (rd_L2 y137 x11_3) 0)).length : Int)) = true := decide_eq_true c39
                                                    clear c39
                                                    have H' := Aside0.mk H
                                                    clear H
                                                    obtain ⟨Ao40, co40, eo40⟩ := Kd.S_slice HO_10.out
                                                    subst eo40
                                                    have p140 : 0 ≤ (x11_3 : Int) := of_decide_eq_true (by first | (with_reducible assumption) | assumption)
                                                    have q140 : x11_3 < (y137.length : Int) := of_decide_eq_true (by first | (with_reducible assumption) | assumption)
                                                    obtain ⟨ad140, A140_0, c140_0, e140, hx140_0, hl140_0, hi140_0⟩ := at_L2 (Kd.S_reads' HO_10.out).2.2 x11_3 p140 q140
                                                    cases e140
                                                    obtain ⟨ce140, hce140, hMe140, hcc140⟩ := Kd.S_get HO_10.out [] x11_3 p140 (by first | exact q140 | exact of_decide_eq_true (by first | (with_reducible assumption) | assumption) | (have e_ := (Kd.S_reads' HO_10.out).1; omega))
                                                    obtain ⟨ve140_0, rfl, ge140_0⟩ := hMe140
                                                    have hv140_0 := hcc140 0 _ rfl
                                                    rw [Nat.add_zero, show ((Kd.slice 3 (Kd.int .i64))).sz = 1 from rfl, Nat.mul_one] at hv140_0
                                                    replace hv140_0 := Option.some.inj (hv140_0.symm.trans hx140_0)
                                                    rw [hv140_0] at ge140_0
                                                    have HL140_0 := Aside0.mk (show Kd.R (Kd.int .i64) 3 _ _ _ _ (rd_L2 y137 x11_3) from ge140_0)
                                                    clear hv140_0 ge140_0
                                                    clear hcc140 hce140
                                                    have HR140_0 := Aside0.mk hi140_0
                                                    have HC140_0 := Aside0.mk hl140_0
                                                    clear hi140_0 hl140_0
                                                    replace p140 := eq_true p140
                                                    replace q140 := eq_true q140
                                                    have p141 : 0 ≤ (0 : Int) := (by omega)
                                                    have q141 : 0 < ((rd_L2 y137 x11_3).length : Int) := of_decide_eq_true (by first | (with_reducible assumption) | assumption)
                                                    obtain ⟨ad141, e141, hx141_0⟩ := Kd.at_int (by repeat (first | (with_reducible exact HR140_0.out) | (with_reducible refine Kd.C_alloc ?_ _) | (with_reducible refine Kd.C_drewN ?_ _) | (with_reducible refine Kd.C_drew ?_) | exact HR140_0.out)) 0 p141 q141
                                                    cases e141
                                                    have qi141 : (0 < (rd_L2 y137 x11_3).length) = True := eq_true (by omega)
                                                    (try rw [show ((0 : Int)).toNat = 0 from rfl] at hx141_0)
                                                    (try rw [Addr.add_zero'] at hx141_0)
                                                    replace p141 := eq_true p141
                                                    replace q141 := eq_true q141
                                                    have p142 : 0 ≤ (x11_3 : Int) := of_decide_eq_true (by first | (with_reducible assumption) | assumption)
                                                    have q142 : x11_3 < (y137.length : Int) := of_decide_eq_true (by first | (with_reducible assumption) | assumption)
                                                    obtain ⟨ad142, A142_0, c142_0, e142, hx142_0, hl142_0, hi142_0⟩ := at_L2 (Kd.S_reads' HO_10.out).2.2 x11_3 p142 q142
                                                    obtain rfl : ad140 = ad142 := (by injection e142)
                                                    obtain ⟨ce142, hce142, hMe142, hcc142⟩ := Kd.S_get HO_10.out [] x11_3 p142 (by first | exact q142 | exact of_decide_eq_true (by first | (with_reducible assumption) | assumption) | (have e_ := (Kd.S_reads' HO_10.out).1; omega))
                                                    obtain ⟨ve142_0, rfl, ge142_0⟩ := hMe142
                                                    have hv142_0 := hcc142 0 _ rfl
                                                    rw [Nat.add_zero, show ((Kd.slice 3 (Kd.int .i64))).sz = 1 from rfl, Nat.mul_one] at hv142_0
                                                    replace hv142_0 := Option.some.inj (hv142_0.symm.trans hx142_0)
                                                    rw [hv142_0] at ge142_0
                                                    have HL142_0 := Aside0.mk (show Kd.R (Kd.int .i64) 3 _ _ _ _ (rd_L2 y137 x11_3) from ge142_0)
                                                    clear hv142_0 ge142_0
                                                    clear hcc142 hce142
                                                    have HR142_0 := Aside0.mk hi142_0
                                                    have HC142_0 := Aside0.mk hl142_0
                                                    clear hi142_0 hl142_0
                                                    replace p142 := eq_true p142
                                                    replace q142 := eq_true q142
                                                    have ea_ := Option.some.inj (hx140_0.symm.trans hx142_0)
                                                    injection ea_ with ea_ en_ ec_
                                                    subst ea_
                                                    subst ec_
                                                    clear en_
                                                    have p143 : 0 ≤ (1 : Int) := (by omega)
                                                    have q143 : 1 < ((rd_L2 y137 x11_3).length : Int) := of_decide_eq_true (by first | (with_reducible assumption) | assumption)
                                                    obtain ⟨ad143, e143, hx143_0⟩ := Kd.at_int (by repeat (first | (with_reducible exact HR142_0.out) | (with_reducible refine Kd.C_alloc ?_ _) | (with_reducible refine Kd.C_drewN ?_ _) | (with_reducible refine Kd.C_drew ?_) | exact HR142_0.out)) 1 p143 q143
                                                    cases e143
                                                    (try simp only [show (1 : Int).toNat = 1 from rfl, Nat.reduceMul, Nat.reduceEqDiff, Go.Addr.add, ↓reduceIte] at hx143_0)
                                                    have qi143 : (1 < (rd_L2 y137 x11_3).length) = True := eq_true (by omega)
                                                    (try rw [show ((1 : Int)).toNat = 1 from rfl] at hx143_0)
                                                    replace p143 := eq_true p143
                                                    replace q143 := eq_true q143
                                                    have p144 : 0 ≤ (0 : Int) := (by omega)
                                                    have q144 : 0 < (l0.length : Int) := of_decide_eq_true (by first | (with_reducible assumption) | assumption)
                                                    obtain ⟨ad144, A144_0, c144_0, e144, hx144_0, hl144_0, hi144_0⟩ := at_L1 HR0.out 0 p144 q144
                                                    obtain rfl : ad119 = ad144 := (by injection e144)
                                                    have qi144 : (0 < l0.length) = True := eq_true (by omega)
                                                    (try rw [show ((0 : Int)).toNat = 0 from rfl] at hx144_0)
                                                    (try rw [Addr.add_zero'] at hx144_0)
                                                    replace hx144_0 := (HB.out.cell (World.block_lt_of_cell? w _ hx144_0)).trans hx144_0
                                                    have HR144_0 := Aside0.mk hi144_0
                                                    have HC144_0 := Aside0.mk hl144_0
                                                    clear hi144_0 hl144_0
                                                    replace p144 := eq_true p144
                                                    replace q144 := eq_true q144
                                                    have p145 : 0 ≤ ((rd (rd_L2 y137 x11_3) 0) : Int) := of_decide_eq_true (by first | (with_reducible assumption) | assumption)
                                                    have q145 : (rd (rd_L2 y137 x11_3) 0) < (l0.length : Int) := of_decide_eq_true (by first | (with_reducible assumption) | assumption)
                                                    obtain ⟨ad145, A145_0, c145_0, e145, hx145_0, hl145_0, hi145_0⟩ := at_L1 HR0.out (rd (rd_L2 y137 x11_3) 0) p145 q145
                                                    obtain rfl : ad119 = ad145 := (by injection e145)
                                                    replace hx145_0 := (HB.out.cell (World.block_lt_of_cell? w _ hx145_0)).trans hx145_0
                                                    have HR145_0 := Aside0.mk hi145_0
                                                    have HC145_0 := Aside0.mk hl145_0
                                                    clear hi145_0 hl145_0
                                                    replace p145 := eq_true p145
                                                    replace q145 := eq_true q145
                                                    have p146 : 0 ≤ ((rd (rd_L2 y137 x11_3) 1) : Int) := of_decide_eq_true (by first | (with_reducible assumption) | assumption)
                                                    have q146 : (rd (rd_L2 y137 x11_3) 1) < ((rd_L1 l0 (rd (rd_L2 y137 x11_3) 0)).length : Int) := of_decide_eq_true (by first | (with_reducible assumption) | assumption)
                                                    obtain ⟨ad146, e146, hx146_0⟩ := Kd.at_int HR145_0.out (rd (rd_L2 y137 x11_3) 1) p146 q146
                                                    cases e146
                                                    replace hx146_0 := (HB.out.cell (World.block_lt_of_cell? w _ hx146_0)).trans hx146_0
                                                    replace p146 := eq_true p146
                                                    replace q146 := eq_true q146
                                                    go_wp2
                                                    go_roundg k3
                                                    case measure => have := HK1.out; have := HK2.out; have := HK3.out; omega
                                                    case rel => exact ⟨(wrap64 (x8_3 + (rd (rd_L1 l0 (rd (rd_L2 y137 x11_3) 0)) (rd (rd_L2 y137 x11_3) 1)))), (wrap64 (x9_3 + 1)), (wrap64 (x11_3 + 1)), (by first | rfl | (simp; done) | (simp [*]; done)), (by first | rfl | (simp; done) | (simp [*]; done)), (by first | rfl | (simp; done) | (simp [*]; done)), H', ⟨by have := HK1.out; have := HK2.out; have := HK3.out; omega⟩, ⟨by (with_reducible repeat (first | apply Kd.S_alloc | apply Kd.S_drewN | apply Kd.S_drew)); exact HO_4.out⟩, ⟨by (with_reducible repeat (first | apply Kd.R_alloc | apply Kd.R_drewN | apply Kd.R_drew)); exact HO_6.out⟩, ⟨by (with_reducible repeat (first | apply Kd.S_alloc | apply Kd.S_drewN | apply Kd.S_drew)); exact HO_10.out⟩, ⟨by repeat (first | (with_reducible first | exact HB.out | apply below_alloc | apply pw_below_drewN | apply below_drew1) | exact HB.out)⟩⟩
                                                  · rw [if_neg c39] at H
                                                    exact absurd H (by simp)
                                                · rw [if_neg c38] at H
                                                  exact absurd H (by simp)
                                              · rw [if_neg c37] at H
                                                exact absurd H (by simp)
                                            · rw [if_neg c36] at H
                                              have c36b0 : decide ((rd (rd_L2 y137 x11_3) 1) < ((rd_L1 l0 0).length : Int)) = false := decide_eq_false c36
                                              clear c36
                                              have H' := Aside0.mk H
                                              clear H
                                              obtain ⟨Ao41, co41, eo41⟩ := Kd.S_slice HO_10.out
                                              subst eo41
                                              have p140 : 0 ≤ (x11_3 : Int) := of_decide_eq_true (by first | (with_reducible assumption) | assumption)
                                              have q140 : x11_3 < (y137.length : Int) := of_decide_eq_true (by first | (with_reducible assumption) | assumption)
                                              obtain ⟨ad140, A140_0, c140_0, e140, hx140_0, hl140_0, hi140_0⟩ := at_L2 (Kd.S_reads' HO_10.out).2.2 x11_3 p140 q140
                                              cases e140
                                              obtain ⟨ce140, hce140, hMe140, hcc140⟩ := Kd.S_get HO_10.out [] x11_3 p140 (by first | exact q140 | exact of_decide_eq_true (by first | (with_reducible assumption) | assumption) | (have e_ := (Kd.S_reads' HO_10.out).1; omega))
                                              obtain ⟨ve140_0, rfl, ge140_0⟩ := hMe140
                                              have hv140_0 := hcc140 0 _ rfl
                                              rw [Nat.add_zero, show ((Kd.slice 3 (Kd.int .i64))).sz = 1 from rfl, Nat.mul_one] at hv140_0
                                              replace hv140_0 := Option.some.inj (hv140_0.symm.trans hx140_0)
                                              rw [hv140_0] at ge140_0
                                              have HL140_0 := Aside0.mk (show Kd.R (Kd.int .i64) 3 _ _ _ _ (rd_L2 y137 x11_3) from ge140_0)
                                              clear hv140_0 ge140_0
                                              clear hcc140 hce140
                                              have HR140_0 := Aside0.mk hi140_0
                                              have HC140_0 := Aside0.mk hl140_0
                                              clear hi140_0 hl140_0
                                              replace p140 := eq_true p140
                                              replace q140 := eq_true q140
                                              have p141 : 0 ≤ (0 : Int) := (by omega)
                                              have q141 : 0 < ((rd_L2 y137 x11_3).length : Int) := of_decide_eq_true (by first | (with_reducible assumption) | assumption)
                                              obtain ⟨ad141, e141, hx141_0⟩ := Kd.at_int (by repeat (first | (with_reducible exact HR140_0.out) | (with_reducible refine Kd.C_alloc ?_ _) | (with_reducible refine Kd.C_drewN ?_ _) | (with_reducible refine Kd.C_drew ?_) | exact HR140_0.out)) 0 p141 q141
                                              cases e141
                                              have qi141 : (0 < (rd_L2 y137 x11_3).length) = True := eq_true (by omega)
                                              (try rw [show ((0 : Int)).toNat = 0 from rfl] at hx141_0)
                                              (try rw [Addr.add_zero'] at hx141_0)
                                              replace p141 := eq_true p141
                                              replace q141 := eq_true q141
                                              have p142 : 0 ≤ (x11_3 : Int) := of_decide_eq_true (by first | (with_reducible assumption) | assumption)
                                              have q142 : x11_3 < (y137.length : Int) := of_decide_eq_true (by first | (with_reducible assumption) | assumption)
                                              obtain ⟨ad142, A142_0, c142_0, e142, hx142_0, hl142_0, hi142_0⟩ := at_L2 (Kd.S_reads' HO_10.out).2.2 x11_3 p142 q142
                                              obtain rfl : ad140 = ad142 := (by injection e142)
                                              obtain ⟨ce142, hce142, hMe142, hcc142⟩ := Kd.S_get HO_10.out [] x11_3 p142 (by first | exact q142 | exact of_decide_eq_true (by first | (with_reducible assumption) | assumption) | (have e_ := (Kd.S_reads' HO_10.out).1; omega))
                                              obtain ⟨ve142_0, rfl, ge142_0⟩ := hMe142
                                              have hv142_0 := hcc142 0 _ rfl
                                              rw [Nat.add_zero, show ((Kd.slice 3 (Kd.int .i64))).sz = 1 from rfl, Nat.mul_one] at hv142_0
                                              replace hv142_0 := Option.some.inj (hv142_0.symm.trans hx142_0)
                                              rw [hv142_0] at ge142_0
                                              have HL142_0 := Aside0.mk (show Kd.R (Kd.int .i64) 3 _ _ _ _ (rd_L2 y137 x11_3) from ge142_0)
                                              clear hv142_0 ge142_0
                                              clear hcc142 hce142
                                              have HR142_0 := Aside0.mk hi142_0
                                              have HC142_0 := Aside0.mk hl142_0
                                              clear hi142_0 hl142_0
                                              replace p142 := eq_true p142
                                              replace q142 := eq_true q142
                                              have ea_ := Option.some.inj (hx140_0.symm.trans hx142_0)
                                              injection ea_ with ea_ en_ ec_
                                              subst ea_
                                              subst ec_
                                              clear en_
                                              have p143 : 0 ≤ (1 : Int) := (by omega)
                                              have q143 : 1 < ((rd_L2 y137 x11_3).length : Int) := of_decide_eq_true (by first | (with_reducible assumption) | assumption)
                                              obtain ⟨ad143, e143, hx143_0⟩ := Kd.at_int (by repeat (first | (with_reducible exact HR142_0.out) | (with_reducible refine Kd.C_alloc ?_ _) | (with_reducible refine Kd.C_drewN ?_ _) | (with_reducible refine Kd.C_drew ?_) | exact HR142_0.out)) 1 p143 q143
                                              cases e143
                                              (try simp only [show (1 : Int).toNat = 1 from rfl, Nat.reduceMul, Nat.reduceEqDiff, Go.Addr.add, ↓reduceIte] at hx143_0)
                                              have qi143 : (1 < (rd_L2 y137 x11_3).length) = True := eq_true (by omega)
                                              (try rw [show ((1 : Int)).toNat = 1 from rfl] at hx143_0)
                                              replace p143 := eq_true p143
                                              replace q143 := eq_true q143
                                              have p144 : 0 ≤ (0 : Int) := (by omega)
                                              have q144 : 0 < (l0.length : Int) := of_decide_eq_true (by first | (with_reducible assumption) | assumption)
                                              obtain ⟨ad144, A144_0, c144_0, e144, hx144_0, hl144_0, hi144_0⟩ := at_L1 HR0.out 0 p144 q144
                                              obtain rfl : ad119 = ad144 := (by injection e144)
                                              have qi144 : (0 < l0.length) = True := eq_true (by omega)
                                              (try rw [show ((0 : Int)).toNat = 0 from rfl] at hx144_0)
                                              (try rw [Addr.add_zero'] at hx144_0)
                                              replace hx144_0 := (HB.out.cell (World.block_lt_of_cell? w _ hx144_0)).trans hx144_0
                                              have HR144_0 := Aside0.mk hi144_0
                                              have HC144_0 := Aside0.mk hl144_0
                                              clear hi144_0 hl144_0
                                              replace p144 := eq_true p144
                                              replace q144 := eq_true q144
                                              go_wp2
                                              go_roundg k3
                                              case measure => have := HK1.out; have := HK2.out; have := HK3.out; omega
                                              case rel => exact ⟨(x8_3), (x9_3), (wrap64 (x11_3 + 1)), (by first | rfl | (simp; done) | (simp [*]; done)), (by first | rfl | (simp; done) | (simp [*]; done)), (by first | rfl | (simp; done) | (simp [*]; done)), H', ⟨by have := HK1.out; have := HK2.out; have := HK3.out; omega⟩, ⟨by (with_reducible repeat (first | apply Kd.S_alloc | apply Kd.S_drewN | apply Kd.S_drew)); exact HO_4.out⟩, ⟨by (with_reducible repeat (first | apply Kd.R_alloc | apply Kd.R_drewN | apply Kd.R_drew)); exact HO_6.out⟩, ⟨by (with_reducible repeat (first | apply Kd.S_alloc | apply Kd.S_drewN | apply Kd.S_drew)); exact HO_10.out⟩, ⟨by repeat (first | (with_reducible first | exact HB.out | apply below_alloc | apply pw_below_drewN | apply below_drew1) | exact HB.out)⟩⟩
                                          · rw [if_neg c35] at H
                                            exact absurd H (by simp)
                                        · rw [if_neg c34] at H
                                          have c34b0 : decide (0 ≤ (rd (rd_L2 y137 x11_3) 1)) = false := decide_eq_false c34
                                          clear c34
                                          have H' := Aside0.mk H
                                          clear H
                                          obtain ⟨Ao42, co42, eo42⟩ := Kd.S_slice HO_10.out
                                          subst eo42
                                          have p140 : 0 ≤ (x11_3 : Int) := of_decide_eq_true (by first | (with_reducible assumption) | assumption)
                                          have q140 : x11_3 < (y137.length : Int) := of_decide_eq_true (by first | (with_reducible assumption) | assumption)
                                          obtain ⟨ad140, A140_0, c140_0, e140, hx140_0, hl140_0, hi140_0⟩ := at_L2 (Kd.S_reads' HO_10.out).2.2 x11_3 p140 q140
                                          cases e140
                                          obtain ⟨ce140, hce140, hMe140, hcc140⟩ := Kd.S_get HO_10.out [] x11_3 p140 (by first | exact q140 | exact of_decide_eq_true (by first | (with_reducible assumption) | assumption) | (have e_ := (Kd.S_reads' HO_10.out).1; omega))
                                          obtain ⟨ve140_0, rfl, ge140_0⟩ := hMe140
                                          have hv140_0 := hcc140 0 _ rfl
                                          rw [Nat.add_zero, show ((Kd.slice 3 (Kd.int .i64))).sz = 1 from rfl, Nat.mul_one] at hv140_0
                                          replace hv140_0 := Option.some.inj (hv140_0.symm.trans hx140_0)
                                          rw [hv140_0] at ge140_0
                                          have HL140_0 := Aside0.mk (show Kd.R (Kd.int .i64) 3 _ _ _ _ (rd_L2 y137 x11_3) from ge140_0)
                                          clear hv140_0 ge140_0
                                          clear hcc140 hce140
                                          have HR140_0 := Aside0.mk hi140_0
                                          have HC140_0 := Aside0.mk hl140_0
                                          clear hi140_0 hl140_0
                                          replace p140 := eq_true p140
                                          replace q140 := eq_true q140
                                          have p141 : 0 ≤ (0 : Int) := (by omega)
                                          have q141 : 0 < ((rd_L2 y137 x11_3).length : Int) := of_decide_eq_true (by first | (with_reducible assumption) | assumption)
                                          obtain ⟨ad141, e141, hx141_0⟩ := Kd.at_int (by repeat (first | (with_reducible exact HR140_0.out) | (with_reducible refine Kd.C_alloc ?_ _) | (with_reducible refine Kd.C_drewN ?_ _) | (with_reducible refine Kd.C_drew ?_) | exact HR140_0.out)) 0 p141 q141
                                          cases e141
                                          have qi141 : (0 < (rd_L2 y137 x11_3).length) = True := eq_true (by omega)
                                          (try rw [show ((0 : Int)).toNat = 0 from rfl] at hx141_0)
                                          (try rw [Addr.add_zero'] at hx141_0)
                                          replace p141 := eq_true p141
                                          replace q141 := eq_true q141
                                          have p142 : 0 ≤ (x11_3 : Int) := of_decide_eq_true (by first | (with_reducible assumption) | assumption)
                                          have q142 : x11_3 < (y137.length : Int) := of_decide_eq_true (by first | (with_reducible assumption) | assumption)
                                          obtain ⟨ad142, A142_0, c142_0, e142, hx142_0, hl142_0, hi142_0⟩ := at_L2 (Kd.S_reads' HO_10.out).2.2 x11_3 p142 q142
                                          obtain rfl : ad140 = ad142 := (by injection e142)
                                          obtain ⟨ce142, hce142, hMe142, hcc142⟩ := Kd.S_get HO_10.out [] x11_3 p142 (by first | exact q142 | exact of_decide_eq_true (by first | (with_reducible assumption) | assumption) | (have e_ := (Kd.S_reads' HO_10.out).1; omega))
                                          obtain ⟨ve142_0, rfl, ge142_0⟩ := hMe142
                                          have hv142_0 := hcc142 0 _ rfl
                                          rw [Nat.add_zero, show ((Kd.slice 3 (Kd.int .i64))).sz = 1 from rfl, Nat.mul_one] at hv142_0
                                          replace hv142_0 := Option.some.inj (hv142_0.symm.trans hx142_0)
                                          rw [hv142_0] at ge142_0
                                          have HL142_0 := Aside0.mk (show Kd.R (Kd.int .i64) 3 _ _ _ _ (rd_L2 y137 x11_3) from ge142_0)
                                          clear hv142_0 ge142_0
                                          clear hcc142 hce142
                                          have HR142_0 := Aside0.mk hi142_0
                                          have HC142_0 := Aside0.mk hl142_0
                                          clear hi142_0 hl142_0
                                          replace p142 := eq_true p142
                                          replace q142 := eq_true q142
                                          have ea_ := Option.some.inj (hx140_0.symm.trans hx142_0)
                                          injection ea_ with ea_ en_ ec_
                                          subst ea_
                                          subst ec_
                                          clear en_
                                          have p143 : 0 ≤ (1 : Int) := (by omega)
                                          have q143 : 1 < ((rd_L2 y137 x11_3).length : Int) := of_decide_eq_true (by first | (with_reducible assumption) | assumption)
                                          obtain ⟨ad143, e143, hx143_0⟩ := Kd.at_int (by repeat (first | (with_reducible exact HR142_0.out) | (with_reducible refine Kd.C_alloc ?_ _) | (with_reducible refine Kd.C_drewN ?_ _) | (with_reducible refine Kd.C_drew ?_) | exact HR142_0.out)) 1 p143 q143
                                          cases e143
                                          (try simp only [show (1 : Int).toNat = 1 from rfl, Nat.reduceMul, Nat.reduceEqDiff, Go.Addr.add, ↓reduceIte] at hx143_0)
                                          have qi143 : (1 < (rd_L2 y137 x11_3).length) = True := eq_true (by omega)
                                          (try rw [show ((1 : Int)).toNat = 1 from rfl] at hx143_0)
                                          replace p143 := eq_true p143
                                          replace q143 := eq_true q143
                                          go_wp2
                                          go_roundg k3
                                          case measure => have := HK1.out; have := HK2.out; have := HK3.out; omega
                                          case rel => exact ⟨(x8_3), (x9_3), (wrap64 (x11_3 + 1)), (by first | rfl | (simp; done) | (simp [*]; done)), (by first | rfl | (simp; done) | (simp [*]; done)), (by first | rfl | (simp; done) | (simp [*]; done)), H', ⟨by have := HK1.out; have := HK2.out; have := HK3.out; omega⟩, ⟨by (with_reducible repeat (first | apply Kd.S_alloc | apply Kd.S_drewN | apply Kd.S_drew)); exact HO_4.out⟩, ⟨by (with_reducible repeat (first | apply Kd.R_alloc | apply Kd.R_drewN | apply Kd.R_drew)); exact HO_6.out⟩, ⟨by (with_reducible repeat (first | apply Kd.S_alloc | apply Kd.S_drewN | apply Kd.S_drew)); exact HO_10.out⟩, ⟨by repeat (first | (with_reducible first | exact HB.out | apply below_alloc | apply pw_below_drewN | apply below_drew1) | exact HB.out)⟩⟩
                                      · rw [if_neg c33] at H
                                        have c33b0 : decide ((rd (rd_L2 y137 x11_3) 0) < (l0.length : Int)) = false := decide_eq_false c33
                                        clear c33
                                        have H' := Aside0.mk H
                                        clear H
                                        obtain ⟨Ao43, co43, eo43⟩ := Kd.S_slice HO_10.out
                                        subst eo43
                                        have p140 : 0 ≤ (x11_3 : Int) := of_decide_eq_true (by first | (with_reducible assumption) | assumption)
                                        have q140 : x11_3 < (y137.length : Int) := of_decide_eq_true (by first | (with_reducible assumption) | assumption)
                                        obtain ⟨ad140, A140_0, c140_0, e140, hx140_0, hl140_0, hi140_0⟩ := at_L2 (Kd.S_reads' HO_10.out).2.2 x11_3 p140 q140
                                        cases e140
                                        obtain ⟨ce140, hce140, hMe140, hcc140⟩ := Kd.S_get HO_10.out [] x11_3 p140 (by first | exact q140 | exact of_decide_eq_true (by first | (with_reducible assumption) | assumption) | (have e_ := (Kd.S_reads' HO_10.out).1; omega))
                                        obtain ⟨ve140_0, rfl, ge140_0⟩ := hMe140
                                        have hv140_0 := hcc140 0 _ rfl
                                        rw [Nat.add_zero, show ((Kd.slice 3 (Kd.int .i64))).sz = 1 from rfl, Nat.mul_one] at hv140_0
                                        replace hv140_0 := Option.some.inj (hv140_0.symm.trans hx140_0)
                                        rw [hv140_0] at ge140_0
                                        have HL140_0 := Aside0.mk (show Kd.R (Kd.int .i64) 3 _ _ _ _ (rd_L2 y137 x11_3) from ge140_0)
                                        clear hv140_0 ge140_0
                                        clear hcc140 hce140
                                        have HR140_0 := Aside0.mk hi140_0
                                        have HC140_0 := Aside0.mk hl140_0
                                        clear hi140_0 hl140_0
                                        replace p140 := eq_true p140
                                        replace q140 := eq_true q140
                                        have p141 : 0 ≤ (0 : Int) := (by omega)
                                        have q141 : 0 < ((rd_L2 y137 x11_3).length : Int) := of_decide_eq_true (by first | (with_reducible assumption) | assumption)
                                        obtain ⟨ad141, e141, hx141_0⟩ := Kd.at_int (by repeat (first | (with_reducible exact HR140_0.out) | (with_reducible refine Kd.C_alloc ?_ _) | (with_reducible refine Kd.C_drewN ?_ _) | (with_reducible refine Kd.C_drew ?_) | exact HR140_0.out)) 0 p141 q141
                                        cases e141
                                        have qi141 : (0 < (rd_L2 y137 x11_3).length) = True := eq_true (by omega)
                                        (try rw [show ((0 : Int)).toNat = 0 from rfl] at hx141_0)
                                        (try rw [Addr.add_zero'] at hx141_0)
                                        replace p141 := eq_true p141
                                        replace q141 := eq_true q141
                                        have p142 : 0 ≤ (x11_3 : Int) := of_decide_eq_true (by first | (with_reducible assumption) | assumption)
                                        have q142 : x11_3 < (y137.length : Int) := of_decide_eq_true (by first | (with_reducible assumption) | assumption)
                                        obtain ⟨ad142, A142_0, c142_0, e142, hx142_0, hl142_0, hi142_0⟩ := at_L2 (Kd.S_reads' HO_10.out).2.2 x11_3 p142 q142
                                        obtain rfl : ad140 = ad142 := (by injection e142)
                                        obtain ⟨ce142, hce142, hMe142, hcc142⟩ := Kd.S_get HO_10.out [] x11_3 p142 (by first | exact q142 | exact of_decide_eq_true (by first | (with_reducible assumption) | assumption) | (have e_ := (Kd.S_reads' HO_10.out).1; omega))
                                        obtain ⟨ve142_0, rfl, ge142_0⟩ := hMe142
                                        have hv142_0 := hcc142 0 _ rfl
                                        rw [Nat.add_zero, show ((Kd.slice 3 (Kd.int .i64))).sz = 1 from rfl, Nat.mul_one] at hv142_0
                                        replace hv142_0 := Option.some.inj (hv142_0.symm.trans hx142_0)
                                        rw [hv142_0] at ge142_0
                                        have HL142_0 := Aside0.mk (show Kd.R (Kd.int .i64) 3 _ _ _ _ (rd_L2 y137 x11_3) from ge142_0)
                                        clear hv142_0 ge142_0
                                        clear hcc142 hce142
                                        have HR142_0 := Aside0.mk hi142_0
                                        have HC142_0 := Aside0.mk hl142_0
                                        clear hi142_0 hl142_0
                                        replace p142 := eq_true p142
                                        replace q142 := eq_true q142
                                        have ea_ := Option.some.inj (hx140_0.symm.trans hx142_0)
                                        injection ea_ with ea_ en_ ec_
                                        subst ea_
                                        subst ec_
                                        clear en_
                                        have p143 : 0 ≤ (1 : Int) := (by omega)
                                        have q143 : 1 < ((rd_L2 y137 x11_3).length : Int) := of_decide_eq_true (by first | (with_reducible assumption) | assumption)
                                        obtain ⟨ad143, e143, hx143_0⟩ := Kd.at_int (by repeat (first | (with_reducible exact HR142_0.out) | (with_reducible refine Kd.C_alloc ?_ _) | (with_reducible refine Kd.C_drewN ?_ _) | (with_reducible refine Kd.C_drew ?_) | exact HR142_0.out)) 1 p143 q143
                                        cases e143
                                        (try simp only [show (1 : Int).toNat = 1 from rfl, Nat.reduceMul, Nat.reduceEqDiff, Go.Addr.add, ↓reduceIte] at hx143_0)
                                        have qi143 : (1 < (rd_L2 y137 x11_3).length) = True := eq_true (by omega)
                                        (try rw [show ((1 : Int)).toNat = 1 from rfl] at hx143_0)
                                        replace p143 := eq_true p143
                                        replace q143 := eq_true q143
                                        go_wp2
                                        go_roundg k3
                                        case measure => have := HK1.out; have := HK2.out; have := HK3.out; omega
                                        case rel => exact ⟨(x8_3), (x9_3), (wrap64 (x11_3 + 1)), (by first | rfl | (simp; done) | (simp [*]; done)), (by first | rfl | (simp; done) | (simp [*]; done)), (by first | rfl | (simp; done) | (simp [*]; done)), H', ⟨by have := HK1.out; have := HK2.out; have := HK3.out; omega⟩, ⟨by (with_reducible repeat (first | apply Kd.S_alloc | apply Kd.S_drewN | apply Kd.S_drew)); exact HO_4.out⟩, ⟨by (with_reducible repeat (first | apply Kd.R_alloc | apply Kd.R_drewN | apply Kd.R_drew)); exact HO_6.out⟩, ⟨by (with_reducible repeat (first | apply Kd.S_alloc | apply Kd.S_drewN | apply Kd.S_drew)); exact HO_10.out⟩, ⟨by repeat (first | (with_reducible first | exact HB.out | apply below_alloc | apply pw_below_drewN | apply below_drew1) | exact HB.out)⟩⟩
                                    · rw [if_neg c32] at H
                                      have c32b0 : decide (0 ≤ (rd (rd_L2 y137 x11_3) 0)) = false := decide_eq_false c32
                                      clear c32
                                      have H' := Aside0.mk H
                                      clear H
                                      obtain ⟨Ao44, co44, eo44⟩ := Kd.S_slice HO_10.out
                                      subst eo44
                                      have p140 : 0 ≤ (x11_3 : Int) := of_decide_eq_true (by first | (with_reducible assumption) | assumption)
                                      have q140 : x11_3 < (y137.length : Int) := of_decide_eq_true (by first | (with_reducible assumption) | assumption)
                                      obtain ⟨ad140, A140_0, c140_0, e140, hx140_0, hl140_0, hi140_0⟩ := at_L2 (Kd.S_reads' HO_10.out).2.2 x11_3 p140 q140
                                      cases e140
                                      obtain ⟨ce140, hce140, hMe140, hcc140⟩ := Kd.S_get HO_10.out [] x11_3 p140 (by first | exact q140 | exact of_decide_eq_true (by first | (with_reducible assumption) | assumption) | (have e_ := (Kd.S_reads' HO_10.out).1; omega))
                                      obtain ⟨ve140_0, rfl, ge140_0⟩ := hMe140
                                      have hv140_0 := hcc140 0 _ rfl
                                      rw [Nat.add_zero, show ((Kd.slice 3 (Kd.int .i64))).sz = 1 from rfl, Nat.mul_one] at hv140_0
                                      replace hv140_0 := Option.some.inj (hv140_0.symm.trans hx140_0)
                                      rw [hv140_0] at ge140_0
                                      have HL140_0 := Aside0.mk (show Kd.R (Kd.int .i64) 3 _ _ _ _ (rd_L2 y137 x11_3) from ge140_0)
                                      clear hv140_0 ge140_0
                                      clear hcc140 hce140
                                      have HR140_0 := Aside0.mk hi140_0
                                      have HC140_0 := Aside0.mk hl140_0
                                      clear hi140_0 hl140_0
                                      replace p140 := eq_true p140
                                      replace q140 := eq_true q140
                                      have p141 : 0 ≤ (0 : Int) := (by omega)
                                      have q141 : 0 < ((rd_L2 y137 x11_3).length : Int) := of_decide_eq_true (by first | (with_reducible assumption) | assumption)
                                      obtain ⟨ad141, e141, hx141_0⟩ := Kd.at_int (by repeat (first | (with_reducible exact HR140_0.out) | (with_reducible refine Kd.C_alloc ?_ _) | (with_reducible refine Kd.C_drewN ?_ _) | (with_reducible refine Kd.C_drew ?_) | exact HR140_0.out)) 0 p141 q141
                                      cases e141
                                      have qi141 : (0 < (rd_L2 y137 x11_3).length) = True := eq_true (by omega)
                                      (try rw [show ((0 : Int)).toNat = 0 from rfl] at hx141_0)
                                      (try rw [Addr.add_zero'] at hx141_0)
                                      replace p141 := eq_true p141
                                      replace q141 := eq_true q141
                                      have p142 : 0 ≤ (x11_3 : Int) := of_decide_eq_true (by first | (with_reducible assumption) | assumption)
                                      have q142 : x11_3 < (y137.length : Int) := of_decide_eq_true (by first | (with_reducible assumption) | assumption)
                                      obtain ⟨ad142, A142_0, c142_0, e142, hx142_0, hl142_0, hi142_0⟩ := at_L2 (Kd.S_reads' HO_10.out).2.2 x11_3 p142 q142
                                      obtain rfl : ad140 = ad142 := (by injection e142)
                                      obtain ⟨ce142, hce142, hMe142, hcc142⟩ := Kd.S_get HO_10.out [] x11_3 p142 (by first | exact q142 | exact of_decide_eq_true (by first | (with_reducible assumption) | assumption) | (have e_ := (Kd.S_reads' HO_10.out).1; omega))
                                      obtain ⟨ve142_0, rfl, ge142_0⟩ := hMe142
                                      have hv142_0 := hcc142 0 _ rfl
                                      rw [Nat.add_zero, show ((Kd.slice 3 (Kd.int .i64))).sz = 1 from rfl, Nat.mul_one] at hv142_0
                                      replace hv142_0 := Option.some.inj (hv142_0.symm.trans hx142_0)
                                      rw [hv142_0] at ge142_0
                                      have HL142_0 := Aside0.mk (show Kd.R (Kd.int .i64) 3 _ _ _ _ (rd_L2 y137 x11_3) from ge142_0)
                                      clear hv142_0 ge142_0
                                      clear hcc142 hce142
                                      have HR142_0 := Aside0.mk hi142_0
                                      have HC142_0 := Aside0.mk hl142_0
                                      clear hi142_0 hl142_0
                                      replace p142 := eq_true p142
                                      replace q142 := eq_true q142
                                      have ea_ := Option.some.inj (hx140_0.symm.trans hx142_0)
                                      injection ea_ with ea_ en_ ec_
                                      subst ea_
                                      subst ec_
                                      clear en_
                                      have p143 : 0 ≤ (1 : Int) := (by omega)
                                      have q143 : 1 < ((rd_L2 y137 x11_3).length : Int) := of_decide_eq_true (by first | (with_reducible assumption) | assumption)
                                      obtain ⟨ad143, e143, hx143_0⟩ := Kd.at_int (by repeat (first | (with_reducible exact HR142_0.out) | (with_reducible refine Kd.C_alloc ?_ _) | (with_reducible refine Kd.C_drewN ?_ _) | (with_reducible refine Kd.C_drew ?_) | exact HR142_0.out)) 1 p143 q143
                                      cases e143
                                      (try simp only [show (1 : Int).toNat = 1 from rfl, Nat.reduceMul, Nat.reduceEqDiff, Go.Addr.add, ↓reduceIte] at hx143_0)
                                      have qi143 : (1 < (rd_L2 y137 x11_3).length) = True := eq_true (by omega)
                                      (try rw [show ((1 : Int)).toNat = 1 from rfl] at hx143_0)
                                      replace p143 := eq_true p143
                                      replace q143 := eq_true q143
                                      go_wp2
                                      go_roundg k3
                                      case measure => have := HK1.out; have := HK2.out; have := HK3.out; omega
                                      case rel => exact ⟨(x8_3), (x9_3), (wrap64 (x11_3 + 1)), (by first | rfl | (simp; done) | (simp [*]; done)), (by first | rfl | (simp; done) | (simp [*]; done)), (by first | rfl | (simp; done) | (simp [*]; done)), H', ⟨by have := HK1.out; have := HK2.out; have := HK3.out; omega⟩, ⟨by (with_reducible repeat (first | apply Kd.S_alloc | apply Kd.S_drewN | apply Kd.S_drew)); exact HO_4.out⟩, ⟨by (with_reducible repeat (first | apply Kd.R_alloc | apply Kd.R_drewN | apply Kd.R_drew)); exact HO_6.out⟩, ⟨by (with_reducible repeat (first | apply Kd.S_alloc | apply Kd.S_drewN | apply Kd.S_drew)); exact HO_10.out⟩, ⟨by repeat (first | (with_reducible first | exact HB.out | apply below_alloc | apply pw_below_drewN | apply below_drew1) | exact HB.out)⟩⟩
                                  · rw [if_neg c31] at H
                                    exact absurd H (by simp)
                                · rw [if_neg c30] at H
                                  exact absurd H (by simp)
                              · rw [if_neg c29] at H
                                exact absurd H (by simp)
                            · rw [if_neg c28] at H
                              exact absurd H (by simp)
                          · rw [if_neg c27] at H
                            have c27b0 : decide (x11_3 < 4) = false := decide_eq_false c27
                            clear c27
                            replace H := Option.bind_eq_some_iff.mp H
                            obtain ⟨t147, A450, H⟩ := H
                            replace H : (if x6_2.length < 17592186044416 then (spec_SmoothImage.l1 k3 l0 x4_1 x5_1 (x6_2 ++ [t147]) (wrap64 (x7_2 + 1))) else (none)) = some (r1, r2) := H
                            have A45 := Aside0.mk A450
                            clear A450
                            by_cases c46 : x6_2.length < 17592186044416
                            · rw [if_pos c46] at H
                              have LMc46 := Aside0.mk c46
                              clear c46
                              obtain ⟨y148, hy148⟩ : ∃ y_ : List Int, y_ = (x6_2 ++ [t147]) := ⟨_, rfl⟩
                              replace H : (spec_SmoothImage.l1 k3 l0 x4_1 x5_1 y148 (wrap64 (x7_2 + 1))) = some (r1, r2) := by first | (rw [hy148]; with_reducible exact H) | (have H2_ := (Option.bind_some _ _).symm.trans H; rw [hy148]; with_reducible exact H2_) | (have H2_ := (Option.bind_some _ _).symm.trans H; with_reducible exact H2_) | with_reducible exact H | (rw [hy148]; exact H) | exact H
                              have Ny148 := Aside0.mk hy148
                              clear hy148
                              have H' := Aside0.mk H
                              clear H
                              go_wp2_with (first | ((with_reducible refine gate_callee (f := 19) rfl ?_); refine goesL_ (some 108) rfl rfl Try.func19 (by kernel_rfl) rfl #[.int .i64 x8_3, .int .i64 x9_3] rfl (by (try simp only [List.map_toArray, List.map_cons, List.map_nil]); first | done | rfl | (simp only [List.length_drop, List.length_take]; rfl)) ?_; (with_reducible refine (spec_l01Div.calls x8_3 x9_3 t147 _ A45.out).mono ?_); rintro e w' ⟨rfl, ⟨nd, rfl⟩⟩; refine ⟨_, rfl, ?_⟩) | ((with_reducible refine gate_builtin (b := .append) (xs := #[.tmp 105, .tmp 109]) rfl ?_); (try (refine gate_guard (by rfl) ?_; dsimp only)); at_builtin; refine Kd.R_append (Kd.int .i64) (w0 := w) w.heap.size rfl (.tmp 105) (.tmp 109) 36 2 (.int .i64 0) 8 rfl Try.underlying36 info2 rfl (by decide) (by omega) u6 x6_2 t147 [.int .i64 t147] (fun _ => True) (fun _ => False) rfl rfl ?aP (fun _ hk => hk.elim) ?aF ?aO ?aB ?aS ?aL ?_; (case aP => exact rfl); (case aB => exact (by repeat (first | (with_reducible first | exact HB.out | apply below_alloc | apply pw_below_drewN | apply below_drew1) | exact HB.out))); (case aF => exact (fun _ _ => trivial)); (case aO => exact (by (with_reducible repeat (first | apply Kd.R_alloc | apply Kd.R_drewN | apply Kd.R_drew)); exact HO_6.out)); (case aS => exact (below_size (by repeat (first | (with_reducible first | exact HB.out | apply below_alloc | apply pw_below_drewN | apply below_drew1) | exact HB.out)))); (case aL => have := LMc46.out; omega); intro v149 w47 ho hb hg hat; rw [← Ny148.out] at ho; have n0_ := Aside0.mk (Kd.S_after (ok := (fun _ => True)) (by (with_reducible repeat (first | apply Kd.S_alloc | apply Kd.S_drewN | apply Kd.S_drew)); exact Kd.S_mono HO_4.out (fun _ hk => ⟨trivial, hk⟩)) hg hat); have n1_ := Aside0.mk (Kd.S_over' (by (with_reducible repeat (first | apply Kd.S_alloc | apply Kd.S_drewN | apply Kd.S_drew)); exact HO_10.out) (Kd.R_typed (by (with_reducible repeat (first | apply Kd.R_alloc | apply Kd.R_drewN | apply Kd.R_drew)); exact HO_6.out)) (by decide) hg); have n2_ := Aside0.mk (hb); have n3_ := Aside0.mk (ho); clear HO_4; clear HO_10; clear HB; clear HO_6; have HO_4 := n0_; have HO_10 := n1_; have HB := n2_; have HO150 := n3_; clear n0_ n1_ n2_ n3_; clear ho hb hg hat))
                              go_roundg k3
                              case measure => have := HK1.out; have := HK2.out; have := HK3.out; omega
                              case rel => exact ⟨(y148), (wrap64 (x7_2 + 1)), (by first | rfl | (simp; done) | (simp [*]; done)), H', ⟨by have := HK1.out; have := HK2.out; have := HK3.out; omega⟩, ⟨by (with_reducible repeat (first | apply Kd.S_alloc | apply Kd.S_drewN | apply Kd.S_drew)); exact Kd.S_mono HO_4.out (fun _ hk => hk.2)⟩, ⟨by (with_reducible repeat (first | apply Kd.R_alloc | apply Kd.R_drewN | apply Kd.R_drew)); exact HO150.out⟩, ⟨by repeat (first | (with_reducible first | exact HB.out | apply below_alloc | apply pw_below_drewN | apply below_drew1) | exact HB.out)⟩⟩
                            · rw [if_neg c46] at H
                              exact absurd H (by simp)
                    · rw [if_neg c12] at H
                      exact absurd H (by simp)
                  · rw [if_neg c11] at H
                    have c11b0 : decide (x7_2 < ((rd_L1 l0 x5_1).length : Int)) = false := decide_eq_false c11
                    clear c11
                    by_cases c48 : x4_1.length < 5864062014805
                    · rw [if_pos c48] at H
                      have LMc48 := Aside0.mk c48
                      clear c48
                      obtain ⟨y120, hy120⟩ : ∃ y_ : List (List Int), y_ = (x4_1 ++ [x6_2]) := ⟨_, rfl⟩
                      replace H : (spec_SmoothImage.l0 k2 l0 y120 (wrap64 (x5_1 + 1))) = some (r1, r2) := by first | (rw [hy120]; with_reducible exact H) | (have H2_ := (Option.bind_some _ _).symm.trans H; rw [hy120]; with_reducible exact H2_) | (have H2_ := (Option.bind_some _ _).symm.trans H; with_reducible exact H2_) | with_reducible exact H | (rw [hy120]; exact H) | exact H
                      have Ny120 := Aside0.mk hy120
                      clear hy120
                      have H' := Aside0.mk H
                      clear H
                      have p119 : 0 ≤ (x5_1 : Int) := of_decide_eq_true (by first | (with_reducible assumption) | assumption)
                      have q119 : x5_1 < (l0.length : Int) := of_decide_eq_true (by first | (with_reducible assumption) | assumption)
                      obtain ⟨ad119, A119_0, c119_0, e119, hx119_0, hl119_0, hi119_0⟩ := at_L1 HR0.out x5_1 p119 q119
                      cases e119
                      replace hx119_0 := (HB.out.cell (World.block_lt_of_cell? w _ hx119_0)).trans hx119_0
                      have HR119_0 := Aside0.mk hi119_0
                      have HC119_0 := Aside0.mk hl119_0
                      clear hi119_0 hl119_0
                      replace p119 := eq_true p119
                      replace q119 := eq_true q119
                      obtain ⟨Ao50, co50, eo50⟩ := Kd.R_slice HO_6.out
                      subst eo50
                      go_wp2_with (first | ((with_reducible refine gate_builtin (b := .append) (xs := #[.tmp 111, .tmp 113]) rfl ?_); (try (refine gate_guard (by rfl) ?_; dsimp only)); at_builtin; refine Kd.S_append (Kd.slice 2 (Kd.int .i64)) (w0 := w) w.heap.size rfl (.tmp 111) (.tmp 113) 22 36 (.slice none 0 0) 24 rfl Try.underlying22 info36 rfl (by decide) (by omega) u4 x4_1 x6_2 [.slice Ao50 x6_2.length co50] (fun _ => True) (fun k_ => some k_ = (.slice Ao50 x6_2.length co50 : Value).ownBlock) rfl rfl ?aP (fun k_ hk_ => ((Kd.R_mono (ok' := fun k_ => ((fun _ => True)) k_ ∧ some k_ ≠ (u4 : Value).ownBlock) (Kd.R_apart' (HO_6.out) (Kd.S_typed HO_4.out) (by decide)) (fun k_ hk => ⟨trivial, hk.2⟩))).1 k_ hk_.symm) ?aF ?aO ?aB ?aS ?aL ?_; (case aP => exact Kd.M_row (Kd.R_mono (Kd.R_tight rfl (Kd.R_mono (ok' := fun k_ => ((fun _ => True)) k_ ∧ some k_ ≠ (u4 : Value).ownBlock) (Kd.R_apart' (HO_6.out) (Kd.S_typed HO_4.out) (by decide)) (fun k_ hk => ⟨trivial, hk.2⟩))) (fun _ h_ => h_))); (case aB => exact (by repeat (first | (with_reducible first | exact HB.out | apply below_alloc | apply pw_below_drewN | apply below_drew1) | exact HB.out))); (case aF => exact (fun _ _ => trivial)); (case aO => exact (by (with_reducible repeat (first | apply Kd.S_alloc | apply Kd.S_drewN | apply Kd.S_drew)); exact Kd.S_mono HO_4.out (fun k_ hk => ⟨trivial, fun e_ => hk e_⟩))); (case aS => exact (below_size (by repeat (first | (with_reducible first | exact HB.out | apply below_alloc | apply pw_below_drewN | apply below_drew1) | exact HB.out)))); (case aL => have := LMc48.out; omega); intro v121 w49 ho hb hg hat; rw [← Ny120.out] at ho; have n0_ := Aside0.mk (hb); have n1_ := Aside0.mk (ho); clear HB; clear HO_4; clear HO_6; have HB := n0_; have HO122 := n1_; clear n0_ n1_; clear ho hb hg hat))
                      go_roundg k2
                      case measure => have := HK1.out; have := HK2.out; omega
                      case rel => exact ⟨(y120), (wrap64 (x5_1 + 1)), (by first | rfl | (simp; done) | (simp [*]; done)), H', ⟨by have := HK1.out; have := HK2.out; omega⟩, ⟨by (with_reducible repeat (first | apply Kd.S_alloc | apply Kd.S_drewN | apply Kd.S_drew)); exact HO122.out⟩, ⟨by repeat (first | (with_reducible first | exact HB.out | apply below_alloc | apply pw_below_drewN | apply below_drew1) | exact HB.out)⟩⟩
                    · rw [if_neg c48] at H
                      exact absurd H (by simp)
                · rw [if_neg c10] at H
                  exact absurd H (by simp)
              · rw [if_neg c9] at H
                exact absurd H (by simp)
        · rw [if_neg c6] at H
          have c6b0 : decide (x5_1 < (l0.length : Int)) = false := decide_eq_false c6
          clear c6
          simp only [Option.some.injEq, Prod.mk.injEq] at H
          obtain ⟨rfl, rfl⟩ := H
          go_wp2
          go_ret2
          exact ⟨_, by first | rfl | (simp [errW_none, errW_some] <;> rfl) | (simp [*, errW_none, errW_some] <;> rfl), by (with_reducible repeat (first | apply Kd.S_alloc | apply Kd.S_drewN | apply Kd.S_drew)); exact HO_4.out, by repeat (first | (with_reducible first | exact HB.out | apply below_alloc | apply pw_below_drewN | apply below_drew1) | exact HB.out)⟩
  · replace c3 := Bool.eq_false_iff.mpr c3
    subst c3
    have H1 : (some (([] : List (List Int)), 1)) = some (r1, r2) := by rw [if_neg (show ¬ (false = true) by decide)] at H; exact H
    clear H
    have H := H1
    clear H1
    simp only [Option.some.injEq, Prod.mk.injEq] at H
    obtain ⟨rfl, rfl⟩ := H
    go_enter Try.func6, Try.ntmps6
    go_wp2_with (first | ((with_reducible refine gate_callee (f := 18) rfl ?_); refine goesL_ (some 15) rfl rfl Try.func18 (by kernel_rfl) rfl #[.slice A0 l0.length c0] rfl (by (try simp only [List.map_toArray, List.map_cons, List.map_nil]); first | done | rfl | (simp only [List.length_drop, List.length_take]; rfl)) ?_; (with_reducible refine (spec_l28Ok.calls k _ _ l0 false _ ?side1 ?side2 A2.out).mono ?_); (case side1 => repeat (first | exact HR0.out | (with_reducible refine Kd.C_alloc ?_ _) | (with_reducible refine Kd.C_drewN ?_ _) | (with_reducible refine Kd.C_drew ?_))); (case side2 => exact HC0.out); rintro e w' ⟨rfl, ⟨nd, rfl⟩⟩; refine ⟨_, rfl, ?_⟩))
    go_ret2
    exact ⟨_, by first | rfl | (simp [errW_none, errW_some] <;> rfl) | (simp [*, errW_none, errW_some] <;> rfl), by first | exact Kd.S_nil _ _ _ _ _ | exact Kd.N_nil _ _ _ _ _ | exact Kd.V_nil _ _ _ _ _ | exact Kd.Q_nil _ _ _ _ _ | exact Kd.R_nil _ _ _ _ _, by repeat (first | (with_reducible first | exact HB.out | apply below_alloc | apply pw_below_drewN | apply below_drew1) | exact HB.out)⟩

end Go.Proofs.Ytfnheijpgldlcab.PFnExactSmoothImage
