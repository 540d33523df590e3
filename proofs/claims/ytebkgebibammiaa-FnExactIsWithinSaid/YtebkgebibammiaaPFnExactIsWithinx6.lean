-- PRINTED by print.py (a twelfth state) out of the translation. Not trusted: Lean checks it.
import Derived.Test.YtebkgebibammiaaPFnExactIsWithinx0
import Derived.Test.YtebkgebibammiaaPFnExactIsWithinx5
namespace Go.Proofs.Ytebkgebibammiaa.PFnExactIsWithin
open Go.RowKit Go.Proofs.YtebkgebibammiaaW.PrintWords Go.Proofs.YtebkgebibammiaaW.PrintLast Go.Proofs.YtebkgebibammiaaW.PrintMore
attribute [local go_sem] max2_int min2_int max_two min_two max_three min_three max_four min_four   -- for this text's walks alone
set_option linter.unusedVariables false
set_option linter.unusedSimpArgs false

/-! ### spec_l13Share: function 66 -/
mutual
def spec_l13Share.l0 : Nat → List (S77) → List Bool → List Int → Int → Int → Option (List Int × Int × Bool)
 | 0, _, _, _, _, _ => none
 | k + 1, x0, x1, x9, x10, x11 => if x11 < (x0.length : Int) then (if 0 ≤ x11 then (if x11 < (x1.length : Int) then (if rdOf false x1 x11 = true then (if x11 < (x9.length : Int) then (spec_l13Share.l0 k x0 x1 (x9.set (x11 : Int).toNat ((rd_T77 x0 x11).f1)) (wrap64 (x10 - ((rd_T77 x0 x11).f1))) (wrap64 (x11 + 1))) else (none)) else (spec_l13Share.l0 k x0 x1 x9 x10 (wrap64 (x11 + 1)))) else (none)) else (none)) else ((spec_l13Order.f k x0).bind fun t189 => (spec_l13Share.l1 k x0 x1 x9 x10 t189 0))
def spec_l13Share.l1 : Nat → List (S77) → List Bool → List Int → Int → List Int → Int → Option (List Int × Int × Bool)
 | 0, _, _, _, _, _, _ => none
 | k + 1, x0, x1, x9, x10, x12, x13 => if x13 < (x12.length : Int) then (spec_l13Share.j2 k x0 x1 x9 x10 x12 x13 (decide (x10 > 0))) else (spec_l13Share.j2 k x0 x1 x9 x10 x12 x13 false)
def spec_l13Share.j2 : Nat → List (S77) → List Bool → List Int → Int → List Int → Int → Bool → Option (List Int × Int × Bool)
 | 0, _, _, _, _, _, _, _ => none
 | k + 1, x0, x1, x9, x10, x12, x13, x56 => if x56 = true then (if 0 ≤ x13 then (if x13 < (x12.length : Int) then (if 0 ≤ (rd x12 x13) then (if (rd x12 x13) < (x1.length : Int) then (if rdOf false x1 (rd x12 x13) = true then (if (rd x12 x13) < (x0.length : Int) then ((spec_l00Min.f x10 (wrap64 (((rd_T77 x0 (rd x12 x13)).f2) - ((rd_T77 x0 (rd x12 x13)).f1)))).bind fun t196 => (if (rd x12 x13) < (x9.length : Int) then (spec_l13Share.l1 k x0 x1 (x9.set ((rd x12 x13) : Int).toNat (wrap64 ((rd x9 (rd x12 x13)) + t196))) (wrap64 (x10 - t196)) x12 (wrap64 (x13 + 1))) else (none))) else (none)) else (spec_l13Share.l1 k x0 x1 x9 x10 x12 (wrap64 (x13 + 1)))) else (none)) else (none)) else (none)) else (none)) else (spec_l13Share.l2 k x0 x9 x10 0 0)
def spec_l13Share.l2 : Nat → List (S77) → List Int → Int → Int → Int → Option (List Int × Int × Bool)
 | 0, _, _, _, _, _ => none
 | k + 1, x0, x9, x10, x16, x17 => if x17 < (x0.length : Int) then (if 0 ≤ x17 then (if x17 < (x9.length : Int) then (spec_l13Share.l2 k x0 x9 x10 (wrap64 (x16 + (wrap64 ((rd x9 x17) * ((rd_T77 x0 x17).f3))))) (wrap64 (x17 + 1))) else (none)) else (none)) else (some (x9, x16, (x10 == 0)))
end
def spec_l13Share.f (k : Nat) (l0 : List (S77)) (l1 : List Bool) (a2 : Int) : Option (List Int × Int × Bool) := if 0 ≤ (l0.length : Int) then (if ((l0.length : Int) : Int).toNat ≤ 35184372088832 then (spec_l13Share.l0 k l0 l1 (List.replicate ((l0.length : Int) : Int).toNat 0) a2 0) else (none)) else (none)
theorem spec_l13Share.mono_l : ∀ k, (∀ y0 y1 y2 y3 y4, LeO (spec_l13Share.l0 k y0 y1 y2 y3 y4) (spec_l13Share.l0 (k + 1) y0 y1 y2 y3 y4)) ∧ (∀ y0 y1 y2 y3 y4 y5, LeO (spec_l13Share.l1 k y0 y1 y2 y3 y4 y5) (spec_l13Share.l1 (k + 1) y0 y1 y2 y3 y4 y5)) ∧ (∀ y0 y1 y2 y3 y4 y5 y6, LeO (spec_l13Share.j2 k y0 y1 y2 y3 y4 y5 y6) (spec_l13Share.j2 (k + 1) y0 y1 y2 y3 y4 y5 y6)) ∧ (∀ y0 y1 y2 y3 y4, LeO (spec_l13Share.l2 k y0 y1 y2 y3 y4) (spec_l13Share.l2 (k + 1) y0 y1 y2 y3 y4))
 | 0 => ⟨fun _ _ _ _ _ r h => by simp [spec_l13Share.l0] at h, fun _ _ _ _ _ _ r h => by simp [spec_l13Share.l1] at h, fun _ _ _ _ _ _ _ r h => by simp [spec_l13Share.j2] at h, fun _ _ _ _ _ r h => by simp [spec_l13Share.l2] at h⟩
 | k + 1 => by
  obtain ⟨ih0, ih1, ih2, ih3⟩ := spec_l13Share.mono_l k
  refine ⟨?_, ?_, ?_, ?_⟩
  ·
   intro y0 y1 y2 y3 y4
   unfold spec_l13Share.l0
   repeat' first
   | (with_reducible exact ih0 _ _ _ _ _)
   | (with_reducible exact ih1 _ _ _ _ _ _)
   | (with_reducible exact ih2 _ _ _ _ _ _ _)
   | (with_reducible exact ih3 _ _ _ _ _)
   | (with_reducible exact spec_l13Order.mono _ _)
   | (with_reducible exact LeO.refl _)
   | (with_reducible exact LeO.none _)
   | (with_reducible refine LeO.ite ?_ ?_)
   | (with_reducible refine LeO.bind ?_ (fun _ => ?_))
   | exact ih0 _ _ _ _ _
   | exact ih1 _ _ _ _ _ _
   | exact ih2 _ _ _ _ _ _ _
   | exact ih3 _ _ _ _ _
   | exact spec_l13Order.mono _ _
   | exact LeO.none _
   | refine LeO.ite ?_ ?_
   | refine LeO.bind ?_ (fun _ => ?_)
  ·
   intro y0 y1 y2 y3 y4 y5
   unfold spec_l13Share.l1
   repeat' first
   | (with_reducible exact ih0 _ _ _ _ _)
   | (with_reducible exact ih1 _ _ _ _ _ _)
   | (with_reducible exact ih2 _ _ _ _ _ _ _)
   | (with_reducible exact ih3 _ _ _ _ _)
   | (with_reducible exact spec_l13Order.mono _ _)
   | (with_reducible exact LeO.refl _)
   | (with_reducible exact LeO.none _)
   | (with_reducible refine LeO.ite ?_ ?_)
   | (with_reducible refine LeO.bind ?_ (fun _ => ?_))
   | exact ih0 _ _ _ _ _
   | exact ih1 _ _ _ _ _ _
   | exact ih2 _ _ _ _ _ _ _
   | exact ih3 _ _ _ _ _
   | exact spec_l13Order.mono _ _
   | exact LeO.none _
   | refine LeO.ite ?_ ?_
   | refine LeO.bind ?_ (fun _ => ?_)
  ·
   intro y0 y1 y2 y3 y4 y5 y6
   unfold spec_l13Share.j2
   repeat' first
   | (with_reducible exact ih0 _ _ _ _ _)
   | (with_reducible exact ih1 _ _ _ _ _ _)
   | (with_reducible exact ih2 _ _ _ _ _ _ _)
   | (with_reducible exact ih3 _ _ _ _ _)
   | (with_reducible exact spec_l13Order.mono _ _)
   | (with_reducible exact LeO.refl _)
   | (with_reducible exact LeO.none _)
   | (with_reducible refine LeO.ite ?_ ?_)
   | (with_reducible refine LeO.bind ?_ (fun _ => ?_))
   | exact ih0 _ _ _ _ _
   | exact ih1 _ _ _ _ _ _
   | exact ih2 _ _ _ _ _ _ _
   | exact ih3 _ _ _ _ _
   | exact spec_l13Order.mono _ _
   | exact LeO.none _
   | refine LeO.ite ?_ ?_
   | refine LeO.bind ?_ (fun _ => ?_)
  ·
   intro y0 y1 y2 y3 y4
   unfold spec_l13Share.l2
   repeat' first
   | (with_reducible exact ih0 _ _ _ _ _)
   | (with_reducible exact ih1 _ _ _ _ _ _)
   | (with_reducible exact ih2 _ _ _ _ _ _ _)
   | (with_reducible exact ih3 _ _ _ _ _)
   | (with_reducible exact spec_l13Order.mono _ _)
   | (with_reducible exact LeO.refl _)
   | (with_reducible exact LeO.none _)
   | (with_reducible refine LeO.ite ?_ ?_)
   | (with_reducible refine LeO.bind ?_ (fun _ => ?_))
   | exact ih0 _ _ _ _ _
   | exact ih1 _ _ _ _ _ _
   | exact ih2 _ _ _ _ _ _ _
   | exact ih3 _ _ _ _ _
   | exact spec_l13Order.mono _ _
   | exact LeO.none _
   | refine LeO.ite ?_ ?_
   | refine LeO.bind ?_ (fun _ => ?_)
theorem spec_l13Share.mono : ∀ a0 a1 a2 k, LeO (spec_l13Share.f k a0 a1 a2) (spec_l13Share.f (k + 1) a0 a1 a2) := by
 intro a0 a1 a2 k
 obtain ⟨ih0, ih1, ih2, ih3⟩ := spec_l13Share.mono_l k
 unfold spec_l13Share.f
 repeat' first
   | (with_reducible exact ih0 _ _ _ _ _)
   | (with_reducible exact ih1 _ _ _ _ _ _)
   | (with_reducible exact ih2 _ _ _ _ _ _ _)
   | (with_reducible exact ih3 _ _ _ _ _)
   | (with_reducible exact spec_l13Order.mono _ _)
   | (with_reducible exact LeO.refl _)
   | (with_reducible exact LeO.none _)
   | (with_reducible refine LeO.ite ?_ ?_)
   | (with_reducible refine LeO.bind ?_ (fun _ => ?_))
   | exact ih0 _ _ _ _ _
   | exact ih1 _ _ _ _ _ _
   | exact ih2 _ _ _ _ _ _ _
   | exact ih3 _ _ _ _ _
   | exact spec_l13Order.mono _ _
   | exact LeO.none _
   | refine LeO.ite ?_ ?_
   | refine LeO.bind ?_ (fun _ => ?_)
set_option maxHeartbeats 8000000 in
set_option maxRecDepth 100000 in
theorem spec_l13Share.calls (k : Nat) (A0 : Option Addr) (c0 : Nat) (l0 : List (S77)) (A1 : Option Addr) (c1 : Nat) (l1 : List Bool) (a2 : Int) (r1 : List Int) (r2 : Int) (r3 : Bool) (w : World) (hr0 : Kd.C k77 w A0 l0.length l0) (hc0 : l0.length ≤ c0) (hr1 : Kd.C Kd.bool w A1 l1.length l1) (hc1 : l1.length ≤ c1) (h : spec_l13Share.f k l0 l1 a2 = some (r1, r2, r3)) :
  Calls Try.prog 66 #[.slice A0 l0.length c0, .slice A1 l1.length c1, .int .i64 a2] w fun e w' => ∃ v0_ : Value, e = .returned (.tuple #[v0_, .int .i64 r2, .bool r3]) ∧ Kd.R (Kd.int .i64) 2 w' w.heap.size (fun _ => True) v0_ r1 ∧ Below w.heap.size w w' := by
 have HR0 := Aside0.mk hr0
 have HC0 := Aside0.mk hc0
 clear hr0 hc0
 have HR1 := Aside0.mk hr1
 have HC1 := Aside0.mk hc1
 clear hr1 hc1
 have HB := Aside0.mk (Below.refl w.heap.size w)
 have H : (if 0 ≤ (l0.length : Int) then (if ((l0.length : Int) : Int).toNat ≤ 35184372088832 then (spec_l13Share.l0 k l0 l1 (List.replicate ((l0.length : Int) : Int).toNat 0) a2 0) else (none)) else (none)) = some (r1, r2, r3) := h
 clear h
 by_cases c4 : 0 ≤ (l0.length : Int)
 ·
  rw [if_pos c4] at H
  have c4b0 := eq_true c4
  have c4b1 : decide (0 ≤ (l0.length : Int)) = true := decide_eq_true c4
  clear c4
  by_cases c5 : ((l0.length : Int) : Int).toNat ≤ 35184372088832
  ·
   rw [if_pos c5] at H
   have c5b0 := eq_true c5
   have c5b1 : decide (((l0.length : Int) : Int).toNat ≤ 35184372088832) = true := decide_eq_true c5
   clear c5
   obtain ⟨y182, hy182⟩ : ∃ y_ : List Int, y_ = (List.replicate ((l0.length : Int) : Int).toNat 0) := ⟨_, rfl⟩
   replace H : (spec_l13Share.l0 k l0 l1 y182 a2 0) = some (r1, r2, r3) := by first | (rw [hy182]; with_reducible exact H) | (have H2_ := (Option.bind_some _ _).symm.trans H; rw [hy182]; with_reducible exact H2_) | (have H2_ := (Option.bind_some _ _).symm.trans H; with_reducible exact H2_) | with_reducible exact H | (rw [hy182]; exact H) | exact H
   have Ny182 := Aside0.mk hy182
   clear hy182
   have H' := Aside0.mk H
   clear H
   go_enter Try.func66, Try.ntmps66
   go_wp2_with (first | ((with_reducible refine gate_dst (N := 20) rfl ?_); refine Kd.R_make (Kd.int .i64) _ 2 rfl (N := 20) rfl 23 _ _ rfl (l0.length : Int) rfl rfl Try.underlying23 (.int .i64 0) 8 info2 rfl (by decide) (by omega) 0 (ok := fun _ => True) (okp := fun _ => True) rfl (fun _ hk => hk) trivial (of_decide_eq_true as_) (Nat.le_trans (Nat.mul_le_mul_right _ (of_decide_eq_true as_ : (l0.length : Int).toNat ≤ 35184372088832)) (by omega)) (Below.refl _ _) (Nat.le_refl _) ?_; intro v183 w6 ho7 hb hg_ hnew_; clear hg_ hnew_; (first | rw [← Ny182.out] at ho7 | (simp only [Int.reduceToNat] at ho7; rw [← Ny182.out] at ho7)); have n0_ := Aside0.mk (Kd.R_lower ho7 (below_size bB_)); have n1_ := Aside0.mk (below_step bB_ hb); clear HB; have HO184 := n0_; have HB := n1_; clear n0_ n1_; clear hb ho7))
   repeat (go_quiet (first | ((with_reducible refine gate_dst (N := 20) rfl ?_); refine Kd.R_make (Kd.int .i64) _ 2 rfl (N := 20) rfl 23 _ _ rfl (l0.length : Int) rfl rfl Try.underlying23 (.int .i64 0) 8 info2 rfl (by decide) (by omega) 0 (ok := fun _ => True) (okp := fun _ => True) rfl (fun _ hk => hk) trivial (of_decide_eq_true as_) (Nat.le_trans (Nat.mul_le_mul_right _ (of_decide_eq_true as_ : (l0.length : Int).toNat ≤ 35184372088832)) (by omega)) (Below.refl _ _) (Nat.le_refl _) ?_; intro v183 w6 ho7 hb hg_ hnew_; clear hg_ hnew_; (first | rw [← Ny182.out] at ho7 | (simp only [Int.reduceToNat] at ho7; rw [← Ny182.out] at ho7)); have n0_ := Aside0.mk (Kd.R_lower ho7 (below_size bB_)); have n1_ := Aside0.mk (below_step bB_ hb); clear HB; have HO184 := n0_; have HB := n1_; clear n0_ n1_; clear hb ho7)); try go_wp2_with (first | ((with_reducible refine gate_dst (N := 20) rfl ?_); refine Kd.R_make (Kd.int .i64) _ 2 rfl (N := 20) rfl 23 _ _ rfl (l0.length : Int) rfl rfl Try.underlying23 (.int .i64 0) 8 info2 rfl (by decide) (by omega) 0 (ok := fun _ => True) (okp := fun _ => True) rfl (fun _ hk => hk) trivial (of_decide_eq_true as_) (Nat.le_trans (Nat.mul_le_mul_right _ (of_decide_eq_true as_ : (l0.length : Int).toNat ≤ 35184372088832)) (by omega)) (Below.refl _ _) (Nat.le_refl _) ?_; intro v183 w6 ho7 hb hg_ hnew_; clear hg_ hnew_; (first | rw [← Ny182.out] at ho7 | (simp only [Int.reduceToNat] at ho7; rw [← Ny182.out] at ho7)); have n0_ := Aside0.mk (Kd.R_lower ho7 (below_size bB_)); have n1_ := Aside0.mk (below_step bB_ hb); clear HB; have HO184 := n0_; have HB := n1_; clear n0_ n1_; clear hb ho7)))
   go_loopg [10, 11] k (fun kq v10 v11 w' => ∃ (x9_1 : List Int) (x10_1 : Int) (x11_1 : Int), v10 = .int .i64 x10_1 ∧ v11 = .int .i64 x11_1 ∧ Aside0 (spec_l13Share.l0 kq l0 l1 x9_1 x10_1 x11_1 = some (r1, r2, r3)) ∧ Aside0 (kq ≤ k) ∧ Aside0 (Kd.R (Kd.int .i64) 2 w' w.heap.size (fun _ => True) v183 x9_1) ∧ Aside0 (Below w.heap.size w w'))
   case atStart => exact ⟨(y182), (a2), (0), rs_, rs_, H', ⟨Nat.le_refl _⟩, ⟨rA_ HO184.out⟩, ⟨bB_⟩⟩
   case round =>
    clear H'
    try clear c1
    try clear p2
    try clear c4
    try clear c4b0
    try clear c4b1
    try clear c5
    try clear c5b0
    try clear c5b1
    try clear c6
    obtain ⟨x9_1, x10_1, x11_1, rfl, rfl, HA, HK1, HO_9, HB⟩ := hrel
    cases gk with
    | zero => exact absurd HA.out (by simp [spec_l13Share.l0])
    | succ k1 =>
     have H := HA.out
     clear HA
     simp only [spec_l13Share.l0] at H
     by_cases c8 : x11_1 < (l0.length : Int)
     ·
      rw [if_pos c8] at H
      have c8b0 : decide (x11_1 < (l0.length : Int)) = true := decide_eq_true c8
      clear c8
      by_cases c9 : 0 ≤ x11_1
      ·
       rw [if_pos c9] at H
       have c9b0 : decide (0 ≤ x11_1) = true := decide_eq_true c9
       clear c9
       by_cases c10 : x11_1 < (l1.length : Int)
       ·
        rw [if_pos c10] at H
        have c10b0 : decide (x11_1 < (l1.length : Int)) = true := decide_eq_true c10
        clear c10
        obtain ⟨bq11, hbq11⟩ : ∃ b_ : Bool, b_ = (rdOf false l1 x11_1) := ⟨_, rfl⟩
        replace H : (if bq11 = true then (if x11_1 < (x9_1.length : Int) then (spec_l13Share.l0 k1 l0 l1 (x9_1.set (x11_1 : Int).toNat ((rd_T77 l0 x11_1).f1)) (wrap64 (x10_1 - ((rd_T77 l0 x11_1).f1))) (wrap64 (x11_1 + 1))) else (none)) else (spec_l13Share.l0 k1 l0 l1 x9_1 x10_1 (wrap64 (x11_1 + 1)))) = some (r1, r2, r3) := by rw [← hbq11] at H; exact H
        have Nbq11 := Aside0.mk hbq11
        clear hbq11
        by_cases c12 : bq11 = true
        ·
         subst c12
         have H1 : (if x11_1 < (x9_1.length : Int) then (spec_l13Share.l0 k1 l0 l1 (x9_1.set (x11_1 : Int).toNat ((rd_T77 l0 x11_1).f1)) (wrap64 (x10_1 - ((rd_T77 l0 x11_1).f1))) (wrap64 (x11_1 + 1))) else (none)) = some (r1, r2, r3) := by rw [if_pos rfl] at H; exact H
         clear H
         have H := H1
         clear H1
         by_cases c13 : x11_1 < (x9_1.length : Int)
         ·
          rw [if_pos c13] at H
          have c13b0 : decide (x11_1 < (x9_1.length : Int)) = true := decide_eq_true c13
          clear c13
          obtain ⟨y187, hy187⟩ : ∃ y_ : List Int, y_ = (x9_1.set (x11_1 : Int).toNat ((rd_T77 l0 x11_1).f1)) := ⟨_, rfl⟩
          replace H : (spec_l13Share.l0 k1 l0 l1 y187 (wrap64 (x10_1 - ((rd_T77 l0 x11_1).f1))) (wrap64 (x11_1 + 1))) = some (r1, r2, r3) := by first | (rw [hy187]; with_reducible exact H) | (have H2_ := (Option.bind_some _ _).symm.trans H; rw [hy187]; with_reducible exact H2_) | (have H2_ := (Option.bind_some _ _).symm.trans H; with_reducible exact H2_) | with_reducible exact H | (rw [hy187]; exact H) | exact H
          have Ny187 := Aside0.mk hy187
          clear hy187
          have H' := Aside0.mk H
          clear H
          have p185 : 0 ≤ (x11_1 : Int) := of_decide_eq_true as_
          have q185 : x11_1 < (l1.length : Int) := of_decide_eq_true as_
          obtain ⟨ad185, e185, hx185_0⟩ := Kd.at_bool HR1.out x11_1 p185 q185
          (try rw [← Nbq11.out] at hx185_0)
          cases e185
          replace hx185_0 := cl_ HB hx185_0
          replace p185 := eq_true p185
          replace q185 := eq_true q185
          have p186 : 0 ≤ (x11_1 : Int) := of_decide_eq_true as_
          have q186 : x11_1 < (l0.length : Int) := of_decide_eq_true as_
          obtain ⟨ad186, e186, hx186_0, hx186_1, hx186_2, hx186_3, hx186_4, hx186_5, hx186_6⟩ := at_T77 HR0.out x11_1 p186 q186
          cases e186
          replace hx186_0 := cl_ HB hx186_0
          replace hx186_1 := cl_ HB hx186_1
          replace hx186_2 := cl_ HB hx186_2
          replace hx186_3 := cl_ HB hx186_3
          replace hx186_4 := cl_ HB hx186_4
          replace hx186_5 := cl_ HB hx186_5
          replace hx186_6 := cl_ HB hx186_6
          replace p186 := eq_true p186
          replace q186 := eq_true q186
          have p14 : 0 ≤ (x11_1 : Int) := of_decide_eq_true as_
          have q14 : (x11_1 : Int) < ((x9_1.length : Int) : Int) := of_decide_eq_true as_
          obtain ⟨go14, co14, eo14, gb14, gl14, cl14, HG14⟩ := Kd.R_form HO_9.out (by omega)
          (first | cases eo14 | (injection eo14 with ea_ en_ ec_; (first | subst ea_ | (injection ea_ with ea_; subst ea_)); subst ec_; clear en_))
          have GB14 := Aside0.mk gb14
          have GG14 := Aside0.mk HG14
          clear gb14 gl14 HG14
          obtain ⟨hx14_0, hf14_0⟩ := Kd.R_celln 0 HO_9.out (x11_1 : Int) p14 q14
          replace p14 := eq_true p14
          replace q14 := eq_true q14
          have HP15 := Kd.R_putg HO_9.out (x11_1 : Int) ((rd_T77 l0 x11_1).f1)
          go_wp2_with (first | ((with_reducible refine gate_store (t := 2) (p := 39) rfl ?_); (try (rw [drewN_self wr]; generalize hq_ : World.drewN wr _ = wr; have n0_ := Aside0.mk (Kd.R_at hq_ HO_9.out); have n1_ := Aside0.mk (below_at hq_ HB.out); clear hq_ HO_9 HB; have HO_9 := n0_; have HB := n1_; clear n0_ n1_; (try (have HP15 := Kd.R_putg HO_9.out (x11_1 : Int) ((rd_T77 l0 x11_1).f1))))); refine store_event (t := 2) (p := 39) (v := ?vo_w16) (w1 := (wr.setCell ⟨go14, (x11_1 : Int).toNat, none⟩ (.int .i64 ((rd_T77 l0 x11_1).f1)))) ?hg ?ho ?hn ?hr ?_; (case ho => rfl); (case hg => rfl); (case hn => rfl); (case hr => first | (go_simp; done) | (go_simp; rfl)); intro w16 hw; have hg : wr.grownBy w16 (some go14) := (by rw [hw]; exact HP15.2); have hp_ : Kd.R (Kd.int .i64) 2 w16 w.heap.size (fun _ => True) (.slice (some ⟨go14, 0, none⟩) x9_1.length co14) y187 := (by rw [hw, Ny187.out]; exact HP15.1); clear HP15; have n0_ := Aside0.mk (hp_); have n1_ := Aside0.mk ((by rw [hw]; exact below_set (HB.out) GB14.out : Below w.heap.size w w16)); clear HO_9; clear HB; have HO_9 := n0_; have HB := n1_; clear n0_ n1_; clear hg hw hp_; have p188 : 0 ≤ (x11_1 : Int) := of_decide_eq_true as_; have q188 : x11_1 < (l0.length : Int) := of_decide_eq_true as_; obtain ⟨ad188, e188, hx188_0, hx188_1, hx188_2, hx188_3, hx188_4, hx188_5, hx188_6⟩ := at_T77 HR0.out x11_1 p188 q188; obtain rfl : ad186 = ad188 := (by injection e188); replace hx188_0 := cl_ HB hx188_0; replace hx188_1 := cl_ HB hx188_1; replace hx188_2 := cl_ HB hx188_2; replace hx188_3 := cl_ HB hx188_3; replace hx188_4 := cl_ HB hx188_4; replace hx188_5 := cl_ HB hx188_5; replace hx188_6 := cl_ HB hx188_6; replace p188 := eq_true p188; replace q188 := eq_true q188))
          repeat (go_quiet (first | ((with_reducible refine gate_store (t := 2) (p := 39) rfl ?_); (try (rw [drewN_self wr]; generalize hq_ : World.drewN wr _ = wr; have n0_ := Aside0.mk (Kd.R_at hq_ HO_9.out); have n1_ := Aside0.mk (below_at hq_ HB.out); clear hq_ HO_9 HB; have HO_9 := n0_; have HB := n1_; clear n0_ n1_; (try (have HP15 := Kd.R_putg HO_9.out (x11_1 : Int) ((rd_T77 l0 x11_1).f1))))); refine store_event (t := 2) (p := 39) (v := ?vo_w16) (w1 := (wr.setCell ⟨go14, (x11_1 : Int).toNat, none⟩ (.int .i64 ((rd_T77 l0 x11_1).f1)))) ?hg ?ho ?hn ?hr ?_; (case ho => rfl); (case hg => rfl); (case hn => rfl); (case hr => first | (go_simp; done) | (go_simp; rfl)); intro w16 hw; have hg : wr.grownBy w16 (some go14) := (by rw [hw]; exact HP15.2); have hp_ : Kd.R (Kd.int .i64) 2 w16 w.heap.size (fun _ => True) (.slice (some ⟨go14, 0, none⟩) x9_1.length co14) y187 := (by rw [hw, Ny187.out]; exact HP15.1); clear HP15; have n0_ := Aside0.mk (hp_); have n1_ := Aside0.mk ((by rw [hw]; exact below_set (HB.out) GB14.out : Below w.heap.size w w16)); clear HO_9; clear HB; have HO_9 := n0_; have HB := n1_; clear n0_ n1_; clear hg hw hp_; have p188 : 0 ≤ (x11_1 : Int) := of_decide_eq_true as_; have q188 : x11_1 < (l0.length : Int) := of_decide_eq_true as_; obtain ⟨ad188, e188, hx188_0, hx188_1, hx188_2, hx188_3, hx188_4, hx188_5, hx188_6⟩ := at_T77 HR0.out x11_1 p188 q188; obtain rfl : ad186 = ad188 := (by injection e188); replace hx188_0 := cl_ HB hx188_0; replace hx188_1 := cl_ HB hx188_1; replace hx188_2 := cl_ HB hx188_2; replace hx188_3 := cl_ HB hx188_3; replace hx188_4 := cl_ HB hx188_4; replace hx188_5 := cl_ HB hx188_5; replace hx188_6 := cl_ HB hx188_6; replace p188 := eq_true p188; replace q188 := eq_true q188)); try go_wp2_with (first | ((with_reducible refine gate_store (t := 2) (p := 39) rfl ?_); (try (rw [drewN_self wr]; generalize hq_ : World.drewN wr _ = wr; have n0_ := Aside0.mk (Kd.R_at hq_ HO_9.out); have n1_ := Aside0.mk (below_at hq_ HB.out); clear hq_ HO_9 HB; have HO_9 := n0_; have HB := n1_; clear n0_ n1_; (try (have HP15 := Kd.R_putg HO_9.out (x11_1 : Int) ((rd_T77 l0 x11_1).f1))))); refine store_event (t := 2) (p := 39) (v := ?vo_w16) (w1 := (wr.setCell ⟨go14, (x11_1 : Int).toNat, none⟩ (.int .i64 ((rd_T77 l0 x11_1).f1)))) ?hg ?ho ?hn ?hr ?_; (case ho => rfl); (case hg => rfl); (case hn => rfl); (case hr => first | (go_simp; done) | (go_simp; rfl)); intro w16 hw; have hg : wr.grownBy w16 (some go14) := (by rw [hw]; exact HP15.2); have hp_ : Kd.R (Kd.int .i64) 2 w16 w.heap.size (fun _ => True) (.slice (some ⟨go14, 0, none⟩) x9_1.length co14) y187 := (by rw [hw, Ny187.out]; exact HP15.1); clear HP15; have n0_ := Aside0.mk (hp_); have n1_ := Aside0.mk ((by rw [hw]; exact below_set (HB.out) GB14.out : Below w.heap.size w w16)); clear HO_9; clear HB; have HO_9 := n0_; have HB := n1_; clear n0_ n1_; clear hg hw hp_; have p188 : 0 ≤ (x11_1 : Int) := of_decide_eq_true as_; have q188 : x11_1 < (l0.length : Int) := of_decide_eq_true as_; obtain ⟨ad188, e188, hx188_0, hx188_1, hx188_2, hx188_3, hx188_4, hx188_5, hx188_6⟩ := at_T77 HR0.out x11_1 p188 q188; obtain rfl : ad186 = ad188 := (by injection e188); replace hx188_0 := cl_ HB hx188_0; replace hx188_1 := cl_ HB hx188_1; replace hx188_2 := cl_ HB hx188_2; replace hx188_3 := cl_ HB hx188_3; replace hx188_4 := cl_ HB hx188_4; replace hx188_5 := cl_ HB hx188_5; replace hx188_6 := cl_ HB hx188_6; replace p188 := eq_true p188; replace q188 := eq_true q188)))
          go_roundg k1
          case measure => have := HK1.out; omega
          case rel => exact ⟨(y187), (wrap64 (x10_1 - ((rd_T77 l0 x11_1).f1))), (wrap64 (x11_1 + 1)), rs_, rs_, H', ⟨by have := HK1.out; omega⟩, ⟨rA_ HO_9.out⟩, ⟨bB_⟩⟩
         ·
          rw [if_neg c13] at H
          exact absurd H (by simp)
        ·
         replace c12 := Bool.eq_false_iff.mpr c12
         subst c12
         have H1 : (spec_l13Share.l0 k1 l0 l1 x9_1 x10_1 (wrap64 (x11_1 + 1))) = some (r1, r2, r3) := by rw [if_neg (show ¬ (false = true) by decide)] at H; exact H
         clear H
         have H := H1
         clear H1
         have H' := Aside0.mk H
         clear H
         have p185 : 0 ≤ (x11_1 : Int) := of_decide_eq_true as_
         have q185 : x11_1 < (l1.length : Int) := of_decide_eq_true as_
         obtain ⟨ad185, e185, hx185_0⟩ := Kd.at_bool HR1.out x11_1 p185 q185
         (try rw [← Nbq11.out] at hx185_0)
         cases e185
         replace hx185_0 := cl_ HB hx185_0
         replace p185 := eq_true p185
         replace q185 := eq_true q185
         go_wp2
         repeat (go_quiet (fail); try go_wp2)
         go_roundg k1
         case measure => have := HK1.out; omega
         case rel => exact ⟨(x9_1), (x10_1), (wrap64 (x11_1 + 1)), rs_, rs_, H', ⟨by have := HK1.out; omega⟩, ⟨rA_ HO_9.out⟩, ⟨bB_⟩⟩
       ·
        rw [if_neg c10] at H
        exact absurd H (by simp)
      ·
       rw [if_neg c9] at H
       exact absurd H (by simp)
     ·
      rw [if_neg c8] at H
      have c8b0 : decide (x11_1 < (l0.length : Int)) = false := decide_eq_false c8
      clear c8
      replace H := Option.bind_eq_some_iff.mp H
      obtain ⟨t189, A170, H⟩ := H
      replace H : (spec_l13Share.l1 k1 l0 l1 x9_1 x10_1 t189 0) = some (r1, r2, r3) := H
      have A17 := Aside0.mk A170
      clear A170
      have H' := Aside0.mk H
      clear H
      go_wp2_with (first | (go_at_call 116; (with_reducible refine (spec_l13Order.calls k1 _ _ l0 t189 _ ?side1 ?side2 A17.out).mono ?_); (case side1 => exact cA_ (Kd.C_below HR0.out HB.out)); (case side2 => exact HC0.out); rintro e w18 ⟨v190, rfl, ho0, hb⟩; have n0_ := Aside0.mk (Kd.R_elder' (rA_ HO_9.out) (Kd.R_base ho0) hb); have n1_ := Aside0.mk (Kd.R_lower (Kd.R_new' ho0 (Kd.R_lt (rA_ HO_9.out))) (below_size bB_)); have n2_ := Aside0.mk (below_step bB_ hb); clear HO_9; clear HB; have HO_9 := n0_; have HO191 := n1_; have HB := n2_; clear n0_ n1_ n2_; (try clear hb); (try clear hb2); (try clear hk); (try clear hi); (try clear ho0)))
      repeat (go_quiet (first | (go_at_call 116; (with_reducible refine (spec_l13Order.calls k1 _ _ l0 t189 _ ?side1 ?side2 A17.out).mono ?_); (case side1 => exact cA_ (Kd.C_below HR0.out HB.out)); (case side2 => exact HC0.out); rintro e w18 ⟨v190, rfl, ho0, hb⟩; have n0_ := Aside0.mk (Kd.R_elder' (rA_ HO_9.out) (Kd.R_base ho0) hb); have n1_ := Aside0.mk (Kd.R_lower (Kd.R_new' ho0 (Kd.R_lt (rA_ HO_9.out))) (below_size bB_)); have n2_ := Aside0.mk (below_step bB_ hb); clear HO_9; clear HB; have HO_9 := n0_; have HO191 := n1_; have HB := n2_; clear n0_ n1_ n2_; (try clear hb); (try clear hb2); (try clear hk); (try clear hi); (try clear ho0))); try go_wp2_with (first | (go_at_call 116; (with_reducible refine (spec_l13Order.calls k1 _ _ l0 t189 _ ?side1 ?side2 A17.out).mono ?_); (case side1 => exact cA_ (Kd.C_below HR0.out HB.out)); (case side2 => exact HC0.out); rintro e w18 ⟨v190, rfl, ho0, hb⟩; have n0_ := Aside0.mk (Kd.R_elder' (rA_ HO_9.out) (Kd.R_base ho0) hb); have n1_ := Aside0.mk (Kd.R_lower (Kd.R_new' ho0 (Kd.R_lt (rA_ HO_9.out))) (below_size bB_)); have n2_ := Aside0.mk (below_step bB_ hb); clear HO_9; clear HB; have HO_9 := n0_; have HO191 := n1_; have HB := n2_; clear n0_ n1_ n2_; (try clear hb); (try clear hb2); (try clear hk); (try clear hi); (try clear ho0))))
      go_loopg [10, 13] k1 (fun kq v10 v13 w' => ∃ (x9_2 : List Int) (x10_2 : Int) (x13_2 : Int), v10 = .int .i64 x10_2 ∧ v13 = .int .i64 x13_2 ∧ Aside0 (spec_l13Share.l1 kq l0 l1 x9_2 x10_2 t189 x13_2 = some (r1, r2, r3)) ∧ Aside0 (kq ≤ k1) ∧ Aside0 (Kd.R (Kd.int .i64) 2 w' w.heap.size (fun k_ => some k_ ≠ (v190 : Value).ownBlock) v183 x9_2) ∧ Aside0 (Kd.R (Kd.int .i64) 2 w' w.heap.size (fun k_ => some k_ ≠ (v183 : Value).ownBlock) v190 t189) ∧ Aside0 (Below w.heap.size w w'))
      case atStart => exact ⟨(x9_1), (x10_1), (0), rs_, rs_, H', ⟨Nat.le_refl _⟩, ⟨by (with_reducible repeat (first | apply Kd.R_alloc | apply Kd.R_drewN | apply Kd.R_drew)); exact Kd.R_mono HO_9.out (fun _ hk => hk.2)⟩, ⟨by (with_reducible repeat (first | apply Kd.R_alloc | apply Kd.R_drewN | apply Kd.R_drew)); exact Kd.R_mono HO191.out (fun _ hk => hk.2)⟩, ⟨bB_⟩⟩
      case round =>
       clear H'
       try clear c1
       try clear p1
       try clear q1
       try clear hx1
       try clear p2
       try clear c4
       try clear c4b0
       try clear c4b1
       try clear c5
       try clear c5b0
       try clear c5b1
       try clear c6
       try clear p6
       try clear c8
       try clear c8b0
       try clear c9
       try clear c9b0
       try clear c10
       try clear c10b0
       try clear q11
       try clear c12
       try clear c13
       try clear c13b0
       try clear p14
       try clear q14
       try clear hx14
       try clear hf14
       try clear p18
       try clear q18
       try clear hx18
       try clear hx14_0
       try clear hx185_0
       try clear hx186_0
       try clear hx186_1
       try clear hx186_2
       try clear hx186_3
       try clear hx186_4
       try clear hx186_5
       try clear hx186_6
       try clear hx188_0
       try clear hx188_1
       try clear hx188_2
       try clear hx188_3
       try clear hx188_4
       try clear hx188_5
       try clear hx188_6
       try clear p14
       try clear p185
       try clear p186
       try clear p188
       try clear p2
       try clear q14
       try clear q185
       try clear q186
       try clear q188
       obtain ⟨x9_2, x10_2, x13_2, rfl, rfl, HA, HK2, HO_9, HO_12, HB⟩ := hrel
       cases gk with
       | zero => exact absurd HA.out (by simp [spec_l13Share.l1])
       | succ k2 =>
        have H := HA.out
        clear HA
        simp only [spec_l13Share.l1] at H
        have HC19 := Aside0.mk H
        clear H
        go_upto_region 11 with (fail)
        repeat (go_quiet (fail); go_upto_region 11 with (fail))
        go_cut [56] (fun v56 wc => ∃ (kq : Nat) (x56_18 : Bool), v56 = .bool x56_18 ∧ Aside0 (spec_l13Share.j2 kq l0 l1 x9_2 x10_2 t189 x13_2 x56_18 = some (r1, r2, r3)) ∧ Aside0 (kq ≤ k2) ∧ Aside0 (Kd.R (Kd.int .i64) 2 wc w.heap.size (fun k_ => some k_ ≠ (v190 : Value).ownBlock) v183 x9_2) ∧ Aside0 (Kd.R (Kd.int .i64) 2 wc w.heap.size (fun k_ => some k_ ≠ (v183 : Value).ownBlock) v190 t189) ∧ Aside0 (Below w.heap.size w wc))
        case first =>
         have H := HC19.out
         clear HC19
         by_cases c20 : x13_2 < (t189.length : Int)
         ·
          rw [if_pos c20] at H
          have c20b0 : decide (x13_2 < (t189.length : Int)) = true := decide_eq_true c20
          clear c20
          (first | rw [c20b0] | (simp only [i64_w, i32_w]; rw [c20b0]) | skip)
          have H' := Aside0.mk H
          clear H
          obtain ⟨Ao21, co21, eo21⟩ := Kd.R_slice HO_12.out
          subst eo21
          go_wp2
          repeat (go_quiet (fail); try go_wp2)
          go_meet
          case rel => exact ⟨_, (decide (x10_2 > 0)), rs_, H', ⟨by have := HK1.out; have := HK2.out; first | omega | exact Nat.le_refl _⟩, ⟨rA_ HO_9.out⟩, ⟨rA_ HO_12.out⟩, ⟨bB_⟩⟩
         ·
          rw [if_neg c20] at H
          have c20b0 : decide (x13_2 < (t189.length : Int)) = false := decide_eq_false c20
          clear c20
          (first | rw [c20b0] | (simp only [i64_w, i32_w]; rw [c20b0]) | skip)
          have H' := Aside0.mk H
          clear H
          obtain ⟨Ao22, co22, eo22⟩ := Kd.R_slice HO_12.out
          subst eo22
          go_wp2
          repeat (go_quiet (fail); try go_wp2)
          go_meet
          case rel => exact ⟨_, (false), rs_, H', ⟨by have := HK1.out; have := HK2.out; first | omega | exact Nat.le_refl _⟩, ⟨rA_ HO_9.out⟩, ⟨rA_ HO_12.out⟩, ⟨bB_⟩⟩
        case rest =>
         clear HC19
         try clear c1
         try clear p1
         try clear q1
         try clear hx1
         try clear c2
         try clear p2
         try clear c4
         try clear c4b0
         try clear c4b1
         try clear c5
         try clear c5b0
         try clear c5b1
         try clear c6
         try clear p6
         try clear c8
         try clear c8b0
         try clear c9
         try clear c9b0
         try clear c10
         try clear c10b0
         try clear q11
         try clear c12
         try clear c13
         try clear c13b0
         try clear p14
         try clear q14
         try clear hx14
         try clear hf14
         try clear p18
         try clear q18
         try clear hx18
         try clear c20
         try clear c20b0
         try clear hx14_0
         try clear hx185_0
         try clear hx186_0
         try clear hx186_1
         try clear hx186_2
         try clear hx186_3
         try clear hx186_4
         try clear hx186_5
         try clear hx186_6
         try clear hx188_0
         try clear hx188_1
         try clear hx188_2
         try clear hx188_3
         try clear hx188_4
         try clear hx188_5
         try clear hx188_6
         try clear p1
         try clear p14
         try clear p18
         try clear p185
         try clear p186
         try clear p188
         try clear p2
         try clear p6
         try clear q1
         try clear q11
         try clear q14
         try clear q18
         try clear q185
         try clear q186
         try clear q188
         obtain ⟨kq, x56_18, rfl, HA, HJ18, HO_9, HO_12, HB⟩ := hcut
         cases kq with
         | zero => exact absurd HA.out (by simp [spec_l13Share.j2])
         | succ kj18 =>
          have H := HA.out
          clear HA
          simp only [spec_l13Share.j2] at H
          by_cases c23 : x56_18 = true
          ·
           subst c23
           have H1 : (if 0 ≤ x13_2 then (if x13_2 < (t189.length : Int) then (if 0 ≤ (rd t189 x13_2) then (if (rd t189 x13_2) < (l1.length : Int) then (if rdOf false l1 (rd t189 x13_2) = true then (if (rd t189 x13_2) < (l0.length : Int) then ((spec_l00Min.f x10_2 (wrap64 (((rd_T77 l0 (rd t189 x13_2)).f2) - ((rd_T77 l0 (rd t189 x13_2)).f1)))).bind fun t196 => (if (rd t189 x13_2) < (x9_2.length : Int) then (spec_l13Share.l1 kj18 l0 l1 (x9_2.set ((rd t189 x13_2) : Int).toNat (wrap64 ((rd x9_2 (rd t189 x13_2)) + t196))) (wrap64 (x10_2 - t196)) t189 (wrap64 (x13_2 + 1))) else (none))) else (none)) else (spec_l13Share.l1 kj18 l0 l1 x9_2 x10_2 t189 (wrap64 (x13_2 + 1)))) else (none)) else (none)) else (none)) else (none)) = some (r1, r2, r3) := by rw [if_pos rfl] at H; exact H
           clear H
           have H := H1
           clear H1
           by_cases c24 : 0 ≤ x13_2
           ·
            rw [if_pos c24] at H
            have c24b0 : decide (0 ≤ x13_2) = true := decide_eq_true c24
            clear c24
            by_cases c25 : x13_2 < (t189.length : Int)
            ·
             rw [if_pos c25] at H
             have c25b0 : decide (x13_2 < (t189.length : Int)) = true := decide_eq_true c25
             clear c25
             by_cases c26 : 0 ≤ (rd t189 x13_2)
             ·
              rw [if_pos c26] at H
              have c26b0 : decide (0 ≤ (rd t189 x13_2)) = true := decide_eq_true c26
              clear c26
              by_cases c27 : (rd t189 x13_2) < (l1.length : Int)
              ·
               rw [if_pos c27] at H
               have c27b0 : decide ((rd t189 x13_2) < (l1.length : Int)) = true := decide_eq_true c27
               clear c27
               obtain ⟨bq28, hbq28⟩ : ∃ b_ : Bool, b_ = (rdOf false l1 (rd t189 x13_2)) := ⟨_, rfl⟩
               replace H : (if bq28 = true then (if (rd t189 x13_2) < (l0.length : Int) then ((spec_l00Min.f x10_2 (wrap64 (((rd_T77 l0 (rd t189 x13_2)).f2) - ((rd_T77 l0 (rd t189 x13_2)).f1)))).bind fun t196 => (if (rd t189 x13_2) < (x9_2.length : Int) then (spec_l13Share.l1 kj18 l0 l1 (x9_2.set ((rd t189 x13_2) : Int).toNat (wrap64 ((rd x9_2 (rd t189 x13_2)) + t196))) (wrap64 (x10_2 - t196)) t189 (wrap64 (x13_2 + 1))) else (none))) else (none)) else (spec_l13Share.l1 kj18 l0 l1 x9_2 x10_2 t189 (wrap64 (x13_2 + 1)))) = some (r1, r2, r3) := by rw [← hbq28] at H; exact H
               have Nbq28 := Aside0.mk hbq28
               clear hbq28
               by_cases c29 : bq28 = true
               ·
                subst c29
                have H1 : (if (rd t189 x13_2) < (l0.length : Int) then ((spec_l00Min.f x10_2 (wrap64 (((rd_T77 l0 (rd t189 x13_2)).f2) - ((rd_T77 l0 (rd t189 x13_2)).f1)))).bind fun t196 => (if (rd t189 x13_2) < (x9_2.length : Int) then (spec_l13Share.l1 kj18 l0 l1 (x9_2.set ((rd t189 x13_2) : Int).toNat (wrap64 ((rd x9_2 (rd t189 x13_2)) + t196))) (wrap64 (x10_2 - t196)) t189 (wrap64 (x13_2 + 1))) else (none))) else (none)) = some (r1, r2, r3) := by rw [if_pos rfl] at H; exact H
                clear H
                have H := H1
                clear H1
                by_cases c30 : (rd t189 x13_2) < (l0.length : Int)
                ·
                 rw [if_pos c30] at H
                 have c30b0 : decide ((rd t189 x13_2) < (l0.length : Int)) = true := decide_eq_true c30
                 clear c30
                 replace H := Option.bind_eq_some_iff.mp H
                 obtain ⟨t196, A310, H⟩ := H
                 replace H : (if (rd t189 x13_2) < (x9_2.length : Int) then (spec_l13Share.l1 kj18 l0 l1 (x9_2.set ((rd t189 x13_2) : Int).toNat (wrap64 ((rd x9_2 (rd t189 x13_2)) + t196))) (wrap64 (x10_2 - t196)) t189 (wrap64 (x13_2 + 1))) else (none)) = some (r1, r2, r3) := H
                 have A31 := Aside0.mk A310
                 clear A310
                 by_cases c32 : (rd t189 x13_2) < (x9_2.length : Int)
                 ·
                  rw [if_pos c32] at H
                  have c32b0 : decide ((rd t189 x13_2) < (x9_2.length : Int)) = true := decide_eq_true c32
                  clear c32
                  obtain ⟨y198, hy198⟩ : ∃ y_ : List Int, y_ = (x9_2.set ((rd t189 x13_2) : Int).toNat (wrap64 ((rd x9_2 (rd t189 x13_2)) + t196))) := ⟨_, rfl⟩
                  replace H : (spec_l13Share.l1 kj18 l0 l1 y198 (wrap64 (x10_2 - t196)) t189 (wrap64 (x13_2 + 1))) = some (r1, r2, r3) := by first | (rw [hy198]; with_reducible exact H) | (have H2_ := (Option.bind_some _ _).symm.trans H; rw [hy198]; with_reducible exact H2_) | (have H2_ := (Option.bind_some _ _).symm.trans H; with_reducible exact H2_) | with_reducible exact H | (rw [hy198]; exact H) | exact H
                  have Ny198 := Aside0.mk hy198
                  clear hy198
                  have H' := Aside0.mk H
                  clear H
                  obtain ⟨Ao34, co34, eo34⟩ := Kd.R_slice HO_12.out
                  subst eo34
                  have p192 : 0 ≤ (x13_2 : Int) := of_decide_eq_true as_
                  have q192 : x13_2 < (t189.length : Int) := of_decide_eq_true as_
                  obtain ⟨ad192, e192, hx192_0⟩ := Kd.at_int (Kd.R_reads' HO_12.out).2.2 x13_2 p192 q192
                  cases e192
                  replace p192 := eq_true p192
                  replace q192 := eq_true q192
                  have p193 : 0 ≤ ((rd t189 x13_2) : Int) := of_decide_eq_true as_
                  have q193 : (rd t189 x13_2) < (l1.length : Int) := of_decide_eq_true as_
                  obtain ⟨ad193, e193, hx193_0⟩ := Kd.at_bool HR1.out (rd t189 x13_2) p193 q193
                  (try rw [← Nbq28.out] at hx193_0)
                  cases e193
                  replace hx193_0 := cl_ HB hx193_0
                  replace p193 := eq_true p193
                  replace q193 := eq_true q193
                  have p194 : 0 ≤ ((rd t189 x13_2) : Int) := of_decide_eq_true as_
                  have q194 : (rd t189 x13_2) < (l0.length : Int) := of_decide_eq_true as_
                  obtain ⟨ad194, e194, hx194_0, hx194_1, hx194_2, hx194_3, hx194_4, hx194_5, hx194_6⟩ := at_T77 HR0.out (rd t189 x13_2) p194 q194
                  cases e194
                  replace hx194_0 := cl_ HB hx194_0
                  replace hx194_1 := cl_ HB hx194_1
                  replace hx194_2 := cl_ HB hx194_2
                  replace hx194_3 := cl_ HB hx194_3
                  replace hx194_4 := cl_ HB hx194_4
                  replace hx194_5 := cl_ HB hx194_5
                  replace hx194_6 := cl_ HB hx194_6
                  replace p194 := eq_true p194
                  replace q194 := eq_true q194
                  have p195 : 0 ≤ ((rd t189 x13_2) : Int) := of_decide_eq_true as_
                  have q195 : (rd t189 x13_2) < (l0.length : Int) := of_decide_eq_true as_
                  obtain ⟨ad195, e195, hx195_0, hx195_1, hx195_2, hx195_3, hx195_4, hx195_5, hx195_6⟩ := at_T77 HR0.out (rd t189 x13_2) p195 q195
                  obtain rfl : ad194 = ad195 := (by injection e195)
                  replace hx195_0 := cl_ HB hx195_0
                  replace hx195_1 := cl_ HB hx195_1
                  replace hx195_2 := cl_ HB hx195_2
                  replace hx195_3 := cl_ HB hx195_3
                  replace hx195_4 := cl_ HB hx195_4
                  replace hx195_5 := cl_ HB hx195_5
                  replace hx195_6 := cl_ HB hx195_6
                  replace p195 := eq_true p195
                  replace q195 := eq_true q195
                  have hq_ : IntKind.i64.wrap (((rd_T77 l0 (rd t189 x13_2)).f2) - ((rd_T77 l0 (rd t189 x13_2)).f1)) = wrap64 (((rd_T77 l0 (rd t189 x13_2)).f2) - ((rd_T77 l0 (rd t189 x13_2)).f1)) := (by rw [IntKind.wrap_i64]; unfold wrap64; rfl)
                  go_wp2_with (first | (go_at_call 99; (with_reducible refine (spec_l00Min.calls x10_2 (wrap64 (((rd_T77 l0 (rd t189 x13_2)).f2) - ((rd_T77 l0 (rd t189 x13_2)).f1))) t196 _ A31.out).mono ?_); rintro e w' ⟨rfl, ⟨nd, rfl⟩⟩; (try first | exact ⟨rfl, _, World.drewN_drewN _ _ _⟩ | exact ⟨rfl, _, Eq.trans (World.drewN_drewN _ _ _) (congrArg (World.drewN _) (Nat.add_assoc _ _ _))⟩); obtain ⟨Ao35, co35, eo35⟩ := Kd.R_slice HO_9.out; subst eo35; have p197 : 0 ≤ ((rd t189 x13_2) : Int) := of_decide_eq_true as_; have q197 : (rd t189 x13_2) < (x9_2.length : Int) := of_decide_eq_true as_; obtain ⟨ad197, e197, hx197_0⟩ := Kd.at_int (Kd.R_reads' HO_9.out).2.2 (rd t189 x13_2) p197 q197; cases e197; replace p197 := eq_true p197; replace q197 := eq_true q197; have p33 : 0 ≤ ((rd t189 x13_2) : Int) := of_decide_eq_true as_; have q33 : ((rd t189 x13_2) : Int) < ((x9_2.length : Int) : Int) := of_decide_eq_true as_; obtain ⟨go33, co33, eo33, gb33, gl33, cl33, HG33⟩ := Kd.R_form HO_9.out (by omega); (first | cases eo33 | (injection eo33 with ea_ en_ ec_; (first | subst ea_ | (injection ea_ with ea_; subst ea_)); subst ec_; clear en_)); have GB33 := Aside0.mk gb33; have GG33 := Aside0.mk HG33; clear gb33 gl33 HG33; (first | simp only [add_plain] at hx197_0 | skip); obtain ⟨hx33_0, hf33_0⟩ := Kd.R_celln 0 HO_9.out ((rd t189 x13_2) : Int) p33 q33; replace p33 := eq_true p33; replace q33 := eq_true q33; obtain ⟨hy36_, hz36_⟩ := Kd.R_celln 0 HO_9.out ((rd t189 x13_2) : Int) (of_decide_eq_true as_) (of_decide_eq_true as_); have HP36 := Kd.R_putg HO_9.out ((rd t189 x13_2) : Int) (wrap64 ((rd x9_2 (rd t189 x13_2)) + t196))) | ((with_reducible refine gate_store (t := 2) (p := 86) rfl ?_); (try (rw [drewN_self wc]; generalize hq_ : World.drewN wc _ = wc; have n0_ := Aside0.mk (Kd.R_at hq_ HO_9.out); have n1_ := Aside0.mk (Kd.R_at hq_ HO_12.out); have n2_ := Aside0.mk (below_at hq_ HB.out); clear hq_ HO_9 HO_12 HB; have HO_9 := n0_; have HO_12 := n1_; have HB := n2_; clear n0_ n1_ n2_; (try (obtain ⟨hy36_, hz36_⟩ := Kd.R_celln 0 HO_9.out ((rd t189 x13_2) : Int) (of_decide_eq_true as_) (of_decide_eq_true as_))); (try (have HP36 := Kd.R_putg HO_9.out ((rd t189 x13_2) : Int) (wrap64 ((rd x9_2 (rd t189 x13_2)) + t196)))))); refine store_event (t := 2) (p := 86) (v := ?vo_w37) (w1 := (wc.setCell ⟨go33, ((rd t189 x13_2) : Int).toNat, none⟩ (.int .i64 (wrap64 ((rd x9_2 (rd t189 x13_2)) + t196))))) ?hg ?ho ?hn ?hr ?_; (case ho => rfl); (case hg => rfl); (case hn => rfl); (case hr => first | (go_simp; done) | (go_simp; rfl)); intro w37 hw; have hg : wc.grownBy w37 (some go33) := (by rw [hw]; exact HP36.2); have hp_ : Kd.R (Kd.int .i64) 2 w37 w.heap.size (fun k_ => some k_ ≠ (.slice (some ad192) t189.length co34 : Value).ownBlock) (.slice (some ⟨go33, 0, none⟩) x9_2.length co35) y198 := (by rw [hw, Ny198.out]; exact HP36.1); clear HP36; have n0_ := Aside0.mk (hp_); have n1_ := Aside0.mk (Kd.R_after (v := (.slice (some ⟨go33, 0, none⟩) x9_2.length co35)) (v1 := (.slice (some ⟨go33, 0, none⟩) x9_2.length co35)) (ok := (fun _ => True)) (by (with_reducible repeat (first | apply Kd.R_alloc | apply Kd.R_drewN | apply Kd.R_drew)); exact Kd.R_mono HO_12.out (fun _ hk => ⟨trivial, hk⟩)) hg (.inl rfl)); have n2_ := Aside0.mk ((by rw [hw]; exact below_set (HB.out) GB33.out : Below w.heap.size w w37)); clear HO_9; clear HO_12; clear HB; have HO_9 := n0_; have HO_12 := n1_; have HB := n2_; clear n0_ n1_ n2_; clear hg hw hp_))
                  repeat (go_quiet (first | (go_at_call 99; (with_reducible refine (spec_l00Min.calls x10_2 (wrap64 (((rd_T77 l0 (rd t189 x13_2)).f2) - ((rd_T77 l0 (rd t189 x13_2)).f1))) t196 _ A31.out).mono ?_); rintro e w' ⟨rfl, ⟨nd, rfl⟩⟩; (try first | exact ⟨rfl, _, World.drewN_drewN _ _ _⟩ | exact ⟨rfl, _, Eq.trans (World.drewN_drewN _ _ _) (congrArg (World.drewN _) (Nat.add_assoc _ _ _))⟩); obtain ⟨Ao35, co35, eo35⟩ := Kd.R_slice HO_9.out; subst eo35; have p197 : 0 ≤ ((rd t189 x13_2) : Int) := of_decide_eq_true as_; have q197 : (rd t189 x13_2) < (x9_2.length : Int) := of_decide_eq_true as_; obtain ⟨ad197, e197, hx197_0⟩ := Kd.at_int (Kd.R_reads' HO_9.out).2.2 (rd t189 x13_2) p197 q197; cases e197; replace p197 := eq_true p197; replace q197 := eq_true q197; have p33 : 0 ≤ ((rd t189 x13_2) : Int) := of_decide_eq_true as_; have q33 : ((rd t189 x13_2) : Int) < ((x9_2.length : Int) : Int) := of_decide_eq_true as_; obtain ⟨go33, co33, eo33, gb33, gl33, cl33, HG33⟩ := Kd.R_form HO_9.out (by omega); (first | cases eo33 | (injection eo33 with ea_ en_ ec_; (first | subst ea_ | (injection ea_ with ea_; subst ea_)); subst ec_; clear en_)); have GB33 := Aside0.mk gb33; have GG33 := Aside0.mk HG33; clear gb33 gl33 HG33; (first | simp only [add_plain] at hx197_0 | skip); obtain ⟨hx33_0, hf33_0⟩ := Kd.R_celln 0 HO_9.out ((rd t189 x13_2) : Int) p33 q33; replace p33 := eq_true p33; replace q33 := eq_true q33; obtain ⟨hy36_, hz36_⟩ := Kd.R_celln 0 HO_9.out ((rd t189 x13_2) : Int) (of_decide_eq_true as_) (of_decide_eq_true as_); have HP36 := Kd.R_putg HO_9.out ((rd t189 x13_2) : Int) (wrap64 ((rd x9_2 (rd t189 x13_2)) + t196))) | ((with_reducible refine gate_store (t := 2) (p := 86) rfl ?_); (try (rw [drewN_self wc]; generalize hq_ : World.drewN wc _ = wc; have n0_ := Aside0.mk (Kd.R_at hq_ HO_9.out); have n1_ := Aside0.mk (Kd.R_at hq_ HO_12.out); have n2_ := Aside0.mk (below_at hq_ HB.out); clear hq_ HO_9 HO_12 HB; have HO_9 := n0_; have HO_12 := n1_; have HB := n2_; clear n0_ n1_ n2_; (try (obtain ⟨hy36_, hz36_⟩ := Kd.R_celln 0 HO_9.out ((rd t189 x13_2) : Int) (of_decide_eq_true as_) (of_decide_eq_true as_))); (try (have HP36 := Kd.R_putg HO_9.out ((rd t189 x13_2) : Int) (wrap64 ((rd x9_2 (rd t189 x13_2)) + t196)))))); refine store_event (t := 2) (p := 86) (v := ?vo_w37) (w1 := (wc.setCell ⟨go33, ((rd t189 x13_2) : Int).toNat, none⟩ (.int .i64 (wrap64 ((rd x9_2 (rd t189 x13_2)) + t196))))) ?hg ?ho ?hn ?hr ?_; (case ho => rfl); (case hg => rfl); (case hn => rfl); (case hr => first | (go_simp; done) | (go_simp; rfl)); intro w37 hw; have hg : wc.grownBy w37 (some go33) := (by rw [hw]; exact HP36.2); have hp_ : Kd.R (Kd.int .i64) 2 w37 w.heap.size (fun k_ => some k_ ≠ (.slice (some ad192) t189.length co34 : Value).ownBlock) (.slice (some ⟨go33, 0, none⟩) x9_2.length co35) y198 := (by rw [hw, Ny198.out]; exact HP36.1); clear HP36; have n0_ := Aside0.mk (hp_); have n1_ := Aside0.mk (Kd.R_after (v := (.slice (some ⟨go33, 0, none⟩) x9_2.length co35)) (v1 := (.slice (some ⟨go33, 0, none⟩) x9_2.length co35)) (ok := (fun _ => True)) (by (with_reducible repeat (first | apply Kd.R_alloc | apply Kd.R_drewN | apply Kd.R_drew)); exact Kd.R_mono HO_12.out (fun _ hk => ⟨trivial, hk⟩)) hg (.inl rfl)); have n2_ := Aside0.mk ((by rw [hw]; exact below_set (HB.out) GB33.out : Below w.heap.size w w37)); clear HO_9; clear HO_12; clear HB; have HO_9 := n0_; have HO_12 := n1_; have HB := n2_; clear n0_ n1_ n2_; clear hg hw hp_)); try go_wp2_with (first | (go_at_call 99; (with_reducible refine (spec_l00Min.calls x10_2 (wrap64 (((rd_T77 l0 (rd t189 x13_2)).f2) - ((rd_T77 l0 (rd t189 x13_2)).f1))) t196 _ A31.out).mono ?_); rintro e w' ⟨rfl, ⟨nd, rfl⟩⟩; (try first | exact ⟨rfl, _, World.drewN_drewN _ _ _⟩ | exact ⟨rfl, _, Eq.trans (World.drewN_drewN _ _ _) (congrArg (World.drewN _) (Nat.add_assoc _ _ _))⟩); obtain ⟨Ao35, co35, eo35⟩ := Kd.R_slice HO_9.out; subst eo35; have p197 : 0 ≤ ((rd t189 x13_2) : Int) := of_decide_eq_true as_; have q197 : (rd t189 x13_2) < (x9_2.length : Int) := of_decide_eq_true as_; obtain ⟨ad197, e197, hx197_0⟩ := Kd.at_int (Kd.R_reads' HO_9.out).2.2 (rd t189 x13_2) p197 q197; cases e197; replace p197 := eq_true p197; replace q197 := eq_true q197; have p33 : 0 ≤ ((rd t189 x13_2) : Int) := of_decide_eq_true as_; have q33 : ((rd t189 x13_2) : Int) < ((x9_2.length : Int) : Int) := of_decide_eq_true as_; obtain ⟨go33, co33, eo33, gb33, gl33, cl33, HG33⟩ := Kd.R_form HO_9.out (by omega); (first | cases eo33 | (injection eo33 with ea_ en_ ec_; (first | subst ea_ | (injection ea_ with ea_; subst ea_)); subst ec_; clear en_)); have GB33 := Aside0.mk gb33; have GG33 := Aside0.mk HG33; clear gb33 gl33 HG33; (first | simp only [add_plain] at hx197_0 | skip); obtain ⟨hx33_0, hf33_0⟩ := Kd.R_celln 0 HO_9.out ((rd t189 x13_2) : Int) p33 q33; replace p33 := eq_true p33; replace q33 := eq_true q33; obtain ⟨hy36_, hz36_⟩ := Kd.R_celln 0 HO_9.out ((rd t189 x13_2) : Int) (of_decide_eq_true as_) (of_decide_eq_true as_); have HP36 := Kd.R_putg HO_9.out ((rd t189 x13_2) : Int) (wrap64 ((rd x9_2 (rd t189 x13_2)) + t196))) | ((with_reducible refine gate_store (t := 2) (p := 86) rfl ?_); (try (rw [drewN_self wc]; generalize hq_ : World.drewN wc _ = wc; have n0_ := Aside0.mk (Kd.R_at hq_ HO_9.out); have n1_ := Aside0.mk (Kd.R_at hq_ HO_12.out); have n2_ := Aside0.mk (below_at hq_ HB.out); clear hq_ HO_9 HO_12 HB; have HO_9 := n0_; have HO_12 := n1_; have HB := n2_; clear n0_ n1_ n2_; (try (obtain ⟨hy36_, hz36_⟩ := Kd.R_celln 0 HO_9.out ((rd t189 x13_2) : Int) (of_decide_eq_true as_) (of_decide_eq_true as_))); (try (have HP36 := Kd.R_putg HO_9.out ((rd t189 x13_2) : Int) (wrap64 ((rd x9_2 (rd t189 x13_2)) + t196)))))); refine store_event (t := 2) (p := 86) (v := ?vo_w37) (w1 := (wc.setCell ⟨go33, ((rd t189 x13_2) : Int).toNat, none⟩ (.int .i64 (wrap64 ((rd x9_2 (rd t189 x13_2)) + t196))))) ?hg ?ho ?hn ?hr ?_; (case ho => rfl); (case hg => rfl); (case hn => rfl); (case hr => first | (go_simp; done) | (go_simp; rfl)); intro w37 hw; have hg : wc.grownBy w37 (some go33) := (by rw [hw]; exact HP36.2); have hp_ : Kd.R (Kd.int .i64) 2 w37 w.heap.size (fun k_ => some k_ ≠ (.slice (some ad192) t189.length co34 : Value).ownBlock) (.slice (some ⟨go33, 0, none⟩) x9_2.length co35) y198 := (by rw [hw, Ny198.out]; exact HP36.1); clear HP36; have n0_ := Aside0.mk (hp_); have n1_ := Aside0.mk (Kd.R_after (v := (.slice (some ⟨go33, 0, none⟩) x9_2.length co35)) (v1 := (.slice (some ⟨go33, 0, none⟩) x9_2.length co35)) (ok := (fun _ => True)) (by (with_reducible repeat (first | apply Kd.R_alloc | apply Kd.R_drewN | apply Kd.R_drew)); exact Kd.R_mono HO_12.out (fun _ hk => ⟨trivial, hk⟩)) hg (.inl rfl)); have n2_ := Aside0.mk ((by rw [hw]; exact below_set (HB.out) GB33.out : Below w.heap.size w w37)); clear HO_9; clear HO_12; clear HB; have HO_9 := n0_; have HO_12 := n1_; have HB := n2_; clear n0_ n1_ n2_; clear hg hw hp_)))
                  go_roundg kj18
                  case measure => have := HK1.out; have := HK2.out; have := HJ18.out; omega
                  case rel => exact ⟨(y198), (wrap64 (x10_2 - t196)), (wrap64 (x13_2 + 1)), rs_, rs_, H', ⟨by have := HK1.out; have := HK2.out; have := HJ18.out; omega⟩, ⟨rA_ HO_9.out⟩, ⟨by (with_reducible repeat (first | apply Kd.R_alloc | apply Kd.R_drewN | apply Kd.R_drew)); exact Kd.R_mono HO_12.out (fun _ hk => hk.2)⟩, ⟨bB_⟩⟩
                 ·
                  rw [if_neg c32] at H
                  exact absurd H (by simp)
                ·
                 rw [if_neg c30] at H
                 exact absurd H (by simp)
               ·
                replace c29 := Bool.eq_false_iff.mpr c29
                subst c29
                have H1 : (spec_l13Share.l1 kj18 l0 l1 x9_2 x10_2 t189 (wrap64 (x13_2 + 1))) = some (r1, r2, r3) := by rw [if_neg (show ¬ (false = true) by decide)] at H; exact H
                clear H
                have H := H1
                clear H1
                have H' := Aside0.mk H
                clear H
                obtain ⟨Ao38, co38, eo38⟩ := Kd.R_slice HO_12.out
                subst eo38
                have p192 : 0 ≤ (x13_2 : Int) := of_decide_eq_true as_
                have q192 : x13_2 < (t189.length : Int) := of_decide_eq_true as_
                obtain ⟨ad192, e192, hx192_0⟩ := Kd.at_int (Kd.R_reads' HO_12.out).2.2 x13_2 p192 q192
                cases e192
                replace p192 := eq_true p192
                replace q192 := eq_true q192
                have p193 : 0 ≤ ((rd t189 x13_2) : Int) := of_decide_eq_true as_
                have q193 : (rd t189 x13_2) < (l1.length : Int) := of_decide_eq_true as_
                obtain ⟨ad193, e193, hx193_0⟩ := Kd.at_bool HR1.out (rd t189 x13_2) p193 q193
                (try rw [← Nbq28.out] at hx193_0)
                cases e193
                replace hx193_0 := cl_ HB hx193_0
                replace p193 := eq_true p193
                replace q193 := eq_true q193
                go_wp2
                repeat (go_quiet (fail); try go_wp2)
                go_roundg kj18
                case measure => have := HK1.out; have := HK2.out; have := HJ18.out; omega
                case rel => exact ⟨(x9_2), (x10_2), (wrap64 (x13_2 + 1)), rs_, rs_, H', ⟨by have := HK1.out; have := HK2.out; have := HJ18.out; omega⟩, ⟨rA_ HO_9.out⟩, ⟨rA_ HO_12.out⟩, ⟨bB_⟩⟩
              ·
               rw [if_neg c27] at H
               exact absurd H (by simp)
             ·
              rw [if_neg c26] at H
              exact absurd H (by simp)
            ·
             rw [if_neg c25] at H
             exact absurd H (by simp)
           ·
            rw [if_neg c24] at H
            exact absurd H (by simp)
          ·
           replace c23 := Bool.eq_false_iff.mpr c23
           subst c23
           have H1 : (spec_l13Share.l2 kj18 l0 x9_2 x10_2 0 0) = some (r1, r2, r3) := by rw [if_neg (show ¬ (false = true) by decide)] at H; exact H
           clear H
           have H := H1
           clear H1
           have H' := Aside0.mk H
           clear H
           go_wp2
           repeat (go_quiet (fail); try go_wp2)
           go_loopg [16, 17] kj18 (fun kq v16 v17 w' => ∃ (x16_4 : Int) (x17_4 : Int), v16 = .int .i64 x16_4 ∧ v17 = .int .i64 x17_4 ∧ Aside0 (spec_l13Share.l2 kq l0 x9_2 x10_2 x16_4 x17_4 = some (r1, r2, r3)) ∧ Aside0 (kq ≤ kj18) ∧ Aside0 (Kd.R (Kd.int .i64) 2 w' w.heap.size (fun _ => True) v183 x9_2) ∧ Aside0 (Below w.heap.size w w'))
           case atStart => exact ⟨(0), (0), rs_, rs_, H', ⟨Nat.le_refl _⟩, ⟨by (with_reducible repeat (first | apply Kd.R_alloc | apply Kd.R_drewN | apply Kd.R_drew)); exact Kd.R_mono HO_9.out (fun _ hk => trivial)⟩, ⟨bB_⟩⟩
           case round =>
            clear H'
            try clear c1
            try clear p1
            try clear q1
            try clear hx1
            try clear c2
            try clear p2
            try clear q2
            try clear c3
            try clear p3
            try clear q3
            try clear hx3
            try clear hf3
            try clear c4
            try clear c4b0
            try clear c4b1
            try clear c5
            try clear c5b0
            try clear c5b1
            try clear c6
            try clear p6
            try clear c8
            try clear c8b0
            try clear c9
            try clear c9b0
            try clear c10
            try clear c10b0
            try clear q11
            try clear c12
            try clear c13
            try clear c13b0
            try clear p14
            try clear q14
            try clear hx14
            try clear hf14
            try clear p18
            try clear q18
            try clear hx18
            try clear p19
            try clear q19
            try clear hx19
            try clear c20
            try clear c20b0
            try clear c23
            try clear c24
            try clear c24b0
            try clear c25
            try clear c25b0
            try clear c26
            try clear c26b0
            try clear c27
            try clear c27b0
            try clear q28
            try clear c29
            try clear c30
            try clear c30b0
            try clear c32
            try clear c32b0
            try clear p33
            try clear q33
            try clear hx33
            try clear hf33
            try clear hx14_0
            try clear hx185_0
            try clear hx186_0
            try clear hx186_1
            try clear hx186_2
            try clear hx186_3
            try clear hx186_4
            try clear hx186_5
            try clear hx186_6
            try clear hx188_0
            try clear hx188_1
            try clear hx188_2
            try clear hx188_3
            try clear hx188_4
            try clear hx188_5
            try clear hx188_6
            try clear hx192_0
            try clear hx193_0
            try clear hx194_0
            try clear hx194_1
            try clear hx194_2
            try clear hx194_3
            try clear hx194_4
            try clear hx194_5
            try clear hx194_6
            try clear hx195_0
            try clear hx195_1
            try clear hx195_2
            try clear hx195_3
            try clear hx195_4
            try clear hx195_5
            try clear hx195_6
            try clear hx197_0
            try clear hx33_0
            try clear p1
            try clear p14
            try clear p18
            try clear p185
            try clear p186
            try clear p188
            try clear p192
            try clear p193
            try clear p194
            try clear p195
            try clear p197
            try clear p2
            try clear p33
            try clear p6
            try clear q1
            try clear q11
            try clear q14
            try clear q18
            try clear q185
            try clear q186
            try clear q188
            try clear q192
            try clear q193
            try clear q194
            try clear q195
            try clear q197
            try clear q33
            obtain ⟨x16_4, x17_4, rfl, rfl, HA, HK4, HO_9, HB⟩ := hrel
            cases gk with
            | zero => exact absurd HA.out (by simp [spec_l13Share.l2])
            | succ k4 =>
             have H := HA.out
             clear HA
             simp only [spec_l13Share.l2] at H
             by_cases c39 : x17_4 < (l0.length : Int)
             ·
              rw [if_pos c39] at H
              have c39b0 : decide (x17_4 < (l0.length : Int)) = true := decide_eq_true c39
              clear c39
              by_cases c40 : 0 ≤ x17_4
              ·
               rw [if_pos c40] at H
               have c40b0 : decide (0 ≤ x17_4) = true := decide_eq_true c40
               clear c40
               by_cases c41 : x17_4 < (x9_2.length : Int)
               ·
                rw [if_pos c41] at H
                have c41b0 : decide (x17_4 < (x9_2.length : Int)) = true := decide_eq_true c41
                clear c41
                have H' := Aside0.mk H
                clear H
                obtain ⟨Ao42, co42, eo42⟩ := Kd.R_slice HO_9.out
                subst eo42
                have p199 : 0 ≤ (x17_4 : Int) := of_decide_eq_true as_
                have q199 : x17_4 < (x9_2.length : Int) := of_decide_eq_true as_
                obtain ⟨ad199, e199, hx199_0⟩ := Kd.at_int (Kd.R_reads' HO_9.out).2.2 x17_4 p199 q199
                cases e199
                replace p199 := eq_true p199
                replace q199 := eq_true q199
                have p200 : 0 ≤ (x17_4 : Int) := of_decide_eq_true as_
                have q200 : x17_4 < (l0.length : Int) := of_decide_eq_true as_
                obtain ⟨ad200, e200, hx200_0, hx200_1, hx200_2, hx200_3, hx200_4, hx200_5, hx200_6⟩ := at_T77 HR0.out x17_4 p200 q200
                cases e200
                replace hx200_0 := cl_ HB hx200_0
                replace hx200_1 := cl_ HB hx200_1
                replace hx200_2 := cl_ HB hx200_2
                replace hx200_3 := cl_ HB hx200_3
                replace hx200_4 := cl_ HB hx200_4
                replace hx200_5 := cl_ HB hx200_5
                replace hx200_6 := cl_ HB hx200_6
                replace p200 := eq_true p200
                replace q200 := eq_true q200
                go_wp2
                repeat (go_quiet (fail); try go_wp2)
                go_roundg k4
                case measure => have := HK1.out; have := HK2.out; have := HJ18.out; have := HK4.out; omega
                case rel => exact ⟨(wrap64 (x16_4 + (wrap64 ((rd x9_2 x17_4) * ((rd_T77 l0 x17_4).f3))))), (wrap64 (x17_4 + 1)), rs_, rs_, H', ⟨by have := HK1.out; have := HK2.out; have := HJ18.out; have := HK4.out; omega⟩, ⟨rA_ HO_9.out⟩, ⟨bB_⟩⟩
               ·
                rw [if_neg c41] at H
                exact absurd H (by simp)
              ·
               rw [if_neg c40] at H
               exact absurd H (by simp)
             ·
              rw [if_neg c39] at H
              have c39b0 : decide (x17_4 < (l0.length : Int)) = false := decide_eq_false c39
              clear c39
              simp only [Option.some.injEq, Prod.mk.injEq] at H
              obtain ⟨rfl, rfl, rfl⟩ := H
              go_wp2
              repeat (go_quiet (fail); try go_wp2)
              go_ret3
              exact ⟨_, er_, rA_ HO_9.out, bB_⟩
  ·
   rw [if_neg c5] at H
   exact absurd H (by simp)
 ·
  rw [if_neg c4] at H
  exact absurd H (by simp)

end Go.Proofs.Ytebkgebibammiaa.PFnExactIsWithin
