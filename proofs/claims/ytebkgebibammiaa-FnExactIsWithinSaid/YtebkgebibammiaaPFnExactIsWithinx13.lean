-- PRINTED by print.py (a twelfth state) out of the translation. Not trusted: Lean checks it.
import Derived.Test.YtebkgebibammiaaPFnExactIsWithinx0
import Derived.Test.YtebkgebibammiaaPFnExactIsWithinx11
namespace Go.Proofs.Ytebkgebibammiaa.PFnExactIsWithin
open Go.RowKit Go.Proofs.YtebkgebibammiaaW.PrintWords Go.Proofs.YtebkgebibammiaaW.PrintLast Go.Proofs.YtebkgebibammiaaW.PrintMore
attribute [local go_sem] max2_int min2_int max_two min_two max_three min_three max_four min_four   -- for this text's walks alone
set_option linter.unusedVariables false
set_option linter.unusedSimpArgs false

/-! ### impl_shareDemand: function 69 -/
mutual
def impl_shareDemand.l0 : Nat → List (S77) → List Bool → List Int → Int → List (S77) → Int → Int → Option (List Int × Bool)
 | 0, _, _, _, _, _, _, _ => none
 | k + 1, x0, x1, x8, x9, x19, x20, x21 => if x21 < x20 then (if 0 ≤ x21 then (if x21 < (x19.length : Int) then (if x21 < (x1.length : Int) then (if rdOf false x1 x21 = true then (if x21 < (x8.length : Int) then (impl_shareDemand.l0 k x0 x1 (x8.set (x21 : Int).toNat ((rd_T77 x19 x21).f1)) (wrap64 (x9 - ((rd_T77 x19 x21).f1))) x19 x20 (wrap64 (x21 + 1))) else (none)) else (impl_shareDemand.l0 k x0 x1 x8 x9 x19 x20 (wrap64 (x21 + 1)))) else (none)) else (none)) else (none)) else (if x9 < 0 then (some (([] : List Int), false)) else ((impl_meritOrder.f x0).bind fun t234 => (impl_shareDemand.l1 k x0 x1 x8 x9 t234 (t234.length : Int) 0)))
def impl_shareDemand.l1 : Nat → List (S77) → List Bool → List Int → Int → List Int → Int → Int → Option (List Int × Bool)
 | 0, _, _, _, _, _, _, _ => none
 | k + 1, x0, x1, x8, x9, x43, x44, x45 => if x45 < x44 then (if 0 ≤ x45 then (if x45 < (x43.length : Int) then (if 0 ≤ (rd x43 x45) then (if (rd x43 x45) < (x1.length : Int) then (if rdOf false x1 (rd x43 x45) = true then (if (rd x43 x45) < (x0.length : Int) then (if (rd x43 x45) < (x8.length : Int) then (impl_shareDemand.l1 k x0 x1 (x8.set ((rd x43 x45) : Int).toNat (wrap64 ((rd x8 (rd x43 x45)) + (mn (wrap64 (((rd_T77 x0 (rd x43 x45)).f2) - ((rd_T77 x0 (rd x43 x45)).f1))) x9)))) (wrap64 (x9 - (mn (wrap64 (((rd_T77 x0 (rd x43 x45)).f2) - ((rd_T77 x0 (rd x43 x45)).f1))) x9))) x43 x44 (wrap64 (x45 + 1))) else (none)) else (none)) else (impl_shareDemand.l1 k x0 x1 x8 x9 x43 x44 (wrap64 (x45 + 1)))) else (none)) else (none)) else (none)) else (none)) else (some (x8, (x9 == 0)))
end
def impl_shareDemand.f (k : Nat) (l0 : List (S77)) (l1 : List Bool) (a2 : Int) : Option (List Int × Bool) := if 0 ≤ (l0.length : Int) then (if ((l0.length : Int) : Int).toNat ≤ 35184372088832 then (impl_shareDemand.l0 k l0 l1 (List.replicate ((l0.length : Int) : Int).toNat 0) a2 l0 (l0.length : Int) 0) else (none)) else (none)
theorem impl_shareDemand.mono_l : ∀ k, (∀ y0 y1 y2 y3 y4 y5 y6, LeO (impl_shareDemand.l0 k y0 y1 y2 y3 y4 y5 y6) (impl_shareDemand.l0 (k + 1) y0 y1 y2 y3 y4 y5 y6)) ∧ (∀ y0 y1 y2 y3 y4 y5 y6, LeO (impl_shareDemand.l1 k y0 y1 y2 y3 y4 y5 y6) (impl_shareDemand.l1 (k + 1) y0 y1 y2 y3 y4 y5 y6))
 | 0 => ⟨fun _ _ _ _ _ _ _ r h => by simp [impl_shareDemand.l0] at h, fun _ _ _ _ _ _ _ r h => by simp [impl_shareDemand.l1] at h⟩
 | k + 1 => by
  obtain ⟨ih0, ih1⟩ := impl_shareDemand.mono_l k
  refine ⟨?_, ?_⟩
  ·
   intro y0 y1 y2 y3 y4 y5 y6
   unfold impl_shareDemand.l0
   repeat' first
   | (with_reducible exact ih0 _ _ _ _ _ _ _)
   | (with_reducible exact ih1 _ _ _ _ _ _ _)
   | (with_reducible exact LeO.refl _)
   | (with_reducible exact LeO.none _)
   | (with_reducible refine LeO.ite ?_ ?_)
   | (with_reducible refine LeO.bind ?_ (fun _ => ?_))
   | exact ih0 _ _ _ _ _ _ _
   | exact ih1 _ _ _ _ _ _ _
   | exact LeO.none _
   | refine LeO.ite ?_ ?_
   | refine LeO.bind ?_ (fun _ => ?_)
  ·
   intro y0 y1 y2 y3 y4 y5 y6
   unfold impl_shareDemand.l1
   repeat' first
   | (with_reducible exact ih0 _ _ _ _ _ _ _)
   | (with_reducible exact ih1 _ _ _ _ _ _ _)
   | (with_reducible exact LeO.refl _)
   | (with_reducible exact LeO.none _)
   | (with_reducible refine LeO.ite ?_ ?_)
   | (with_reducible refine LeO.bind ?_ (fun _ => ?_))
   | exact ih0 _ _ _ _ _ _ _
   | exact ih1 _ _ _ _ _ _ _
   | exact LeO.none _
   | refine LeO.ite ?_ ?_
   | refine LeO.bind ?_ (fun _ => ?_)
theorem impl_shareDemand.mono : ∀ a0 a1 a2 k, LeO (impl_shareDemand.f k a0 a1 a2) (impl_shareDemand.f (k + 1) a0 a1 a2) := by
 intro a0 a1 a2 k
 obtain ⟨ih0, ih1⟩ := impl_shareDemand.mono_l k
 unfold impl_shareDemand.f
 repeat' first
   | (with_reducible exact ih0 _ _ _ _ _ _ _)
   | (with_reducible exact ih1 _ _ _ _ _ _ _)
   | (with_reducible exact LeO.refl _)
   | (with_reducible exact LeO.none _)
   | (with_reducible refine LeO.ite ?_ ?_)
   | (with_reducible refine LeO.bind ?_ (fun _ => ?_))
   | exact ih0 _ _ _ _ _ _ _
   | exact ih1 _ _ _ _ _ _ _
   | exact LeO.none _
   | refine LeO.ite ?_ ?_
   | refine LeO.bind ?_ (fun _ => ?_)
set_option maxHeartbeats 8000000 in
set_option maxRecDepth 100000 in
theorem impl_shareDemand.calls (k : Nat) (A0 : Option Addr) (c0 : Nat) (l0 : List (S77)) (A1 : Option Addr) (c1 : Nat) (l1 : List Bool) (a2 : Int) (r1 : List Int) (r2 : Bool) (w : World) (hr0 : Kd.C k77 w A0 l0.length l0) (hc0 : l0.length ≤ c0) (hr1 : Kd.C Kd.bool w A1 l1.length l1) (hc1 : l1.length ≤ c1) (h : impl_shareDemand.f k l0 l1 a2 = some (r1, r2)) :
  Calls Try.prog 69 #[.slice A0 l0.length c0, .slice A1 l1.length c1, .int .i64 a2] w fun e w' => ∃ v0_ : Value, e = .returned (.tuple #[v0_, .bool r2]) ∧ Kd.R (Kd.int .i64) 2 w' w.heap.size (fun _ => True) v0_ r1 ∧ Below w.heap.size w w' := by
 have hu77 := Try.underlying77
 have HR0 := Aside0.mk hr0
 have HC0 := Aside0.mk hc0
 clear hr0 hc0
 have HR1 := Aside0.mk hr1
 have HC1 := Aside0.mk hc1
 clear hr1 hc1
 have HB := Aside0.mk (Below.refl w.heap.size w)
 have H : (if 0 ≤ (l0.length : Int) then (if ((l0.length : Int) : Int).toNat ≤ 35184372088832 then (impl_shareDemand.l0 k l0 l1 (List.replicate ((l0.length : Int) : Int).toNat 0) a2 l0 (l0.length : Int) 0) else (none)) else (none)) = some (r1, r2) := h
 clear h
 by_cases c4 : 0 ≤ (l0.length : Int)
 ·
  rw [if_pos c4] at H
  have c4b0 := eq_true c4
  have c4b1 : decide (0 ≤ (l0.length : Int)) = true := decide_eq_true c4
  clear c4
  by_cases c5 : ((l0.length : Int) : Int).toNat ≤ 35184372088832
  ·
   rw [if_pos c5] at H
   have c5b0 := eq_true c5
   have c5b1 : decide (((l0.length : Int) : Int).toNat ≤ 35184372088832) = true := decide_eq_true c5
   clear c5
   obtain ⟨y227, hy227⟩ : ∃ y_ : List Int, y_ = (List.replicate ((l0.length : Int) : Int).toNat 0) := ⟨_, rfl⟩
   replace H : (impl_shareDemand.l0 k l0 l1 y227 a2 l0 (l0.length : Int) 0) = some (r1, r2) := by first | (rw [hy227]; with_reducible exact H) | (have H2_ := (Option.bind_some _ _).symm.trans H; rw [hy227]; with_reducible exact H2_) | (have H2_ := (Option.bind_some _ _).symm.trans H; with_reducible exact H2_) | with_reducible exact H | (rw [hy227]; exact H) | exact H
   have Ny227 := Aside0.mk hy227
   clear hy227
   have H' := Aside0.mk H
   clear H
   go_enter Try.func69, Try.ntmps69
   go_wp2_with (first | ((with_reducible refine gate_dst (N := 17) rfl ?_); refine Kd.R_make (Kd.int .i64) _ 2 rfl (N := 17) rfl 23 _ _ rfl (l0.length : Int) rfl rfl Try.underlying23 (.int .i64 0) 8 info2 rfl (by decide) (by omega) 0 (ok := fun _ => True) (okp := fun _ => True) rfl (fun _ hk => hk) trivial (of_decide_eq_true as_) (Nat.le_trans (Nat.mul_le_mul_right _ (of_decide_eq_true as_ : (l0.length : Int).toNat ≤ 35184372088832)) (by omega)) (Below.refl _ _) (Nat.le_refl _) ?_; intro v228 w6 ho7 hb hg_ hnew_; clear hg_ hnew_; (first | rw [← Ny227.out] at ho7 | (simp only [Int.reduceToNat] at ho7; rw [← Ny227.out] at ho7)); have n0_ := Aside0.mk (Kd.R_lower ho7 (below_size bB_)); have n1_ := Aside0.mk (below_step bB_ hb); clear HB; have HO229 := n0_; have HB := n1_; clear n0_ n1_; clear hb ho7))
   repeat (go_quiet (first | ((with_reducible refine gate_dst (N := 17) rfl ?_); refine Kd.R_make (Kd.int .i64) _ 2 rfl (N := 17) rfl 23 _ _ rfl (l0.length : Int) rfl rfl Try.underlying23 (.int .i64 0) 8 info2 rfl (by decide) (by omega) 0 (ok := fun _ => True) (okp := fun _ => True) rfl (fun _ hk => hk) trivial (of_decide_eq_true as_) (Nat.le_trans (Nat.mul_le_mul_right _ (of_decide_eq_true as_ : (l0.length : Int).toNat ≤ 35184372088832)) (by omega)) (Below.refl _ _) (Nat.le_refl _) ?_; intro v228 w6 ho7 hb hg_ hnew_; clear hg_ hnew_; (first | rw [← Ny227.out] at ho7 | (simp only [Int.reduceToNat] at ho7; rw [← Ny227.out] at ho7)); have n0_ := Aside0.mk (Kd.R_lower ho7 (below_size bB_)); have n1_ := Aside0.mk (below_step bB_ hb); clear HB; have HO229 := n0_; have HB := n1_; clear n0_ n1_; clear hb ho7)); try go_wp2_with (first | ((with_reducible refine gate_dst (N := 17) rfl ?_); refine Kd.R_make (Kd.int .i64) _ 2 rfl (N := 17) rfl 23 _ _ rfl (l0.length : Int) rfl rfl Try.underlying23 (.int .i64 0) 8 info2 rfl (by decide) (by omega) 0 (ok := fun _ => True) (okp := fun _ => True) rfl (fun _ hk => hk) trivial (of_decide_eq_true as_) (Nat.le_trans (Nat.mul_le_mul_right _ (of_decide_eq_true as_ : (l0.length : Int).toNat ≤ 35184372088832)) (by omega)) (Below.refl _ _) (Nat.le_refl _) ?_; intro v228 w6 ho7 hb hg_ hnew_; clear hg_ hnew_; (first | rw [← Ny227.out] at ho7 | (simp only [Int.reduceToNat] at ho7; rw [← Ny227.out] at ho7)); have n0_ := Aside0.mk (Kd.R_lower ho7 (below_size bB_)); have n1_ := Aside0.mk (below_step bB_ hb); clear HB; have HO229 := n0_; have HB := n1_; clear n0_ n1_; clear hb ho7)))
   go_loopg [9, 21] k (fun kq v9 v21 w' => ∃ (x8_1 : List Int) (x9_1 : Int) (x21_1 : Int), v9 = .int .i64 x9_1 ∧ v21 = .int .i64 x21_1 ∧ Aside0 (impl_shareDemand.l0 kq l0 l1 x8_1 x9_1 l0 (l0.length : Int) x21_1 = some (r1, r2)) ∧ Aside0 (kq ≤ k) ∧ Aside0 (Kd.R (Kd.int .i64) 2 w' w.heap.size (fun _ => True) v228 x8_1) ∧ Aside0 (Below w.heap.size w w'))
   case atStart => exact ⟨(y227), (a2), (0), rs_, rs_, H', ⟨Nat.le_refl _⟩, ⟨rA_ HO229.out⟩, ⟨bB_⟩⟩
   case round =>
    clear H'
    try clear c1
    try clear p2
    try clear c4
    try clear c4b0
    try clear c4b1
    try clear c5
    try clear c5b0
    try clear c5b1
    try clear c6
    obtain ⟨x8_1, x9_1, x21_1, rfl, rfl, HA, HK1, HO_8, HB⟩ := hrel
    cases gk with
    | zero => exact absurd HA.out (by simp [impl_shareDemand.l0])
    | succ k1 =>
     have H := HA.out
     clear HA
     simp only [impl_shareDemand.l0] at H
     by_cases c8 : x21_1 < (l0.length : Int)
     ·
      rw [if_pos c8] at H
      have c8b0 : decide (x21_1 < (l0.length : Int)) = true := decide_eq_true c8
      clear c8
      by_cases c9 : 0 ≤ x21_1
      ·
       rw [if_pos c9] at H
       have c9b0 : decide (0 ≤ x21_1) = true := decide_eq_true c9
       clear c9
       by_cases c10 : x21_1 < (l0.length : Int)
       ·
        rw [if_pos c10] at H
        have c10b0 : decide (x21_1 < (l0.length : Int)) = true := decide_eq_true c10
        clear c10
        by_cases c11 : x21_1 < (l1.length : Int)
        ·
         rw [if_pos c11] at H
         have c11b0 : decide (x21_1 < (l1.length : Int)) = true := decide_eq_true c11
         clear c11
         obtain ⟨bq12, hbq12⟩ : ∃ b_ : Bool, b_ = (rdOf false l1 x21_1) := ⟨_, rfl⟩
         replace H : (if bq12 = true then (if x21_1 < (x8_1.length : Int) then (impl_shareDemand.l0 k1 l0 l1 (x8_1.set (x21_1 : Int).toNat ((rd_T77 l0 x21_1).f1)) (wrap64 (x9_1 - ((rd_T77 l0 x21_1).f1))) l0 (l0.length : Int) (wrap64 (x21_1 + 1))) else (none)) else (impl_shareDemand.l0 k1 l0 l1 x8_1 x9_1 l0 (l0.length : Int) (wrap64 (x21_1 + 1)))) = some (r1, r2) := by rw [← hbq12] at H; exact H
         have Nbq12 := Aside0.mk hbq12
         clear hbq12
         by_cases c13 : bq12 = true
         ·
          subst c13
          have H1 : (if x21_1 < (x8_1.length : Int) then (impl_shareDemand.l0 k1 l0 l1 (x8_1.set (x21_1 : Int).toNat ((rd_T77 l0 x21_1).f1)) (wrap64 (x9_1 - ((rd_T77 l0 x21_1).f1))) l0 (l0.length : Int) (wrap64 (x21_1 + 1))) else (none)) = some (r1, r2) := by rw [if_pos rfl] at H; exact H
          clear H
          have H := H1
          clear H1
          by_cases c14 : x21_1 < (x8_1.length : Int)
          ·
           rw [if_pos c14] at H
           have c14b0 : decide (x21_1 < (x8_1.length : Int)) = true := decide_eq_true c14
           clear c14
           obtain ⟨y233, hy233⟩ : ∃ y_ : List Int, y_ = (x8_1.set (x21_1 : Int).toNat ((rd_T77 l0 x21_1).f1)) := ⟨_, rfl⟩
           replace H : (impl_shareDemand.l0 k1 l0 l1 y233 (wrap64 (x9_1 - ((rd_T77 l0 x21_1).f1))) l0 (l0.length : Int) (wrap64 (x21_1 + 1))) = some (r1, r2) := by first | (rw [hy233]; with_reducible exact H) | (have H2_ := (Option.bind_some _ _).symm.trans H; rw [hy233]; with_reducible exact H2_) | (have H2_ := (Option.bind_some _ _).symm.trans H; with_reducible exact H2_) | with_reducible exact H | (rw [hy233]; exact H) | exact H
           have Ny233 := Aside0.mk hy233
           clear hy233
           have H' := Aside0.mk H
           clear H
           have p230 : 0 ≤ (x21_1 : Int) := of_decide_eq_true as_
           have q230 : x21_1 < (l0.length : Int) := of_decide_eq_true as_
           obtain ⟨ad230, e230, hx230_0, hx230_1, hx230_2, hx230_3, hx230_4, hx230_5, hx230_6⟩ := at_T77 HR0.out x21_1 p230 q230
           cases e230
           replace hx230_0 := cl_ HB hx230_0
           replace hx230_1 := cl_ HB hx230_1
           replace hx230_2 := cl_ HB hx230_2
           replace hx230_3 := cl_ HB hx230_3
           replace hx230_4 := cl_ HB hx230_4
           replace hx230_5 := cl_ HB hx230_5
           replace hx230_6 := cl_ HB hx230_6
           replace p230 := eq_true p230
           replace q230 := eq_true q230
           go_wp2_with (first | ((with_reducible refine gate_dst (N := 11) rfl ?_); refine box_event ?hg (N := 11) ?hd (cs := #[.string (⟨#[]⟩ : ByteArray), .int .i64 0, .int .i64 0, .int .i64 0, .int .i64 0, .int .i64 0, .int .i64 0]) (t := 77) ?hr ?_; (case hd => rfl); (case hg => rfl); (case hr => first | (go_simp; done) | (go_simp; rfl)); intro gb231 hg w16 hbox hb; have n0_ := Aside0.mk (Kd.R_below (rA_ HO_8.out) hb); have n1_ := Aside0.mk (below_step bB_ hb); have n2_ := Aside0.mk (hbox); have n3_ := Aside0.mk ((by rw [hg]; exact (below_size bB_) : w.heap.size ≤ gb231)); have n4_ := Aside0.mk ((by rw [hg]; exact (below_size bB_) : w.heap.size ≤ gb231)); clear HO_8; clear HB; have HO_8 := n0_; have HB := n1_; have BK231 := n2_; have GW231 := n3_; have GE231 := n4_; clear n0_ n1_ n2_ n3_ n4_; clear hb hbox hg; have hcz17_0 : w16.cell? ⟨gb231, 0, none⟩ = some (.string (⟨#[]⟩ : ByteArray)) := (blk_cell BK231.out 0).trans rfl; have hcz17_1 : w16.cell? ⟨gb231, 1, none⟩ = some (.int .i64 0) := (blk_cell BK231.out 1).trans rfl; have hcz17_2 : w16.cell? ⟨gb231, 2, none⟩ = some (.int .i64 0) := (blk_cell BK231.out 2).trans rfl; have hcz17_3 : w16.cell? ⟨gb231, 3, none⟩ = some (.int .i64 0) := (blk_cell BK231.out 3).trans rfl; have hcz17_4 : w16.cell? ⟨gb231, 4, none⟩ = some (.int .i64 0) := (blk_cell BK231.out 4).trans rfl; have hcz17_5 : w16.cell? ⟨gb231, 5, none⟩ = some (.int .i64 0) := (blk_cell BK231.out 5).trans rfl; have hcz17_6 : w16.cell? ⟨gb231, 6, none⟩ = some (.int .i64 0) := (blk_cell BK231.out 6).trans rfl; have hfz17_0 := blk_frozen BK231.out 0; have hfz17_1 := blk_frozen BK231.out 1; have hfz17_2 := blk_frozen BK231.out 2; have hfz17_3 := blk_frozen BK231.out 3; have hfz17_4 := blk_frozen BK231.out 4; have hfz17_5 := blk_frozen BK231.out 5; have hfz17_6 := blk_frozen BK231.out 6) | ((with_reducible refine gate_store (t := 77) (p := 11) rfl ?_); (try (rw [drewN_self w16]; generalize hq_ : World.drewN w16 _ = w16; have n0_ := Aside0.mk (Kd.R_at hq_ HO_8.out); have n1_ := Aside0.mk (blk_at hq_ BK231.out); have n2_ := Aside0.mk (below_at hq_ HB.out); clear hq_ HO_8 BK231 HB; have HO_8 := n0_; have BK231 := n1_; have HB := n2_; clear n0_ n1_ n2_)); refine store_event (t := 77) (p := 11) (v := ?vo_w18) (w1 := (((((((w16.setCell ⟨gb231, 0, none⟩ (.string ((rd_T77 l0 x21_1).f0))).setCell ⟨gb231, 1, none⟩ (.int .i64 ((rd_T77 l0 x21_1).f1))).setCell ⟨gb231, 2, none⟩ (.int .i64 ((rd_T77 l0 x21_1).f2))).setCell ⟨gb231, 3, none⟩ (.int .i64 ((rd_T77 l0 x21_1).f3))).setCell ⟨gb231, 4, none⟩ (.int .i64 ((rd_T77 l0 x21_1).f4))).setCell ⟨gb231, 5, none⟩ (.int .i64 ((rd_T77 l0 x21_1).f5))).setCell ⟨gb231, 6, none⟩ (.int .i64 ((rd_T77 l0 x21_1).f6)))) ?hg ?ho ?hn ?hr ?_; (case ho => rfl); (case hg => rfl); (case hn => rfl); (case hr => first | (go_simp; done) | (go_simp; rfl)); intro w18 hw; have n0_ : Aside0 (Kd.R (Kd.int .i64) 2 w18 w.heap.size (fun _ => True) v228 x8_1) := ⟨(by rw [hw]; exact (by (with_reducible repeat (first | apply Kd.R_alloc | apply Kd.R_drewN | apply Kd.R_drew)); exact Kd.R_mono (Kd.R_far (p := ⟨gb231, 6, none⟩) (Kd.R_far (p := ⟨gb231, 5, none⟩) (Kd.R_far (p := ⟨gb231, 4, none⟩) (Kd.R_far (p := ⟨gb231, 3, none⟩) (Kd.R_far (p := ⟨gb231, 2, none⟩) (Kd.R_far (p := ⟨gb231, 1, none⟩) (Kd.R_far (p := ⟨gb231, 0, none⟩) (Kd.R_types HO_8.out BK231.out (by decide)) (fun _ hk => hk.2) (.string ((rd_T77 l0 x21_1).f0))) (fun _ hk => hk.2) (.int .i64 ((rd_T77 l0 x21_1).f1))) (fun _ hk => hk.2) (.int .i64 ((rd_T77 l0 x21_1).f2))) (fun _ hk => hk.2) (.int .i64 ((rd_T77 l0 x21_1).f3))) (fun _ hk => hk.2) (.int .i64 ((rd_T77 l0 x21_1).f4))) (fun _ hk => hk.2) (.int .i64 ((rd_T77 l0 x21_1).f5))) (fun _ hk => hk.2) (.int .i64 ((rd_T77 l0 x21_1).f6))) (fun _ hk => trivial)))⟩; have n1_ : Aside0 (w18.heap[gb231]? = some (.cells #[.string ((rd_T77 l0 x21_1).f0), .int .i64 ((rd_T77 l0 x21_1).f1), .int .i64 ((rd_T77 l0 x21_1).f2), .int .i64 ((rd_T77 l0 x21_1).f3), .int .i64 ((rd_T77 l0 x21_1).f4), .int .i64 ((rd_T77 l0 x21_1).f5), .int .i64 ((rd_T77 l0 x21_1).f6)] 77 (0, 0))) := ⟨(by rw [hw]; exact (by (with_reducible repeat (first | refine blk_drewN ?_ _ | refine blk_drew ?_ | refine blk_alloc ?_ _)); refine blk_put (cs := #[.string ((rd_T77 l0 x21_1).f0), .int .i64 ((rd_T77 l0 x21_1).f1), .int .i64 ((rd_T77 l0 x21_1).f2), .int .i64 ((rd_T77 l0 x21_1).f3), .int .i64 ((rd_T77 l0 x21_1).f4), .int .i64 ((rd_T77 l0 x21_1).f5), .int .i64 0]) ?_ 6 _ rfl; (with_reducible repeat (first | refine blk_drewN ?_ _ | refine blk_drew ?_ | refine blk_alloc ?_ _)); refine blk_put (cs := #[.string ((rd_T77 l0 x21_1).f0), .int .i64 ((rd_T77 l0 x21_1).f1), .int .i64 ((rd_T77 l0 x21_1).f2), .int .i64 ((rd_T77 l0 x21_1).f3), .int .i64 ((rd_T77 l0 x21_1).f4), .int .i64 0, .int .i64 0]) ?_ 5 _ rfl; (with_reducible repeat (first | refine blk_drewN ?_ _ | refine blk_drew ?_ | refine blk_alloc ?_ _)); refine blk_put (cs := #[.string ((rd_T77 l0 x21_1).f0), .int .i64 ((rd_T77 l0 x21_1).f1), .int .i64 ((rd_T77 l0 x21_1).f2), .int .i64 ((rd_T77 l0 x21_1).f3), .int .i64 0, .int .i64 0, .int .i64 0]) ?_ 4 _ rfl; (with_reducible repeat (first | refine blk_drewN ?_ _ | refine blk_drew ?_ | refine blk_alloc ?_ _)); refine blk_put (cs := #[.string ((rd_T77 l0 x21_1).f0), .int .i64 ((rd_T77 l0 x21_1).f1), .int .i64 ((rd_T77 l0 x21_1).f2), .int .i64 0, .int .i64 0, .int .i64 0, .int .i64 0]) ?_ 3 _ rfl; (with_reducible repeat (first | refine blk_drewN ?_ _ | refine blk_drew ?_ | refine blk_alloc ?_ _)); refine blk_put (cs := #[.string ((rd_T77 l0 x21_1).f0), .int .i64 ((rd_T77 l0 x21_1).f1), .int .i64 0, .int .i64 0, .int .i64 0, .int .i64 0, .int .i64 0]) ?_ 2 _ rfl; (with_reducible repeat (first | refine blk_drewN ?_ _ | refine blk_drew ?_ | refine blk_alloc ?_ _)); refine blk_put (cs := #[.string ((rd_T77 l0 x21_1).f0), .int .i64 0, .int .i64 0, .int .i64 0, .int .i64 0, .int .i64 0, .int .i64 0]) ?_ 1 _ rfl; (with_reducible repeat (first | refine blk_drewN ?_ _ | refine blk_drew ?_ | refine blk_alloc ?_ _)); refine blk_put (cs := #[.string (⟨#[]⟩ : ByteArray), .int .i64 0, .int .i64 0, .int .i64 0, .int .i64 0, .int .i64 0, .int .i64 0]) ?_ 0 _ rfl; (with_reducible repeat (first | refine blk_drewN ?_ _ | refine blk_drew ?_ | refine blk_alloc ?_ _)); exact BK231.out))⟩; have n2_ : Aside0 (Below w.heap.size w w18) := ⟨(by rw [hw]; exact (bC_ GE231.out))⟩; clear hw; clear HO_8; clear BK231; clear HB; have HO_8 := n0_; have BK231 := n1_; have HB := n2_; clear n0_ n1_ n2_; have p232 : 0 ≤ (x21_1 : Int) := of_decide_eq_true as_; have q232 : x21_1 < (l1.length : Int) := of_decide_eq_true as_; obtain ⟨ad232, e232, hx232_0⟩ := Kd.at_bool HR1.out x21_1 p232 q232; (try rw [← Nbq12.out] at hx232_0); cases e232; replace hx232_0 := cl_ HB hx232_0; replace p232 := eq_true p232; replace q232 := eq_true q232; have hcz19_0 : w18.cell? ⟨gb231, 0, none⟩ = some (.string ((rd_T77 l0 x21_1).f0)) := (blk_cell BK231.out 0).trans rfl; have hcz19_1 : w18.cell? ⟨gb231, 1, none⟩ = some (.int .i64 ((rd_T77 l0 x21_1).f1)) := (blk_cell BK231.out 1).trans rfl; have hcz19_2 : w18.cell? ⟨gb231, 2, none⟩ = some (.int .i64 ((rd_T77 l0 x21_1).f2)) := (blk_cell BK231.out 2).trans rfl; have hcz19_3 : w18.cell? ⟨gb231, 3, none⟩ = some (.int .i64 ((rd_T77 l0 x21_1).f3)) := (blk_cell BK231.out 3).trans rfl; have hcz19_4 : w18.cell? ⟨gb231, 4, none⟩ = some (.int .i64 ((rd_T77 l0 x21_1).f4)) := (blk_cell BK231.out 4).trans rfl; have hcz19_5 : w18.cell? ⟨gb231, 5, none⟩ = some (.int .i64 ((rd_T77 l0 x21_1).f5)) := (blk_cell BK231.out 5).trans rfl; have hcz19_6 : w18.cell? ⟨gb231, 6, none⟩ = some (.int .i64 ((rd_T77 l0 x21_1).f6)) := (blk_cell BK231.out 6).trans rfl; have hfz19_0 := blk_frozen BK231.out 0; have hfz19_1 := blk_frozen BK231.out 1; have hfz19_2 := blk_frozen BK231.out 2; have hfz19_3 := blk_frozen BK231.out 3; have hfz19_4 := blk_frozen BK231.out 4; have hfz19_5 := blk_frozen BK231.out 5; have hfz19_6 := blk_frozen BK231.out 6; have p15 : 0 ≤ (x21_1 : Int) := of_decide_eq_true as_; have q15 : (x21_1 : Int) < ((x8_1.length : Int) : Int) := of_decide_eq_true as_; obtain ⟨go15, co15, eo15, gb15, gl15, cl15, HG15⟩ := Kd.R_form HO_8.out (by omega); (first | cases eo15 | (injection eo15 with ea_ en_ ec_; (first | subst ea_ | (injection ea_ with ea_; subst ea_)); subst ec_; clear en_)); have GB15 := Aside0.mk gb15; have GG15 := Aside0.mk HG15; clear gb15 gl15 HG15; obtain ⟨hx15_0, hf15_0⟩ := Kd.R_celln 0 HO_8.out (x21_1 : Int) p15 q15; replace p15 := eq_true p15; replace q15 := eq_true q15; obtain ⟨hy20_, hz20_⟩ := Kd.R_celln 0 HO_8.out (x21_1 : Int) (of_decide_eq_true as_) (of_decide_eq_true as_); have HP20 := Kd.R_putg HO_8.out (x21_1 : Int) ((rd_T77 l0 x21_1).f1)) | ((with_reducible refine gate_store (t := 2) (p := 34) rfl ?_); (try (rw [drewN_self w18]; generalize hq_ : World.drewN w18 _ = w18; have n0_ := Aside0.mk (Kd.R_at hq_ HO_8.out); have n1_ := Aside0.mk (blk_at hq_ BK231.out); have n2_ := Aside0.mk (below_at hq_ HB.out); clear hq_ HO_8 BK231 HB; have HO_8 := n0_; have BK231 := n1_; have HB := n2_; clear n0_ n1_ n2_; (try (obtain ⟨hy20_, hz20_⟩ := Kd.R_celln 0 HO_8.out (x21_1 : Int) (of_decide_eq_true as_) (of_decide_eq_true as_))); (try (have HP20 := Kd.R_putg HO_8.out (x21_1 : Int) ((rd_T77 l0 x21_1).f1))))); refine store_event (t := 2) (p := 34) (v := ?vo_w21) (w1 := (w18.setCell ⟨go15, (x21_1 : Int).toNat, none⟩ (.int .i64 ((rd_T77 l0 x21_1).f1)))) ?hg ?ho ?hn ?hr ?_; (case ho => rfl); (case hg => rfl); (case hn => rfl); (case hr => first | (go_simp; done) | (go_simp; rfl)); intro w21 hw; have hg : w18.grownBy w21 (some go15) := (by rw [hw]; exact HP20.2); have hp_ : Kd.R (Kd.int .i64) 2 w21 w.heap.size (fun _ => True) (.slice (some ⟨go15, 0, none⟩) x8_1.length co15) y233 := (by rw [hw, Ny233.out]; exact HP20.1); clear HP20; have n0_ := Aside0.mk (hp_); have n1_ := Aside0.mk (blk_grown (g := gb231) (o := .cells #[.string ((rd_T77 l0 x21_1).f0), .int .i64 ((rd_T77 l0 x21_1).f1), .int .i64 ((rd_T77 l0 x21_1).f2), .int .i64 ((rd_T77 l0 x21_1).f3), .int .i64 ((rd_T77 l0 x21_1).f4), .int .i64 ((rd_T77 l0 x21_1).f5), .int .i64 ((rd_T77 l0 x21_1).f6)] 77 (0, 0)) (bK_ BK231.out) hg (Kd.R_ne HO_8.out BK231.out (by decide))); have n2_ := Aside0.mk ((by rw [hw]; exact below_set (HB.out) GB15.out : Below w.heap.size w w21)); clear HO_8; clear BK231; clear HB; have HO_8 := n0_; have BK231 := n1_; have HB := n2_; clear n0_ n1_ n2_; clear hg hw hp_; have hcz22_0 : w21.cell? ⟨gb231, 0, none⟩ = some (.string ((rd_T77 l0 x21_1).f0)) := (blk_cell BK231.out 0).trans rfl; have hcz22_1 : w21.cell? ⟨gb231, 1, none⟩ = some (.int .i64 ((rd_T77 l0 x21_1).f1)) := (blk_cell BK231.out 1).trans rfl; have hcz22_2 : w21.cell? ⟨gb231, 2, none⟩ = some (.int .i64 ((rd_T77 l0 x21_1).f2)) := (blk_cell BK231.out 2).trans rfl; have hcz22_3 : w21.cell? ⟨gb231, 3, none⟩ = some (.int .i64 ((rd_T77 l0 x21_1).f3)) := (blk_cell BK231.out 3).trans rfl; have hcz22_4 : w21.cell? ⟨gb231, 4, none⟩ = some (.int .i64 ((rd_T77 l0 x21_1).f4)) := (blk_cell BK231.out 4).trans rfl; have hcz22_5 : w21.cell? ⟨gb231, 5, none⟩ = some (.int .i64 ((rd_T77 l0 x21_1).f5)) := (blk_cell BK231.out 5).trans rfl; have hcz22_6 : w21.cell? ⟨gb231, 6, none⟩ = some (.int .i64 ((rd_T77 l0 x21_1).f6)) := (blk_cell BK231.out 6).trans rfl; have hfz22_0 := blk_frozen BK231.out 0; have hfz22_1 := blk_frozen BK231.out 1; have hfz22_2 := blk_frozen BK231.out 2; have hfz22_3 := blk_frozen BK231.out 3; have hfz22_4 := blk_frozen BK231.out 4; have hfz22_5 := blk_frozen BK231.out 5; have hfz22_6 := blk_frozen BK231.out 6))
           repeat (go_quiet (first | ((with_reducible refine gate_dst (N := 11) rfl ?_); refine box_event ?hg (N := 11) ?hd (cs := #[.string (⟨#[]⟩ : ByteArray), .int .i64 0, .int .i64 0, .int .i64 0, .int .i64 0, .int .i64 0, .int .i64 0]) (t := 77) ?hr ?_; (case hd => rfl); (case hg => rfl); (case hr => first | (go_simp; done) | (go_simp; rfl)); intro gb231 hg w16 hbox hb; have n0_ := Aside0.mk (Kd.R_below (rA_ HO_8.out) hb); have n1_ := Aside0.mk (below_step bB_ hb); have n2_ := Aside0.mk (hbox); have n3_ := Aside0.mk ((by rw [hg]; exact (below_size bB_) : w.heap.size ≤ gb231)); have n4_ := Aside0.mk ((by rw [hg]; exact (below_size bB_) : w.heap.size ≤ gb231)); clear HO_8; clear HB; have HO_8 := n0_; have HB := n1_; have BK231 := n2_; have GW231 := n3_; have GE231 := n4_; clear n0_ n1_ n2_ n3_ n4_; clear hb hbox hg; have hcz17_0 : w16.cell? ⟨gb231, 0, none⟩ = some (.string (⟨#[]⟩ : ByteArray)) := (blk_cell BK231.out 0).trans rfl; have hcz17_1 : w16.cell? ⟨gb231, 1, none⟩ = some (.int .i64 0) := (blk_cell BK231.out 1).trans rfl; have hcz17_2 : w16.cell? ⟨gb231, 2, none⟩ = some (.int .i64 0) := (blk_cell BK231.out 2).trans rfl; have hcz17_3 : w16.cell? ⟨gb231, 3, none⟩ = some (.int .i64 0) := (blk_cell BK231.out 3).trans rfl; have hcz17_4 : w16.cell? ⟨gb231, 4, none⟩ = some (.int .i64 0) := (blk_cell BK231.out 4).trans rfl; have hcz17_5 : w16.cell? ⟨gb231, 5, none⟩ = some (.int .i64 0) := (blk_cell BK231.out 5).trans rfl; have hcz17_6 : w16.cell? ⟨gb231, 6, none⟩ = some (.int .i64 0) := (blk_cell BK231.out 6).trans rfl; have hfz17_0 := blk_frozen BK231.out 0; have hfz17_1 := blk_frozen BK231.out 1; have hfz17_2 := blk_frozen BK231.out 2; have hfz17_3 := blk_frozen BK231.out 3; have hfz17_4 := blk_frozen BK231.out 4; have hfz17_5 := blk_frozen BK231.out 5; have hfz17_6 := blk_frozen BK231.out 6) | ((with_reducible refine gate_store (t := 77) (p := 11) rfl ?_); (try (rw [drewN_self w16]; generalize hq_ : World.drewN w16 _ = w16; have n0_ := Aside0.mk (Kd.R_at hq_ HO_8.out); have n1_ := Aside0.mk (blk_at hq_ BK231.out); have n2_ := Aside0.mk (below_at hq_ HB.out); clear hq_ HO_8 BK231 HB; have HO_8 := n0_; have BK231 := n1_; have HB := n2_; clear n0_ n1_ n2_)); refine store_event (t := 77) (p := 11) (v := ?vo_w18) (w1 := (((((((w16.setCell ⟨gb231, 0, none⟩ (.string ((rd_T77 l0 x21_1).f0))).setCell ⟨gb231, 1, none⟩ (.int .i64 ((rd_T77 l0 x21_1).f1))).setCell ⟨gb231, 2, none⟩ (.int .i64 ((rd_T77 l0 x21_1).f2))).setCell ⟨gb231, 3, none⟩ (.int .i64 ((rd_T77 l0 x21_1).f3))).setCell ⟨gb231, 4, none⟩ (.int .i64 ((rd_T77 l0 x21_1).f4))).setCell ⟨gb231, 5, none⟩ (.int .i64 ((rd_T77 l0 x21_1).f5))).setCell ⟨gb231, 6, none⟩ (.int .i64 ((rd_T77 l0 x21_1).f6)))) ?hg ?ho ?hn ?hr ?_; (case ho => rfl); (case hg => rfl); (case hn => rfl); (case hr => first | (go_simp; done) | (go_simp; rfl)); intro w18 hw; have n0_ : Aside0 (Kd.R (Kd.int .i64) 2 w18 w.heap.size (fun _ => True) v228 x8_1) := ⟨(by rw [hw]; exact (by (with_reducible repeat (first | apply Kd.R_alloc | apply Kd.R_drewN | apply Kd.R_drew)); exact Kd.R_mono (Kd.R_far (p := ⟨gb231, 6, none⟩) (Kd.R_far (p := ⟨gb231, 5, none⟩) (Kd.R_far (p := ⟨gb231, 4, none⟩) (Kd.R_far (p := ⟨gb231, 3, none⟩) (Kd.R_far (p := ⟨gb231, 2, none⟩) (Kd.R_far (p := ⟨gb231, 1, none⟩) (Kd.R_far (p := ⟨gb231, 0, none⟩) (Kd.R_types HO_8.out BK231.out (by decide)) (fun _ hk => hk.2) (.string ((rd_T77 l0 x21_1).f0))) (fun _ hk => hk.2) (.int .i64 ((rd_T77 l0 x21_1).f1))) (fun _ hk => hk.2) (.int .i64 ((rd_T77 l0 x21_1).f2))) (fun _ hk => hk.2) (.int .i64 ((rd_T77 l0 x21_1).f3))) (fun _ hk => hk.2) (.int .i64 ((rd_T77 l0 x21_1).f4))) (fun _ hk => hk.2) (.int .i64 ((rd_T77 l0 x21_1).f5))) (fun _ hk => hk.2) (.int .i64 ((rd_T77 l0 x21_1).f6))) (fun _ hk => trivial)))⟩; have n1_ : Aside0 (w18.heap[gb231]? = some (.cells #[.string ((rd_T77 l0 x21_1).f0), .int .i64 ((rd_T77 l0 x21_1).f1), .int .i64 ((rd_T77 l0 x21_1).f2), .int .i64 ((rd_T77 l0 x21_1).f3), .int .i64 ((rd_T77 l0 x21_1).f4), .int .i64 ((rd_T77 l0 x21_1).f5), .int .i64 ((rd_T77 l0 x21_1).f6)] 77 (0, 0))) := ⟨(by rw [hw]; exact (by (with_reducible repeat (first | refine blk_drewN ?_ _ | refine blk_drew ?_ | refine blk_alloc ?_ _)); refine blk_put (cs := #[.string ((rd_T77 l0 x21_1).f0), .int .i64 ((rd_T77 l0 x21_1).f1), .int .i64 ((rd_T77 l0 x21_1).f2), .int .i64 ((rd_T77 l0 x21_1).f3), .int .i64 ((rd_T77 l0 x21_1).f4), .int .i64 ((rd_T77 l0 x21_1).f5), .int .i64 0]) ?_ 6 _ rfl; (with_reducible repeat (first | refine blk_drewN ?_ _ | refine blk_drew ?_ | refine blk_alloc ?_ _)); refine blk_put (cs := #[.string ((rd_T77 l0 x21_1).f0), .int .i64 ((rd_T77 l0 x21_1).f1), .int .i64 ((rd_T77 l0 x21_1).f2), .int .i64 ((rd_T77 l0 x21_1).f3), .int .i64 ((rd_T77 l0 x21_1).f4), .int .i64 0, .int .i64 0]) ?_ 5 _ rfl; (with_reducible repeat (first | refine blk_drewN ?_ _ | refine blk_drew ?_ | refine blk_alloc ?_ _)); refine blk_put (cs := #[.string ((rd_T77 l0 x21_1).f0), .int .i64 ((rd_T77 l0 x21_1).f1), .int .i64 ((rd_T77 l0 x21_1).f2), .int .i64 ((rd_T77 l0 x21_1).f3), .int .i64 0, .int .i64 0, .int .i64 0]) ?_ 4 _ rfl; (with_reducible repeat (first | refine blk_drewN ?_ _ | refine blk_drew ?_ | refine blk_alloc ?_ _)); refine blk_put (cs := #[.string ((rd_T77 l0 x21_1).f0), .int .i64 ((rd_T77 l0 x21_1).f1), .int .i64 ((rd_T77 l0 x21_1).f2), .int .i64 0, .int .i64 0, .int .i64 0, .int .i64 0]) ?_ 3 _ rfl; (with_reducible repeat (first | refine blk_drewN ?_ _ | refine blk_drew ?_ | refine blk_alloc ?_ _)); refine blk_put (cs := #[.string ((rd_T77 l0 x21_1).f0), .int .i64 ((rd_T77 l0 x21_1).f1), .int .i64 0, .int .i64 0, .int .i64 0, .int .i64 0, .int .i64 0]) ?_ 2 _ rfl; (with_reducible repeat (first | refine blk_drewN ?_ _ | refine blk_drew ?_ | refine blk_alloc ?_ _)); refine blk_put (cs := #[.string ((rd_T77 l0 x21_1).f0), .int .i64 0, .int .i64 0, .int .i64 0, .int .i64 0, .int .i64 0, .int .i64 0]) ?_ 1 _ rfl; (with_reducible repeat (first | refine blk_drewN ?_ _ | refine blk_drew ?_ | refine blk_alloc ?_ _)); refine blk_put (cs := #[.string (⟨#[]⟩ : ByteArray), .int .i64 0, .int .i64 0, .int .i64 0, .int .i64 0, .int .i64 0, .int .i64 0]) ?_ 0 _ rfl; (with_reducible repeat (first | refine blk_drewN ?_ _ | refine blk_drew ?_ | refine blk_alloc ?_ _)); exact BK231.out))⟩; have n2_ : Aside0 (Below w.heap.size w w18) := ⟨(by rw [hw]; exact (bC_ GE231.out))⟩; clear hw; clear HO_8; clear BK231; clear HB; have HO_8 := n0_; have BK231 := n1_; have HB := n2_; clear n0_ n1_ n2_; have p232 : 0 ≤ (x21_1 : Int) := of_decide_eq_true as_; have q232 : x21_1 < (l1.length : Int) := of_decide_eq_true as_; obtain ⟨ad232, e232, hx232_0⟩ := Kd.at_bool HR1.out x21_1 p232 q232; (try rw [← Nbq12.out] at hx232_0); cases e232; replace hx232_0 := cl_ HB hx232_0; replace p232 := eq_true p232; replace q232 := eq_true q232; have hcz19_0 : w18.cell? ⟨gb231, 0, none⟩ = some (.string ((rd_T77 l0 x21_1).f0)) := (blk_cell BK231.out 0).trans rfl; have hcz19_1 : w18.cell? ⟨gb231, 1, none⟩ = some (.int .i64 ((rd_T77 l0 x21_1).f1)) := (blk_cell BK231.out 1).trans rfl; have hcz19_2 : w18.cell? ⟨gb231, 2, none⟩ = some (.int .i64 ((rd_T77 l0 x21_1).f2)) := (blk_cell BK231.out 2).trans rfl; have hcz19_3 : w18.cell? ⟨gb231, 3, none⟩ = some (.int .i64 ((rd_T77 l0 x21_1).f3)) := (blk_cell BK231.out 3).trans rfl; have hcz19_4 : w18.cell? ⟨gb231, 4, none⟩ = some (.int .i64 ((rd_T77 l0 x21_1).f4)) := (blk_cell BK231.out 4).trans rfl; have hcz19_5 : w18.cell? ⟨gb231, 5, none⟩ = some (.int .i64 ((rd_T77 l0 x21_1).f5)) := (blk_cell BK231.out 5).trans rfl; have hcz19_6 : w18.cell? ⟨gb231, 6, none⟩ = some (.int .i64 ((rd_T77 l0 x21_1).f6)) := (blk_cell BK231.out 6).trans rfl; have hfz19_0 := blk_frozen BK231.out 0; have hfz19_1 := blk_frozen BK231.out 1; have hfz19_2 := blk_frozen BK231.out 2; have hfz19_3 := blk_frozen BK231.out 3; have hfz19_4 := blk_frozen BK231.out 4; have hfz19_5 := blk_frozen BK231.out 5; have hfz19_6 := blk_frozen BK231.out 6; have p15 : 0 ≤ (x21_1 : Int) := of_decide_eq_true as_; have q15 : (x21_1 : Int) < ((x8_1.length : Int) : Int) := of_decide_eq_true as_; obtain ⟨go15, co15, eo15, gb15, gl15, cl15, HG15⟩ := Kd.R_form HO_8.out (by omega); (first | cases eo15 | (injection eo15 with ea_ en_ ec_; (first | subst ea_ | (injection ea_ with ea_; subst ea_)); subst ec_; clear en_)); have GB15 := Aside0.mk gb15; have GG15 := Aside0.mk HG15; clear gb15 gl15 HG15; obtain ⟨hx15_0, hf15_0⟩ := Kd.R_celln 0 HO_8.out (x21_1 : Int) p15 q15; replace p15 := eq_true p15; replace q15 := eq_true q15; obtain ⟨hy20_, hz20_⟩ := Kd.R_celln 0 HO_8.out (x21_1 : Int) (of_decide_eq_true as_) (of_decide_eq_true as_); have HP20 := Kd.R_putg HO_8.out (x21_1 : Int) ((rd_T77 l0 x21_1).f1)) | ((with_reducible refine gate_store (t := 2) (p := 34) rfl ?_); (try (rw [drewN_self w18]; generalize hq_ : World.drewN w18 _ = w18; have n0_ := Aside0.mk (Kd.R_at hq_ HO_8.out); have n1_ := Aside0.mk (blk_at hq_ BK231.out); have n2_ := Aside0.mk (below_at hq_ HB.out); clear hq_ HO_8 BK231 HB; have HO_8 := n0_; have BK231 := n1_; have HB := n2_; clear n0_ n1_ n2_; (try (obtain ⟨hy20_, hz20_⟩ := Kd.R_celln 0 HO_8.out (x21_1 : Int) (of_decide_eq_true as_) (of_decide_eq_true as_))); (try (have HP20 := Kd.R_putg HO_8.out (x21_1 : Int) ((rd_T77 l0 x21_1).f1))))); refine store_event (t := 2) (p := 34) (v := ?vo_w21) (w1 := (w18.setCell ⟨go15, (x21_1 : Int).toNat, none⟩ (.int .i64 ((rd_T77 l0 x21_1).f1)))) ?hg ?ho ?hn ?hr ?_; (case ho => rfl); (case hg => rfl); (case hn => rfl); (case hr => first | (go_simp; done) | (go_simp; rfl)); intro w21 hw; have hg : w18.grownBy w21 (some go15) := (by rw [hw]; exact HP20.2); have hp_ : Kd.R (Kd.int .i64) 2 w21 w.heap.size (fun _ => True) (.slice (some ⟨go15, 0, none⟩) x8_1.length co15) y233 := (by rw [hw, Ny233.out]; exact HP20.1); clear HP20; have n0_ := Aside0.mk (hp_); have n1_ := Aside0.mk (blk_grown (g := gb231) (o := .cells #[.string ((rd_T77 l0 x21_1).f0), .int .i64 ((rd_T77 l0 x21_1).f1), .int .i64 ((rd_T77 l0 x21_1).f2), .int .i64 ((rd_T77 l0 x21_1).f3), .int .i64 ((rd_T77 l0 x21_1).f4), .int .i64 ((rd_T77 l0 x21_1).f5), .int .i64 ((rd_T77 l0 x21_1).f6)] 77 (0, 0)) (bK_ BK231.out) hg (Kd.R_ne HO_8.out BK231.out (by decide))); have n2_ := Aside0.mk ((by rw [hw]; exact below_set (HB.out) GB15.out : Below w.heap.size w w21)); clear HO_8; clear BK231; clear HB; have HO_8 := n0_; have BK231 := n1_; have HB := n2_; clear n0_ n1_ n2_; clear hg hw hp_; have hcz22_0 : w21.cell? ⟨gb231, 0, none⟩ = some (.string ((rd_T77 l0 x21_1).f0)) := (blk_cell BK231.out 0).trans rfl; have hcz22_1 : w21.cell? ⟨gb231, 1, none⟩ = some (.int .i64 ((rd_T77 l0 x21_1).f1)) := (blk_cell BK231.out 1).trans rfl; have hcz22_2 : w21.cell? ⟨gb231, 2, none⟩ = some (.int .i64 ((rd_T77 l0 x21_1).f2)) := (blk_cell BK231.out 2).trans rfl; have hcz22_3 : w21.cell? ⟨gb231, 3, none⟩ = some (.int .i64 ((rd_T77 l0 x21_1).f3)) := (blk_cell BK231.out 3).trans rfl; have hcz22_4 : w21.cell? ⟨gb231, 4, none⟩ = some (.int .i64 ((rd_T77 l0 x21_1).f4)) := (blk_cell BK231.out 4).trans rfl; have hcz22_5 : w21.cell? ⟨gb231, 5, none⟩ = some (.int .i64 ((rd_T77 l0 x21_1).f5)) := (blk_cell BK231.out 5).trans rfl; have hcz22_6 : w21.cell? ⟨gb231, 6, none⟩ = some (.int .i64 ((rd_T77 l0 x21_1).f6)) := (blk_cell BK231.out 6).trans rfl; have hfz22_0 := blk_frozen BK231.out 0; have hfz22_1 := blk_frozen BK231.out 1; have hfz22_2 := blk_frozen BK231.out 2; have hfz22_3 := blk_frozen BK231.out 3; have hfz22_4 := blk_frozen BK231.out 4; have hfz22_5 := blk_frozen BK231.out 5; have hfz22_6 := blk_frozen BK231.out 6)); try go_wp2_with (first | ((with_reducible refine gate_dst (N := 11) rfl ?_); refine box_event ?hg (N := 11) ?hd (cs := #[.string (⟨#[]⟩ : ByteArray), .int .i64 0, .int .i64 0, .int .i64 0, .int .i64 0, .int .i64 0, .int .i64 0]) (t := 77) ?hr ?_; (case hd => rfl); (case hg => rfl); (case hr => first | (go_simp; done) | (go_simp; rfl)); intro gb231 hg w16 hbox hb; have n0_ := Aside0.mk (Kd.R_below (rA_ HO_8.out) hb); have n1_ := Aside0.mk (below_step bB_ hb); have n2_ := Aside0.mk (hbox); have n3_ := Aside0.mk ((by rw [hg]; exact (below_size bB_) : w.heap.size ≤ gb231)); have n4_ := Aside0.mk ((by rw [hg]; exact (below_size bB_) : w.heap.size ≤ gb231)); clear HO_8; clear HB; have HO_8 := n0_; have HB := n1_; have BK231 := n2_; have GW231 := n3_; have GE231 := n4_; clear n0_ n1_ n2_ n3_ n4_; clear hb hbox hg; have hcz17_0 : w16.cell? ⟨gb231, 0, none⟩ = some (.string (⟨#[]⟩ : ByteArray)) := (blk_cell BK231.out 0).trans rfl; have hcz17_1 : w16.cell? ⟨gb231, 1, none⟩ = some (.int .i64 0) := (blk_cell BK231.out 1).trans rfl; have hcz17_2 : w16.cell? ⟨gb231, 2, none⟩ = some (.int .i64 0) := (blk_cell BK231.out 2).trans rfl; have hcz17_3 : w16.cell? ⟨gb231, 3, none⟩ = some (.int .i64 0) := (blk_cell BK231.out 3).trans rfl; have hcz17_4 : w16.cell? ⟨gb231, 4, none⟩ = some (.int .i64 0) := (blk_cell BK231.out 4).trans rfl; have hcz17_5 : w16.cell? ⟨gb231, 5, none⟩ = some (.int .i64 0) := (blk_cell BK231.out 5).trans rfl; have hcz17_6 : w16.cell? ⟨gb231, 6, none⟩ = some (.int .i64 0) := (blk_cell BK231.out 6).trans rfl; have hfz17_0 := blk_frozen BK231.out 0; have hfz17_1 := blk_frozen BK231.out 1; have hfz17_2 := blk_frozen BK231.out 2; have hfz17_3 := blk_frozen BK231.out 3; have hfz17_4 := blk_frozen BK231.out 4; have hfz17_5 := blk_frozen BK231.out 5; have hfz17_6 := blk_frozen BK231.out 6) | ((with_reducible refine gate_store (t := 77) (p := 11) rfl ?_); (try (rw [drewN_self w16]; generalize hq_ : World.drewN w16 _ = w16; have n0_ := Aside0.mk (Kd.R_at hq_ HO_8.out); have n1_ := Aside0.mk (blk_at hq_ BK231.out); have n2_ := Aside0.mk (below_at hq_ HB.out); clear hq_ HO_8 BK231 HB; have HO_8 := n0_; have BK231 := n1_; have HB := n2_; clear n0_ n1_ n2_)); refine store_event (t := 77) (p := 11) (v := ?vo_w18) (w1 := (((((((w16.setCell ⟨gb231, 0, none⟩ (.string ((rd_T77 l0 x21_1).f0))).setCell ⟨gb231, 1, none⟩ (.int .i64 ((rd_T77 l0 x21_1).f1))).setCell ⟨gb231, 2, none⟩ (.int .i64 ((rd_T77 l0 x21_1).f2))).setCell ⟨gb231, 3, none⟩ (.int .i64 ((rd_T77 l0 x21_1).f3))).setCell ⟨gb231, 4, none⟩ (.int .i64 ((rd_T77 l0 x21_1).f4))).setCell ⟨gb231, 5, none⟩ (.int .i64 ((rd_T77 l0 x21_1).f5))).setCell ⟨gb231, 6, none⟩ (.int .i64 ((rd_T77 l0 x21_1).f6)))) ?hg ?ho ?hn ?hr ?_; (case ho => rfl); (case hg => rfl); (case hn => rfl); (case hr => first | (go_simp; done) | (go_simp; rfl)); intro w18 hw; have n0_ : Aside0 (Kd.R (Kd.int .i64) 2 w18 w.heap.size (fun _ => True) v228 x8_1) := ⟨(by rw [hw]; exact (by (with_reducible repeat (first | apply Kd.R_alloc | apply Kd.R_drewN | apply Kd.R_drew)); exact Kd.R_mono (Kd.R_far (p := ⟨gb231, 6, none⟩) (Kd.R_far (p := ⟨gb231, 5, none⟩) (Kd.R_far (p := ⟨gb231, 4, none⟩) (Kd.R_far (p := ⟨gb231, 3, none⟩) (Kd.R_far (p := ⟨gb231, 2, none⟩) (Kd.R_far (p := ⟨gb231, 1, none⟩) (Kd.R_far (p := ⟨gb231, 0, none⟩) (Kd.R_types HO_8.out BK231.out (by decide)) (fun _ hk => hk.2) (.string ((rd_T77 l0 x21_1).f0))) (fun _ hk => hk.2) (.int .i64 ((rd_T77 l0 x21_1).f1))) (fun _ hk => hk.2) (.int .i64 ((rd_T77 l0 x21_1).f2))) (fun _ hk => hk.2) (.int .i64 ((rd_T77 l0 x21_1).f3))) (fun _ hk => hk.2) (.int .i64 ((rd_T77 l0 x21_1).f4))) (fun _ hk => hk.2) (.int .i64 ((rd_T77 l0 x21_1).f5))) (fun _ hk => hk.2) (.int .i64 ((rd_T77 l0 x21_1).f6))) (fun _ hk => trivial)))⟩; have n1_ : Aside0 (w18.heap[gb231]? = some (.cells #[.string ((rd_T77 l0 x21_1).f0), .int .i64 ((rd_T77 l0 x21_1).f1), .int .i64 ((rd_T77 l0 x21_1).f2), .int .i64 ((rd_T77 l0 x21_1).f3), .int .i64 ((rd_T77 l0 x21_1).f4), .int .i64 ((rd_T77 l0 x21_1).f5), .int .i64 ((rd_T77 l0 x21_1).f6)] 77 (0, 0))) := ⟨(by rw [hw]; exact (by (with_reducible repeat (first | refine blk_drewN ?_ _ | refine blk_drew ?_ | refine blk_alloc ?_ _)); refine blk_put (cs := #[.string ((rd_T77 l0 x21_1).f0), .int .i64 ((rd_T77 l0 x21_1).f1), .int .i64 ((rd_T77 l0 x21_1).f2), .int .i64 ((rd_T77 l0 x21_1).f3), .int .i64 ((rd_T77 l0 x21_1).f4), .int .i64 ((rd_T77 l0 x21_1).f5), .int .i64 0]) ?_ 6 _ rfl; (with_reducible repeat (first | refine blk_drewN ?_ _ | refine blk_drew ?_ | refine blk_alloc ?_ _)); refine blk_put (cs := #[.string ((rd_T77 l0 x21_1).f0), .int .i64 ((rd_T77 l0 x21_1).f1), .int .i64 ((rd_T77 l0 x21_1).f2), .int .i64 ((rd_T77 l0 x21_1).f3), .int .i64 ((rd_T77 l0 x21_1).f4), .int .i64 0, .int .i64 0]) ?_ 5 _ rfl; (with_reducible repeat (first | refine blk_drewN ?_ _ | refine blk_drew ?_ | refine blk_alloc ?_ _)); refine blk_put (cs := #[.string ((rd_T77 l0 x21_1).f0), .int .i64 ((rd_T77 l0 x21_1).f1), .int .i64 ((rd_T77 l0 x21_1).f2), .int .i64 ((rd_T77 l0 x21_1).f3), .int .i64 0, .int .i64 0, .int .i64 0]) ?_ 4 _ rfl; (with_reducible repeat (first | refine blk_drewN ?_ _ | refine blk_drew ?_ | refine blk_alloc ?_ _)); refine blk_put (cs := #[.string ((rd_T77 l0 x21_1).f0), .int .i64 ((rd_T77 l0 x21_1).f1), .int .i64 ((rd_T77 l0 x21_1).f2), .int .i64 0, .int .i64 0, .int .i64 0, .int .i64 0]) ?_ 3 _ rfl; (with_reducible repeat (first | refine blk_drewN ?_ _ | refine blk_drew ?_ | refine blk_alloc ?_ _)); refine blk_put (cs := #[.string ((rd_T77 l0 x21_1).f0), .int .i64 ((rd_T77 l0 x21_1).f1), .int .i64 0, .int .i64 0, .int .i64 0, .int .i64 0, .int .i64 0]) ?_ 2 _ rfl; (with_reducible repeat (first | refine blk_drewN ?_ _ | refine blk_drew ?_ | refine blk_alloc ?_ _)); refine blk_put (cs := #[.string ((rd_T77 l0 x21_1).f0), .int .i64 0, .int .i64 0, .int .i64 0, .int .i64 0, .int .i64 0, .int .i64 0]) ?_ 1 _ rfl; (with_reducible repeat (first | refine blk_drewN ?_ _ | refine blk_drew ?_ | refine blk_alloc ?_ _)); refine blk_put (cs := #[.string (⟨#[]⟩ : ByteArray), .int .i64 0, .int .i64 0, .int .i64 0, .int .i64 0, .int .i64 0, .int .i64 0]) ?_ 0 _ rfl; (with_reducible repeat (first | refine blk_drewN ?_ _ | refine blk_drew ?_ | refine blk_alloc ?_ _)); exact BK231.out))⟩; have n2_ : Aside0 (Below w.heap.size w w18) := ⟨(by rw [hw]; exact (bC_ GE231.out))⟩; clear hw; clear HO_8; clear BK231; clear HB; have HO_8 := n0_; have BK231 := n1_; have HB := n2_; clear n0_ n1_ n2_; have p232 : 0 ≤ (x21_1 : Int) := of_decide_eq_true as_; have q232 : x21_1 < (l1.length : Int) := of_decide_eq_true as_; obtain ⟨ad232, e232, hx232_0⟩ := Kd.at_bool HR1.out x21_1 p232 q232; (try rw [← Nbq12.out] at hx232_0); cases e232; replace hx232_0 := cl_ HB hx232_0; replace p232 := eq_true p232; replace q232 := eq_true q232; have hcz19_0 : w18.cell? ⟨gb231, 0, none⟩ = some (.string ((rd_T77 l0 x21_1).f0)) := (blk_cell BK231.out 0).trans rfl; have hcz19_1 : w18.cell? ⟨gb231, 1, none⟩ = some (.int .i64 ((rd_T77 l0 x21_1).f1)) := (blk_cell BK231.out 1).trans rfl; have hcz19_2 : w18.cell? ⟨gb231, 2, none⟩ = some (.int .i64 ((rd_T77 l0 x21_1).f2)) := (blk_cell BK231.out 2).trans rfl; have hcz19_3 : w18.cell? ⟨gb231, 3, none⟩ = some (.int .i64 ((rd_T77 l0 x21_1).f3)) := (blk_cell BK231.out 3).trans rfl; have hcz19_4 : w18.cell? ⟨gb231, 4, none⟩ = some (.int .i64 ((rd_T77 l0 x21_1).f4)) := (blk_cell BK231.out 4).trans rfl; have hcz19_5 : w18.cell? ⟨gb231, 5, none⟩ = some (.int .i64 ((rd_T77 l0 x21_1).f5)) := (blk_cell BK231.out 5).trans rfl; have hcz19_6 : w18.cell? ⟨gb231, 6, none⟩ = some (.int .i64 ((rd_T77 l0 x21_1).f6)) := (blk_cell BK231.out 6).trans rfl; have hfz19_0 := blk_frozen BK231.out 0; have hfz19_1 := blk_frozen BK231.out 1; have hfz19_2 := blk_frozen BK231.out 2; have hfz19_3 := blk_frozen BK231.out 3; have hfz19_4 := blk_frozen BK231.out 4; have hfz19_5 := blk_frozen BK231.out 5; have hfz19_6 := blk_frozen BK231.out 6; have p15 : 0 ≤ (x21_1 : Int) := of_decide_eq_true as_; have q15 : (x21_1 : Int) < ((x8_1.length : Int) : Int) := of_decide_eq_true as_; obtain ⟨go15, co15, eo15, gb15, gl15, cl15, HG15⟩ := Kd.R_form HO_8.out (by omega); (first | cases eo15 | (injection eo15 with ea_ en_ ec_; (first | subst ea_ | (injection ea_ with ea_; subst ea_)); subst ec_; clear en_)); have GB15 := Aside0.mk gb15; have GG15 := Aside0.mk HG15; clear gb15 gl15 HG15; obtain ⟨hx15_0, hf15_0⟩ := Kd.R_celln 0 HO_8.out (x21_1 : Int) p15 q15; replace p15 := eq_true p15; replace q15 := eq_true q15; obtain ⟨hy20_, hz20_⟩ := Kd.R_celln 0 HO_8.out (x21_1 : Int) (of_decide_eq_true as_) (of_decide_eq_true as_); have HP20 := Kd.R_putg HO_8.out (x21_1 : Int) ((rd_T77 l0 x21_1).f1)) | ((with_reducible refine gate_store (t := 2) (p := 34) rfl ?_); (try (rw [drewN_self w18]; generalize hq_ : World.drewN w18 _ = w18; have n0_ := Aside0.mk (Kd.R_at hq_ HO_8.out); have n1_ := Aside0.mk (blk_at hq_ BK231.out); have n2_ := Aside0.mk (below_at hq_ HB.out); clear hq_ HO_8 BK231 HB; have HO_8 := n0_; have BK231 := n1_; have HB := n2_; clear n0_ n1_ n2_; (try (obtain ⟨hy20_, hz20_⟩ := Kd.R_celln 0 HO_8.out (x21_1 : Int) (of_decide_eq_true as_) (of_decide_eq_true as_))); (try (have HP20 := Kd.R_putg HO_8.out (x21_1 : Int) ((rd_T77 l0 x21_1).f1))))); refine store_event (t := 2) (p := 34) (v := ?vo_w21) (w1 := (w18.setCell ⟨go15, (x21_1 : Int).toNat, none⟩ (.int .i64 ((rd_T77 l0 x21_1).f1)))) ?hg ?ho ?hn ?hr ?_; (case ho => rfl); (case hg => rfl); (case hn => rfl); (case hr => first | (go_simp; done) | (go_simp; rfl)); intro w21 hw; have hg : w18.grownBy w21 (some go15) := (by rw [hw]; exact HP20.2); have hp_ : Kd.R (Kd.int .i64) 2 w21 w.heap.size (fun _ => True) (.slice (some ⟨go15, 0, none⟩) x8_1.length co15) y233 := (by rw [hw, Ny233.out]; exact HP20.1); clear HP20; have n0_ := Aside0.mk (hp_); have n1_ := Aside0.mk (blk_grown (g := gb231) (o := .cells #[.string ((rd_T77 l0 x21_1).f0), .int .i64 ((rd_T77 l0 x21_1).f1), .int .i64 ((rd_T77 l0 x21_1).f2), .int .i64 ((rd_T77 l0 x21_1).f3), .int .i64 ((rd_T77 l0 x21_1).f4), .int .i64 ((rd_T77 l0 x21_1).f5), .int .i64 ((rd_T77 l0 x21_1).f6)] 77 (0, 0)) (bK_ BK231.out) hg (Kd.R_ne HO_8.out BK231.out (by decide))); have n2_ := Aside0.mk ((by rw [hw]; exact below_set (HB.out) GB15.out : Below w.heap.size w w21)); clear HO_8; clear BK231; clear HB; have HO_8 := n0_; have BK231 := n1_; have HB := n2_; clear n0_ n1_ n2_; clear hg hw hp_; have hcz22_0 : w21.cell? ⟨gb231, 0, none⟩ = some (.string ((rd_T77 l0 x21_1).f0)) := (blk_cell BK231.out 0).trans rfl; have hcz22_1 : w21.cell? ⟨gb231, 1, none⟩ = some (.int .i64 ((rd_T77 l0 x21_1).f1)) := (blk_cell BK231.out 1).trans rfl; have hcz22_2 : w21.cell? ⟨gb231, 2, none⟩ = some (.int .i64 ((rd_T77 l0 x21_1).f2)) := (blk_cell BK231.out 2).trans rfl; have hcz22_3 : w21.cell? ⟨gb231, 3, none⟩ = some (.int .i64 ((rd_T77 l0 x21_1).f3)) := (blk_cell BK231.out 3).trans rfl; have hcz22_4 : w21.cell? ⟨gb231, 4, none⟩ = some (.int .i64 ((rd_T77 l0 x21_1).f4)) := (blk_cell BK231.out 4).trans rfl; have hcz22_5 : w21.cell? ⟨gb231, 5, none⟩ = some (.int .i64 ((rd_T77 l0 x21_1).f5)) := (blk_cell BK231.out 5).trans rfl; have hcz22_6 : w21.cell? ⟨gb231, 6, none⟩ = some (.int .i64 ((rd_T77 l0 x21_1).f6)) := (blk_cell BK231.out 6).trans rfl; have hfz22_0 := blk_frozen BK231.out 0; have hfz22_1 := blk_frozen BK231.out 1; have hfz22_2 := blk_frozen BK231.out 2; have hfz22_3 := blk_frozen BK231.out 3; have hfz22_4 := blk_frozen BK231.out 4; have hfz22_5 := blk_frozen BK231.out 5; have hfz22_6 := blk_frozen BK231.out 6)))
           go_roundg k1
           case measure => have := HK1.out; omega
           case rel => exact ⟨(y233), (wrap64 (x9_1 - ((rd_T77 l0 x21_1).f1))), (wrap64 (x21_1 + 1)), rs_, rs_, H', ⟨by have := HK1.out; omega⟩, ⟨rA_ HO_8.out⟩, ⟨bC_ GE231.out⟩⟩
          ·
           rw [if_neg c14] at H
           exact absurd H (by simp)
         ·
          replace c13 := Bool.eq_false_iff.mpr c13
          subst c13
          have H1 : (impl_shareDemand.l0 k1 l0 l1 x8_1 x9_1 l0 (l0.length : Int) (wrap64 (x21_1 + 1))) = some (r1, r2) := by rw [if_neg (show ¬ (false = true) by decide)] at H; exact H
          clear H
          have H := H1
          clear H1
          have H' := Aside0.mk H
          clear H
          have p230 : 0 ≤ (x21_1 : Int) := of_decide_eq_true as_
          have q230 : x21_1 < (l0.length : Int) := of_decide_eq_true as_
          obtain ⟨ad230, e230, hx230_0, hx230_1, hx230_2, hx230_3, hx230_4, hx230_5, hx230_6⟩ := at_T77 HR0.out x21_1 p230 q230
          cases e230
          replace hx230_0 := cl_ HB hx230_0
          replace hx230_1 := cl_ HB hx230_1
          replace hx230_2 := cl_ HB hx230_2
          replace hx230_3 := cl_ HB hx230_3
          replace hx230_4 := cl_ HB hx230_4
          replace hx230_5 := cl_ HB hx230_5
          replace hx230_6 := cl_ HB hx230_6
          replace p230 := eq_true p230
          replace q230 := eq_true q230
          go_wp2_with (first | ((with_reducible refine gate_dst (N := 11) rfl ?_); refine box_event ?hg (N := 11) ?hd (cs := #[.string (⟨#[]⟩ : ByteArray), .int .i64 0, .int .i64 0, .int .i64 0, .int .i64 0, .int .i64 0, .int .i64 0]) (t := 77) ?hr ?_; (case hd => rfl); (case hg => rfl); (case hr => first | (go_simp; done) | (go_simp; rfl)); intro gb231 hg w23 hbox hb; have n0_ := Aside0.mk (Kd.R_below (rA_ HO_8.out) hb); have n1_ := Aside0.mk (below_step bB_ hb); have n2_ := Aside0.mk (hbox); have n3_ := Aside0.mk ((by rw [hg]; exact (below_size bB_) : w.heap.size ≤ gb231)); have n4_ := Aside0.mk ((by rw [hg]; exact (below_size bB_) : w.heap.size ≤ gb231)); clear HO_8; clear HB; have HO_8 := n0_; have HB := n1_; have BK231 := n2_; have GW231 := n3_; have GE231 := n4_; clear n0_ n1_ n2_ n3_ n4_; clear hb hbox hg; have hcz24_0 : w23.cell? ⟨gb231, 0, none⟩ = some (.string (⟨#[]⟩ : ByteArray)) := (blk_cell BK231.out 0).trans rfl; have hcz24_1 : w23.cell? ⟨gb231, 1, none⟩ = some (.int .i64 0) := (blk_cell BK231.out 1).trans rfl; have hcz24_2 : w23.cell? ⟨gb231, 2, none⟩ = some (.int .i64 0) := (blk_cell BK231.out 2).trans rfl; have hcz24_3 : w23.cell? ⟨gb231, 3, none⟩ = some (.int .i64 0) := (blk_cell BK231.out 3).trans rfl; have hcz24_4 : w23.cell? ⟨gb231, 4, none⟩ = some (.int .i64 0) := (blk_cell BK231.out 4).trans rfl; have hcz24_5 : w23.cell? ⟨gb231, 5, none⟩ = some (.int .i64 0) := (blk_cell BK231.out 5).trans rfl; have hcz24_6 : w23.cell? ⟨gb231, 6, none⟩ = some (.int .i64 0) := (blk_cell BK231.out 6).trans rfl; have hfz24_0 := blk_frozen BK231.out 0; have hfz24_1 := blk_frozen BK231.out 1; have hfz24_2 := blk_frozen BK231.out 2; have hfz24_3 := blk_frozen BK231.out 3; have hfz24_4 := blk_frozen BK231.out 4; have hfz24_5 := blk_frozen BK231.out 5; have hfz24_6 := blk_frozen BK231.out 6; have p232 : 0 ≤ (x21_1 : Int) := of_decide_eq_true as_; have q232 : x21_1 < (l1.length : Int) := of_decide_eq_true as_; obtain ⟨ad232, e232, hx232_0⟩ := Kd.at_bool HR1.out x21_1 p232 q232; (try rw [← Nbq12.out] at hx232_0); cases e232; have hn232_0 : ad232.block ≠ gb231 := Nat.ne_of_lt (Nat.lt_of_lt_of_le (by have := World.block_lt_of_cell? _ _ hx232_0; first | rwa [add_block] at this | exact this) GW231.out); have hn232_1 : ad232.block ≠ gb231 := Nat.ne_of_lt (Nat.lt_of_lt_of_le (by have := World.block_lt_of_cell? _ _ hx232_0; first | rwa [add_block] at this | exact this) GW231.out); have hn232_2 : ad232.block ≠ gb231 := Nat.ne_of_lt (Nat.lt_of_lt_of_le (by have := World.block_lt_of_cell? _ _ hx232_0; first | rwa [add_block] at this | exact this) GW231.out); have hn232_3 : ad232.block ≠ gb231 := Nat.ne_of_lt (Nat.lt_of_lt_of_le (by have := World.block_lt_of_cell? _ _ hx232_0; first | rwa [add_block] at this | exact this) GW231.out); have hn232_4 : ad232.block ≠ gb231 := Nat.ne_of_lt (Nat.lt_of_lt_of_le (by have := World.block_lt_of_cell? _ _ hx232_0; first | rwa [add_block] at this | exact this) GW231.out); have hn232_5 : ad232.block ≠ gb231 := Nat.ne_of_lt (Nat.lt_of_lt_of_le (by have := World.block_lt_of_cell? _ _ hx232_0; first | rwa [add_block] at this | exact this) GW231.out); have hn232_6 : ad232.block ≠ gb231 := Nat.ne_of_lt (Nat.lt_of_lt_of_le (by have := World.block_lt_of_cell? _ _ hx232_0; first | rwa [add_block] at this | exact this) GW231.out); replace hx232_0 := cl_ HB hx232_0; replace hx232_0 := (cell_far (p := ⟨gb231, 0, none⟩) (by first | (rw [add_block]; exact hn232_0) | (show (Addr.add _ _).block ≠ _; rw [add_block]; exact hn232_0) | exact hn232_0) (.string ((rd_T77 l0 x21_1).f0))).trans hx232_0; replace hx232_0 := (cell_far (p := ⟨gb231, 1, none⟩) (by first | (rw [add_block]; exact hn232_1) | (show (Addr.add _ _).block ≠ _; rw [add_block]; exact hn232_1) | exact hn232_1) (.int .i64 ((rd_T77 l0 x21_1).f1))).trans hx232_0; replace hx232_0 := (cell_far (p := ⟨gb231, 2, none⟩) (by first | (rw [add_block]; exact hn232_2) | (show (Addr.add _ _).block ≠ _; rw [add_block]; exact hn232_2) | exact hn232_2) (.int .i64 ((rd_T77 l0 x21_1).f2))).trans hx232_0; replace hx232_0 := (cell_far (p := ⟨gb231, 3, none⟩) (by first | (rw [add_block]; exact hn232_3) | (show (Addr.add _ _).block ≠ _; rw [add_block]; exact hn232_3) | exact hn232_3) (.int .i64 ((rd_T77 l0 x21_1).f3))).trans hx232_0; replace hx232_0 := (cell_far (p := ⟨gb231, 4, none⟩) (by first | (rw [add_block]; exact hn232_4) | (show (Addr.add _ _).block ≠ _; rw [add_block]; exact hn232_4) | exact hn232_4) (.int .i64 ((rd_T77 l0 x21_1).f4))).trans hx232_0; replace hx232_0 := (cell_far (p := ⟨gb231, 5, none⟩) (by first | (rw [add_block]; exact hn232_5) | (show (Addr.add _ _).block ≠ _; rw [add_block]; exact hn232_5) | exact hn232_5) (.int .i64 ((rd_T77 l0 x21_1).f5))).trans hx232_0; replace hx232_0 := (cell_far (p := ⟨gb231, 6, none⟩) (by first | (rw [add_block]; exact hn232_6) | (show (Addr.add _ _).block ≠ _; rw [add_block]; exact hn232_6) | exact hn232_6) (.int .i64 ((rd_T77 l0 x21_1).f6))).trans hx232_0; clear hn232_0; clear hn232_1; clear hn232_2; clear hn232_3; clear hn232_4; clear hn232_5; clear hn232_6; replace p232 := eq_true p232; replace q232 := eq_true q232))
          repeat (go_quiet (first | ((with_reducible refine gate_dst (N := 11) rfl ?_); refine box_event ?hg (N := 11) ?hd (cs := #[.string (⟨#[]⟩ : ByteArray), .int .i64 0, .int .i64 0, .int .i64 0, .int .i64 0, .int .i64 0, .int .i64 0]) (t := 77) ?hr ?_; (case hd => rfl); (case hg => rfl); (case hr => first | (go_simp; done) | (go_simp; rfl)); intro gb231 hg w23 hbox hb; have n0_ := Aside0.mk (Kd.R_below (rA_ HO_8.out) hb); have n1_ := Aside0.mk (below_step bB_ hb); have n2_ := Aside0.mk (hbox); have n3_ := Aside0.mk ((by rw [hg]; exact (below_size bB_) : w.heap.size ≤ gb231)); have n4_ := Aside0.mk ((by rw [hg]; exact (below_size bB_) : w.heap.size ≤ gb231)); clear HO_8; clear HB; have HO_8 := n0_; have HB := n1_; have BK231 := n2_; have GW231 := n3_; have GE231 := n4_; clear n0_ n1_ n2_ n3_ n4_; clear hb hbox hg; have hcz24_0 : w23.cell? ⟨gb231, 0, none⟩ = some (.string (⟨#[]⟩ : ByteArray)) := (blk_cell BK231.out 0).trans rfl; have hcz24_1 : w23.cell? ⟨gb231, 1, none⟩ = some (.int .i64 0) := (blk_cell BK231.out 1).trans rfl; have hcz24_2 : w23.cell? ⟨gb231, 2, none⟩ = some (.int .i64 0) := (blk_cell BK231.out 2).trans rfl; have hcz24_3 : w23.cell? ⟨gb231, 3, none⟩ = some (.int .i64 0) := (blk_cell BK231.out 3).trans rfl; have hcz24_4 : w23.cell? ⟨gb231, 4, none⟩ = some (.int .i64 0) := (blk_cell BK231.out 4).trans rfl; have hcz24_5 : w23.cell? ⟨gb231, 5, none⟩ = some (.int .i64 0) := (blk_cell BK231.out 5).trans rfl; have hcz24_6 : w23.cell? ⟨gb231, 6, none⟩ = some (.int .i64 0) := (blk_cell BK231.out 6).trans rfl; have hfz24_0 := blk_frozen BK231.out 0; have hfz24_1 := blk_frozen BK231.out 1; have hfz24_2 := blk_frozen BK231.out 2; have hfz24_3 := blk_frozen BK231.out 3; have hfz24_4 := blk_frozen BK231.out 4; have hfz24_5 := blk_frozen BK231.out 5; have hfz24_6 := blk_frozen BK231.out 6; have p232 : 0 ≤ (x21_1 : Int) := of_decide_eq_true as_; have q232 : x21_1 < (l1.length : Int) := of_decide_eq_true as_; obtain ⟨ad232, e232, hx232_0⟩ := Kd.at_bool HR1.out x21_1 p232 q232; (try rw [← Nbq12.out] at hx232_0); cases e232; have hn232_0 : ad232.block ≠ gb231 := Nat.ne_of_lt (Nat.lt_of_lt_of_le (by have := World.block_lt_of_cell? _ _ hx232_0; first | rwa [add_block] at this | exact this) GW231.out); have hn232_1 : ad232.block ≠ gb231 := Nat.ne_of_lt (Nat.lt_of_lt_of_le (by have := World.block_lt_of_cell? _ _ hx232_0; first | rwa [add_block] at this | exact this) GW231.out); have hn232_2 : ad232.block ≠ gb231 := Nat.ne_of_lt (Nat.lt_of_lt_of_le (by have := World.block_lt_of_cell? _ _ hx232_0; first | rwa [add_block] at this | exact this) GW231.out); have hn232_3 : ad232.block ≠ gb231 := Nat.ne_of_lt (Nat.lt_of_lt_of_le (by have := World.block_lt_of_cell? _ _ hx232_0; first | rwa [add_block] at this | exact this) GW231.out); have hn232_4 : ad232.block ≠ gb231 := Nat.ne_of_lt (Nat.lt_of_lt_of_le (by have := World.block_lt_of_cell? _ _ hx232_0; first | rwa [add_block] at this | exact this) GW231.out); have hn232_5 : ad232.block ≠ gb231 := Nat.ne_of_lt (Nat.lt_of_lt_of_le (by have := World.block_lt_of_cell? _ _ hx232_0; first | rwa [add_block] at this | exact this) GW231.out); have hn232_6 : ad232.block ≠ gb231 := Nat.ne_of_lt (Nat.lt_of_lt_of_le (by have := World.block_lt_of_cell? _ _ hx232_0; first | rwa [add_block] at this | exact this) GW231.out); replace hx232_0 := cl_ HB hx232_0; replace hx232_0 := (cell_far (p := ⟨gb231, 0, none⟩) (by first | (rw [add_block]; exact hn232_0) | (show (Addr.add _ _).block ≠ _; rw [add_block]; exact hn232_0) | exact hn232_0) (.string ((rd_T77 l0 x21_1).f0))).trans hx232_0; replace hx232_0 := (cell_far (p := ⟨gb231, 1, none⟩) (by first | (rw [add_block]; exact hn232_1) | (show (Addr.add _ _).block ≠ _; rw [add_block]; exact hn232_1) | exact hn232_1) (.int .i64 ((rd_T77 l0 x21_1).f1))).trans hx232_0; replace hx232_0 := (cell_far (p := ⟨gb231, 2, none⟩) (by first | (rw [add_block]; exact hn232_2) | (show (Addr.add _ _).block ≠ _; rw [add_block]; exact hn232_2) | exact hn232_2) (.int .i64 ((rd_T77 l0 x21_1).f2))).trans hx232_0; replace hx232_0 := (cell_far (p := ⟨gb231, 3, none⟩) (by first | (rw [add_block]; exact hn232_3) | (show (Addr.add _ _).block ≠ _; rw [add_block]; exact hn232_3) | exact hn232_3) (.int .i64 ((rd_T77 l0 x21_1).f3))).trans hx232_0; replace hx232_0 := (cell_far (p := ⟨gb231, 4, none⟩) (by first | (rw [add_block]; exact hn232_4) | (show (Addr.add _ _).block ≠ _; rw [add_block]; exact hn232_4) | exact hn232_4) (.int .i64 ((rd_T77 l0 x21_1).f4))).trans hx232_0; replace hx232_0 := (cell_far (p := ⟨gb231, 5, none⟩) (by first | (rw [add_block]; exact hn232_5) | (show (Addr.add _ _).block ≠ _; rw [add_block]; exact hn232_5) | exact hn232_5) (.int .i64 ((rd_T77 l0 x21_1).f5))).trans hx232_0; replace hx232_0 := (cell_far (p := ⟨gb231, 6, none⟩) (by first | (rw [add_block]; exact hn232_6) | (show (Addr.add _ _).block ≠ _; rw [add_block]; exact hn232_6) | exact hn232_6) (.int .i64 ((rd_T77 l0 x21_1).f6))).trans hx232_0; clear hn232_0; clear hn232_1; clear hn232_2; clear hn232_3; clear hn232_4; clear hn232_5; clear hn232_6; replace p232 := eq_true p232; replace q232 := eq_true q232)); try go_wp2_with (first | ((with_reducible refine gate_dst (N := 11) rfl ?_); refine box_event ?hg (N := 11) ?hd (cs := #[.string (⟨#[]⟩ : ByteArray), .int .i64 0, .int .i64 0, .int .i64 0, .int .i64 0, .int .i64 0, .int .i64 0]) (t := 77) ?hr ?_; (case hd => rfl); (case hg => rfl); (case hr => first | (go_simp; done) | (go_simp; rfl)); intro gb231 hg w23 hbox hb; have n0_ := Aside0.mk (Kd.R_below (rA_ HO_8.out) hb); have n1_ := Aside0.mk (below_step bB_ hb); have n2_ := Aside0.mk (hbox); have n3_ := Aside0.mk ((by rw [hg]; exact (below_size bB_) : w.heap.size ≤ gb231)); have n4_ := Aside0.mk ((by rw [hg]; exact (below_size bB_) : w.heap.size ≤ gb231)); clear HO_8; clear HB; have HO_8 := n0_; have HB := n1_; have BK231 := n2_; have GW231 := n3_; have GE231 := n4_; clear n0_ n1_ n2_ n3_ n4_; clear hb hbox hg; have hcz24_0 : w23.cell? ⟨gb231, 0, none⟩ = some (.string (⟨#[]⟩ : ByteArray)) := (blk_cell BK231.out 0).trans rfl; have hcz24_1 : w23.cell? ⟨gb231, 1, none⟩ = some (.int .i64 0) := (blk_cell BK231.out 1).trans rfl; have hcz24_2 : w23.cell? ⟨gb231, 2, none⟩ = some (.int .i64 0) := (blk_cell BK231.out 2).trans rfl; have hcz24_3 : w23.cell? ⟨gb231, 3, none⟩ = some (.int .i64 0) := (blk_cell BK231.out 3).trans rfl; have hcz24_4 : w23.cell? ⟨gb231, 4, none⟩ = some (.int .i64 0) := (blk_cell BK231.out 4).trans rfl; have hcz24_5 : w23.cell? ⟨gb231, 5, none⟩ = some (.int .i64 0) := (blk_cell BK231.out 5).trans rfl; have hcz24_6 : w23.cell? ⟨gb231, 6, none⟩ = some (.int .i64 0) := (blk_cell BK231.out 6).trans rfl; have hfz24_0 := blk_frozen BK231.out 0; have hfz24_1 := blk_frozen BK231.out 1; have hfz24_2 := blk_frozen BK231.out 2; have hfz24_3 := blk_frozen BK231.out 3; have hfz24_4 := blk_frozen BK231.out 4; have hfz24_5 := blk_frozen BK231.out 5; have hfz24_6 := blk_frozen BK231.out 6; have p232 : 0 ≤ (x21_1 : Int) := of_decide_eq_true as_; have q232 : x21_1 < (l1.length : Int) := of_decide_eq_true as_; obtain ⟨ad232, e232, hx232_0⟩ := Kd.at_bool HR1.out x21_1 p232 q232; (try rw [← Nbq12.out] at hx232_0); cases e232; have hn232_0 : ad232.block ≠ gb231 := Nat.ne_of_lt (Nat.lt_of_lt_of_le (by have := World.block_lt_of_cell? _ _ hx232_0; first | rwa [add_block] at this | exact this) GW231.out); have hn232_1 : ad232.block ≠ gb231 := Nat.ne_of_lt (Nat.lt_of_lt_of_le (by have := World.block_lt_of_cell? _ _ hx232_0; first | rwa [add_block] at this | exact this) GW231.out); have hn232_2 : ad232.block ≠ gb231 := Nat.ne_of_lt (Nat.lt_of_lt_of_le (by have := World.block_lt_of_cell? _ _ hx232_0; first | rwa [add_block] at this | exact this) GW231.out); have hn232_3 : ad232.block ≠ gb231 := Nat.ne_of_lt (Nat.lt_of_lt_of_le (by have := World.block_lt_of_cell? _ _ hx232_0; first | rwa [add_block] at this | exact this) GW231.out); have hn232_4 : ad232.block ≠ gb231 := Nat.ne_of_lt (Nat.lt_of_lt_of_le (by have := World.block_lt_of_cell? _ _ hx232_0; first | rwa [add_block] at this | exact this) GW231.out); have hn232_5 : ad232.block ≠ gb231 := Nat.ne_of_lt (Nat.lt_of_lt_of_le (by have := World.block_lt_of_cell? _ _ hx232_0; first | rwa [add_block] at this | exact this) GW231.out); have hn232_6 : ad232.block ≠ gb231 := Nat.ne_of_lt (Nat.lt_of_lt_of_le (by have := World.block_lt_of_cell? _ _ hx232_0; first | rwa [add_block] at this | exact this) GW231.out); replace hx232_0 := cl_ HB hx232_0; replace hx232_0 := (cell_far (p := ⟨gb231, 0, none⟩) (by first | (rw [add_block]; exact hn232_0) | (show (Addr.add _ _).block ≠ _; rw [add_block]; exact hn232_0) | exact hn232_0) (.string ((rd_T77 l0 x21_1).f0))).trans hx232_0; replace hx232_0 := (cell_far (p := ⟨gb231, 1, none⟩) (by first | (rw [add_block]; exact hn232_1) | (show (Addr.add _ _).block ≠ _; rw [add_block]; exact hn232_1) | exact hn232_1) (.int .i64 ((rd_T77 l0 x21_1).f1))).trans hx232_0; replace hx232_0 := (cell_far (p := ⟨gb231, 2, none⟩) (by first | (rw [add_block]; exact hn232_2) | (show (Addr.add _ _).block ≠ _; rw [add_block]; exact hn232_2) | exact hn232_2) (.int .i64 ((rd_T77 l0 x21_1).f2))).trans hx232_0; replace hx232_0 := (cell_far (p := ⟨gb231, 3, none⟩) (by first | (rw [add_block]; exact hn232_3) | (show (Addr.add _ _).block ≠ _; rw [add_block]; exact hn232_3) | exact hn232_3) (.int .i64 ((rd_T77 l0 x21_1).f3))).trans hx232_0; replace hx232_0 := (cell_far (p := ⟨gb231, 4, none⟩) (by first | (rw [add_block]; exact hn232_4) | (show (Addr.add _ _).block ≠ _; rw [add_block]; exact hn232_4) | exact hn232_4) (.int .i64 ((rd_T77 l0 x21_1).f4))).trans hx232_0; replace hx232_0 := (cell_far (p := ⟨gb231, 5, none⟩) (by first | (rw [add_block]; exact hn232_5) | (show (Addr.add _ _).block ≠ _; rw [add_block]; exact hn232_5) | exact hn232_5) (.int .i64 ((rd_T77 l0 x21_1).f5))).trans hx232_0; replace hx232_0 := (cell_far (p := ⟨gb231, 6, none⟩) (by first | (rw [add_block]; exact hn232_6) | (show (Addr.add _ _).block ≠ _; rw [add_block]; exact hn232_6) | exact hn232_6) (.int .i64 ((rd_T77 l0 x21_1).f6))).trans hx232_0; clear hn232_0; clear hn232_1; clear hn232_2; clear hn232_3; clear hn232_4; clear hn232_5; clear hn232_6; replace p232 := eq_true p232; replace q232 := eq_true q232)))
          go_roundg k1
          case measure => have := HK1.out; omega
          case rel => exact ⟨(x8_1), (x9_1), (wrap64 (x21_1 + 1)), rs_, rs_, H', ⟨by have := HK1.out; omega⟩, ⟨by (with_reducible repeat (first | apply Kd.R_alloc | apply Kd.R_drewN | apply Kd.R_drew)); exact Kd.R_mono (Kd.R_far (p := ⟨gb231, 6, none⟩) (Kd.R_far (p := ⟨gb231, 5, none⟩) (Kd.R_far (p := ⟨gb231, 4, none⟩) (Kd.R_far (p := ⟨gb231, 3, none⟩) (Kd.R_far (p := ⟨gb231, 2, none⟩) (Kd.R_far (p := ⟨gb231, 1, none⟩) (Kd.R_far (p := ⟨gb231, 0, none⟩) (Kd.R_types HO_8.out BK231.out (by decide)) (fun _ hk => hk.2) (.string ((rd_T77 l0 x21_1).f0))) (fun _ hk => hk.2) (.int .i64 ((rd_T77 l0 x21_1).f1))) (fun _ hk => hk.2) (.int .i64 ((rd_T77 l0 x21_1).f2))) (fun _ hk => hk.2) (.int .i64 ((rd_T77 l0 x21_1).f3))) (fun _ hk => hk.2) (.int .i64 ((rd_T77 l0 x21_1).f4))) (fun _ hk => hk.2) (.int .i64 ((rd_T77 l0 x21_1).f5))) (fun _ hk => hk.2) (.int .i64 ((rd_T77 l0 x21_1).f6))) (fun _ hk => trivial)⟩, ⟨bC_ GE231.out⟩⟩
        ·
         rw [if_neg c11] at H
         exact absurd H (by simp)
       ·
        rw [if_neg c10] at H
        exact absurd H (by simp)
      ·
       rw [if_neg c9] at H
       exact absurd H (by simp)
     ·
      rw [if_neg c8] at H
      have c8b0 : decide (x21_1 < (l0.length : Int)) = false := decide_eq_false c8
      clear c8
      by_cases c25 : x9_1 < 0
      ·
       rw [if_pos c25] at H
       have c25b0 : decide (x9_1 < 0) = true := decide_eq_true c25
       clear c25
       simp only [Option.some.injEq, Prod.mk.injEq] at H
       obtain ⟨rfl, rfl⟩ := H
       go_wp2
       repeat (go_quiet (fail); try go_wp2)
       go_ret2
       exact ⟨_, er_, by first | exact Kd.R_nil _ _ _ _ _ | exact Kd.N_nil _ _ _ _ _ | exact Kd.V_nil _ _ _ _ _ | exact Kd.Q_nil _ _ _ _ _ | exact Kd.S_nil _ _ _ _ _, bB_⟩
      ·
       rw [if_neg c25] at H
       have c25b0 : decide (x9_1 < 0) = false := decide_eq_false c25
       clear c25
       replace H := Option.bind_eq_some_iff.mp H
       obtain ⟨t234, A260, H⟩ := H
       replace H : (impl_shareDemand.l1 k1 l0 l1 x8_1 x9_1 t234 (t234.length : Int) 0) = some (r1, r2) := H
       have A26 := Aside0.mk A260
       clear A260
       have H' := Aside0.mk H
       clear H
       go_wp2_with (first | (go_at_call 114; (with_reducible refine (impl_meritOrder.calls _ _ l0 t234 _ ?side1 ?side2 A26.out).mono ?_); (case side1 => exact cA_ (Kd.C_below HR0.out HB.out)); (case side2 => exact HC0.out); rintro e w27 ⟨v235, rfl, ho0, hb⟩; have n0_ := Aside0.mk (Kd.R_elder' (rA_ HO_8.out) (Kd.R_base ho0) hb); have n1_ := Aside0.mk (Kd.R_lower (Kd.R_new' ho0 (Kd.R_lt (rA_ HO_8.out))) (below_size bB_)); have n2_ := Aside0.mk (below_step bB_ hb); clear HO_8; clear HB; have HO_8 := n0_; have HO236 := n1_; have HB := n2_; clear n0_ n1_ n2_; (try clear hb); (try clear hb2); (try clear hk); (try clear hi); (try clear ho0); obtain ⟨Ao28, co28, eo28⟩ := Kd.R_slice HO236.out; subst eo28))
       repeat (go_quiet (first | (go_at_call 114; (with_reducible refine (impl_meritOrder.calls _ _ l0 t234 _ ?side1 ?side2 A26.out).mono ?_); (case side1 => exact cA_ (Kd.C_below HR0.out HB.out)); (case side2 => exact HC0.out); rintro e w27 ⟨v235, rfl, ho0, hb⟩; have n0_ := Aside0.mk (Kd.R_elder' (rA_ HO_8.out) (Kd.R_base ho0) hb); have n1_ := Aside0.mk (Kd.R_lower (Kd.R_new' ho0 (Kd.R_lt (rA_ HO_8.out))) (below_size bB_)); have n2_ := Aside0.mk (below_step bB_ hb); clear HO_8; clear HB; have HO_8 := n0_; have HO236 := n1_; have HB := n2_; clear n0_ n1_ n2_; (try clear hb); (try clear hb2); (try clear hk); (try clear hi); (try clear ho0); obtain ⟨Ao28, co28, eo28⟩ := Kd.R_slice HO236.out; subst eo28)); try go_wp2_with (first | (go_at_call 114; (with_reducible refine (impl_meritOrder.calls _ _ l0 t234 _ ?side1 ?side2 A26.out).mono ?_); (case side1 => exact cA_ (Kd.C_below HR0.out HB.out)); (case side2 => exact HC0.out); rintro e w27 ⟨v235, rfl, ho0, hb⟩; have n0_ := Aside0.mk (Kd.R_elder' (rA_ HO_8.out) (Kd.R_base ho0) hb); have n1_ := Aside0.mk (Kd.R_lower (Kd.R_new' ho0 (Kd.R_lt (rA_ HO_8.out))) (below_size bB_)); have n2_ := Aside0.mk (below_step bB_ hb); clear HO_8; clear HB; have HO_8 := n0_; have HO236 := n1_; have HB := n2_; clear n0_ n1_ n2_; (try clear hb); (try clear hb2); (try clear hk); (try clear hi); (try clear ho0); obtain ⟨Ao28, co28, eo28⟩ := Kd.R_slice HO236.out; subst eo28)))
       go_loopg [9, 45] k1 (fun kq v9 v45 w' => ∃ (x8_2 : List Int) (x9_2 : Int) (x45_2 : Int), v9 = .int .i64 x9_2 ∧ v45 = .int .i64 x45_2 ∧ Aside0 (impl_shareDemand.l1 kq l0 l1 x8_2 x9_2 t234 (t234.length : Int) x45_2 = some (r1, r2)) ∧ Aside0 (kq ≤ k1) ∧ Aside0 (Kd.R (Kd.int .i64) 2 w' w.heap.size (fun k_ => some k_ ≠ ((.slice Ao28 t234.length co28) : Value).ownBlock) v228 x8_2) ∧ Aside0 (Kd.R (Kd.int .i64) 2 w' w.heap.size (fun k_ => some k_ ≠ (v228 : Value).ownBlock) (.slice Ao28 t234.length co28) t234) ∧ Aside0 (Below w.heap.size w w'))
       case atStart => exact ⟨(x8_1), (x9_1), (0), rs_, rs_, H', ⟨Nat.le_refl _⟩, ⟨by (with_reducible repeat (first | apply Kd.R_alloc | apply Kd.R_drewN | apply Kd.R_drew)); exact Kd.R_mono HO_8.out (fun _ hk => hk.2)⟩, ⟨by (with_reducible repeat (first | apply Kd.R_alloc | apply Kd.R_drewN | apply Kd.R_drew)); exact Kd.R_mono HO236.out (fun _ hk => hk.2)⟩, ⟨bB_⟩⟩
       case round =>
        clear H'
        try clear c1
        try clear p1
        try clear q1
        try clear hx1
        try clear c2
        try clear p2
        try clear q2
        try clear hx2
        try clear c4
        try clear c4b0
        try clear c4b1
        try clear c5
        try clear c5b0
        try clear c5b1
        try clear c6
        try clear p6
        try clear c8
        try clear c8b0
        try clear c9
        try clear c9b0
        try clear c10
        try clear c10b0
        try clear c11
        try clear c11b0
        try clear q12
        try clear c13
        try clear c14
        try clear c14b0
        try clear p15
        try clear q15
        try clear hx15
        try clear hf15
        try clear p23
        try clear q23
        try clear hx23
        try clear c25
        try clear c25b0
        try clear hcz17_0
        try clear hcz17_1
        try clear hcz17_2
        try clear hcz17_3
        try clear hcz17_4
        try clear hcz17_5
        try clear hcz17_6
        try clear hcz19_0
        try clear hcz19_1
        try clear hcz19_2
        try clear hcz19_3
        try clear hcz19_4
        try clear hcz19_5
        try clear hcz19_6
        try clear hcz22_0
        try clear hcz22_1
        try clear hcz22_2
        try clear hcz22_3
        try clear hcz22_4
        try clear hcz22_5
        try clear hcz22_6
        try clear hcz24_0
        try clear hcz24_1
        try clear hcz24_2
        try clear hcz24_3
        try clear hcz24_4
        try clear hcz24_5
        try clear hcz24_6
        try clear hfz17_0
        try clear hfz17_1
        try clear hfz17_2
        try clear hfz17_3
        try clear hfz17_4
        try clear hfz17_5
        try clear hfz17_6
        try clear hfz19_0
        try clear hfz19_1
        try clear hfz19_2
        try clear hfz19_3
        try clear hfz19_4
        try clear hfz19_5
        try clear hfz19_6
        try clear hfz22_0
        try clear hfz22_1
        try clear hfz22_2
        try clear hfz22_3
        try clear hfz22_4
        try clear hfz22_5
        try clear hfz22_6
        try clear hfz24_0
        try clear hfz24_1
        try clear hfz24_2
        try clear hfz24_3
        try clear hfz24_4
        try clear hfz24_5
        try clear hfz24_6
        try clear hx15_0
        try clear hx230_0
        try clear hx230_1
        try clear hx230_2
        try clear hx230_3
        try clear hx230_4
        try clear hx230_5
        try clear hx230_6
        try clear hx232_0
        try clear p15
        try clear p2
        try clear p230
        try clear p232
        try clear q15
        try clear q230
        try clear q232
        obtain ⟨x8_2, x9_2, x45_2, rfl, rfl, HA, HK2, HO_8, HO_43, HB⟩ := hrel
        cases gk with
        | zero => exact absurd HA.out (by simp [impl_shareDemand.l1])
        | succ k2 =>
         have H := HA.out
         clear HA
         simp only [impl_shareDemand.l1] at H
         by_cases c29 : x45_2 < (t234.length : Int)
         ·
          rw [if_pos c29] at H
          have c29b0 : decide (x45_2 < (t234.length : Int)) = true := decide_eq_true c29
          clear c29
          by_cases c30 : 0 ≤ x45_2
          ·
           rw [if_pos c30] at H
           have c30b0 : decide (0 ≤ x45_2) = true := decide_eq_true c30
           clear c30
           by_cases c31 : x45_2 < (t234.length : Int)
           ·
            rw [if_pos c31] at H
            have c31b0 : decide (x45_2 < (t234.length : Int)) = true := decide_eq_true c31
            clear c31
            by_cases c32 : 0 ≤ (rd t234 x45_2)
            ·
             rw [if_pos c32] at H
             have c32b0 : decide (0 ≤ (rd t234 x45_2)) = true := decide_eq_true c32
             clear c32
             by_cases c33 : (rd t234 x45_2) < (l1.length : Int)
             ·
              rw [if_pos c33] at H
              have c33b0 : decide ((rd t234 x45_2) < (l1.length : Int)) = true := decide_eq_true c33
              clear c33
              obtain ⟨bq34, hbq34⟩ : ∃ b_ : Bool, b_ = (rdOf false l1 (rd t234 x45_2)) := ⟨_, rfl⟩
              replace H : (if bq34 = true then (if (rd t234 x45_2) < (l0.length : Int) then (if (rd t234 x45_2) < (x8_2.length : Int) then (impl_shareDemand.l1 k2 l0 l1 (x8_2.set ((rd t234 x45_2) : Int).toNat (wrap64 ((rd x8_2 (rd t234 x45_2)) + (mn (wrap64 (((rd_T77 l0 (rd t234 x45_2)).f2) - ((rd_T77 l0 (rd t234 x45_2)).f1))) x9_2)))) (wrap64 (x9_2 - (mn (wrap64 (((rd_T77 l0 (rd t234 x45_2)).f2) - ((rd_T77 l0 (rd t234 x45_2)).f1))) x9_2))) t234 (t234.length : Int) (wrap64 (x45_2 + 1))) else (none)) else (none)) else (impl_shareDemand.l1 k2 l0 l1 x8_2 x9_2 t234 (t234.length : Int) (wrap64 (x45_2 + 1)))) = some (r1, r2) := by rw [← hbq34] at H; exact H
              have Nbq34 := Aside0.mk hbq34
              clear hbq34
              by_cases c35 : bq34 = true
              ·
               subst c35
               have H1 : (if (rd t234 x45_2) < (l0.length : Int) then (if (rd t234 x45_2) < (x8_2.length : Int) then (impl_shareDemand.l1 k2 l0 l1 (x8_2.set ((rd t234 x45_2) : Int).toNat (wrap64 ((rd x8_2 (rd t234 x45_2)) + (mn (wrap64 (((rd_T77 l0 (rd t234 x45_2)).f2) - ((rd_T77 l0 (rd t234 x45_2)).f1))) x9_2)))) (wrap64 (x9_2 - (mn (wrap64 (((rd_T77 l0 (rd t234 x45_2)).f2) - ((rd_T77 l0 (rd t234 x45_2)).f1))) x9_2))) t234 (t234.length : Int) (wrap64 (x45_2 + 1))) else (none)) else (none)) = some (r1, r2) := by rw [if_pos rfl] at H; exact H
               clear H
               have H := H1
               clear H1
               by_cases c36 : (rd t234 x45_2) < (l0.length : Int)
               ·
                rw [if_pos c36] at H
                have c36b0 : decide ((rd t234 x45_2) < (l0.length : Int)) = true := decide_eq_true c36
                clear c36
                obtain ⟨ji37, hji37⟩ : ∃ j_ : Int, (mn (wrap64 (((rd_T77 l0 (rd t234 x45_2)).f2) - ((rd_T77 l0 (rd t234 x45_2)).f1))) x9_2) = j_ := ⟨_, rfl⟩
                replace H : (if (rd t234 x45_2) < (x8_2.length : Int) then (impl_shareDemand.l1 k2 l0 l1 (x8_2.set ((rd t234 x45_2) : Int).toNat (wrap64 ((rd x8_2 (rd t234 x45_2)) + (ji37)))) (wrap64 (x9_2 - (ji37))) t234 (t234.length : Int) (wrap64 (x45_2 + 1))) else (none)) = some (r1, r2) := by first | (rw [hji37] at H; exact H) | (simp only [hji37] at H ⊢; exact H)
                have hji37_ : (if x9_2 < (wrap64 (((rd_T77 l0 (rd t234 x45_2)).f2) - ((rd_T77 l0 (rd t234 x45_2)).f1))) then x9_2 else (wrap64 (((rd_T77 l0 (rd t234 x45_2)).f2) - ((rd_T77 l0 (rd t234 x45_2)).f1)))) = ji37 := hji37
                by_cases c38 : (rd t234 x45_2) < (x8_2.length : Int)
                ·
                 rw [if_pos c38] at H
                 have c38b0 : decide ((rd t234 x45_2) < (x8_2.length : Int)) = true := decide_eq_true c38
                 clear c38
                 obtain ⟨y242, hy242⟩ : ∃ y_ : List Int, y_ = (x8_2.set ((rd t234 x45_2) : Int).toNat (wrap64 ((rd x8_2 (rd t234 x45_2)) + (ji37)))) := ⟨_, rfl⟩
                 replace H : (impl_shareDemand.l1 k2 l0 l1 y242 (wrap64 (x9_2 - (ji37))) t234 (t234.length : Int) (wrap64 (x45_2 + 1))) = some (r1, r2) := by first | (rw [hy242]; with_reducible exact H) | (have H2_ := (Option.bind_some _ _).symm.trans H; rw [hy242]; with_reducible exact H2_) | (have H2_ := (Option.bind_some _ _).symm.trans H; with_reducible exact H2_) | with_reducible exact H | (rw [hy242]; exact H) | exact H
                 have Ny242 := Aside0.mk hy242
                 clear hy242
                 have H' := Aside0.mk H
                 clear H
                 have p237 : 0 ≤ (x45_2 : Int) := of_decide_eq_true as_
                 have q237 : x45_2 < (t234.length : Int) := of_decide_eq_true as_
                 obtain ⟨ad237, e237, hx237_0⟩ := Kd.at_int (Kd.R_reads' HO_43.out).2.2 x45_2 p237 q237
                 cases e237
                 replace p237 := eq_true p237
                 replace q237 := eq_true q237
                 have p238 : 0 ≤ ((rd t234 x45_2) : Int) := of_decide_eq_true as_
                 have q238 : (rd t234 x45_2) < (l1.length : Int) := of_decide_eq_true as_
                 obtain ⟨ad238, e238, hx238_0⟩ := Kd.at_bool HR1.out (rd t234 x45_2) p238 q238
                 (try rw [← Nbq34.out] at hx238_0)
                 cases e238
                 replace hx238_0 := cl_ HB hx238_0
                 replace p238 := eq_true p238
                 replace q238 := eq_true q238
                 have p239 : 0 ≤ ((rd t234 x45_2) : Int) := of_decide_eq_true as_
                 have q239 : (rd t234 x45_2) < (l0.length : Int) := of_decide_eq_true as_
                 obtain ⟨ad239, e239, hx239_0, hx239_1, hx239_2, hx239_3, hx239_4, hx239_5, hx239_6⟩ := at_T77 HR0.out (rd t234 x45_2) p239 q239
                 cases e239
                 replace hx239_0 := cl_ HB hx239_0
                 replace hx239_1 := cl_ HB hx239_1
                 replace hx239_2 := cl_ HB hx239_2
                 replace hx239_3 := cl_ HB hx239_3
                 replace hx239_4 := cl_ HB hx239_4
                 replace hx239_5 := cl_ HB hx239_5
                 replace hx239_6 := cl_ HB hx239_6
                 replace p239 := eq_true p239
                 replace q239 := eq_true q239
                 have p240 : 0 ≤ ((rd t234 x45_2) : Int) := of_decide_eq_true as_
                 have q240 : (rd t234 x45_2) < (l0.length : Int) := of_decide_eq_true as_
                 obtain ⟨ad240, e240, hx240_0, hx240_1, hx240_2, hx240_3, hx240_4, hx240_5, hx240_6⟩ := at_T77 HR0.out (rd t234 x45_2) p240 q240
                 obtain rfl : ad239 = ad240 := (by injection e240)
                 replace hx240_0 := cl_ HB hx240_0
                 replace hx240_1 := cl_ HB hx240_1
                 replace hx240_2 := cl_ HB hx240_2
                 replace hx240_3 := cl_ HB hx240_3
                 replace hx240_4 := cl_ HB hx240_4
                 replace hx240_5 := cl_ HB hx240_5
                 replace hx240_6 := cl_ HB hx240_6
                 replace p240 := eq_true p240
                 replace q240 := eq_true q240
                 obtain ⟨Ao40, co40, eo40⟩ := Kd.R_slice HO_8.out
                 subst eo40
                 have p241 : 0 ≤ ((rd t234 x45_2) : Int) := of_decide_eq_true as_
                 have q241 : (rd t234 x45_2) < (x8_2.length : Int) := of_decide_eq_true as_
                 obtain ⟨ad241, e241, hx241_0⟩ := Kd.at_int (Kd.R_reads' HO_8.out).2.2 (rd t234 x45_2) p241 q241
                 cases e241
                 replace p241 := eq_true p241
                 replace q241 := eq_true q241
                 have p39 : 0 ≤ ((rd t234 x45_2) : Int) := of_decide_eq_true as_
                 have q39 : ((rd t234 x45_2) : Int) < ((x8_2.length : Int) : Int) := of_decide_eq_true as_
                 obtain ⟨go39, co39, eo39, gb39, gl39, cl39, HG39⟩ := Kd.R_form HO_8.out (by omega)
                 (first | cases eo39 | (injection eo39 with ea_ en_ ec_; (first | subst ea_ | (injection ea_ with ea_; subst ea_)); subst ec_; clear en_))
                 have GB39 := Aside0.mk gb39
                 have GG39 := Aside0.mk HG39
                 clear gb39 gl39 HG39
                 (first | simp only [add_plain] at hx241_0 | skip)
                 obtain ⟨hx39_0, hf39_0⟩ := Kd.R_celln 0 HO_8.out ((rd t234 x45_2) : Int) p39 q39
                 replace p39 := eq_true p39
                 replace q39 := eq_true q39
                 have HP41 := Kd.R_putg HO_8.out ((rd t234 x45_2) : Int) (wrap64 ((rd x8_2 (rd t234 x45_2)) + (ji37)))
                 go_wp2_with (first | ((with_reducible refine gate_store (t := 2) (p := 72) rfl ?_); (try (rw [drewN_self wr]; generalize hq_ : World.drewN wr _ = wr; have n0_ := Aside0.mk (Kd.R_at hq_ HO_8.out); have n1_ := Aside0.mk (Kd.R_at hq_ HO_43.out); have n2_ := Aside0.mk (below_at hq_ HB.out); clear hq_ HO_8 HO_43 HB; have HO_8 := n0_; have HO_43 := n1_; have HB := n2_; clear n0_ n1_ n2_; (try (have HP41 := Kd.R_putg HO_8.out ((rd t234 x45_2) : Int) (wrap64 ((rd x8_2 (rd t234 x45_2)) + (ji37))))); (try (obtain ⟨hx39_0, hf39_0⟩ := Kd.R_celln 0 HO_8.out ((rd t234 x45_2) : Int) (of_eq_true p39) (of_eq_true q39))))); refine store_event (t := 2) (p := 72) (v := ?vo_w42) (w1 := (wr.setCell ⟨go39, ((rd t234 x45_2) : Int).toNat, none⟩ (.int .i64 (wrap64 ((rd x8_2 (rd t234 x45_2)) + (ji37)))))) ?hg ?ho ?hn ?hr ?_; (case ho => rfl); (case hg => rfl); (case hn => rfl); (case hr => first | (go_simp; done) | (go_simp; rfl)); intro w42 hw; have hg : wr.grownBy w42 (some go39) := (by rw [hw]; exact HP41.2); have hp_ : Kd.R (Kd.int .i64) 2 w42 w.heap.size (fun k_ => some k_ ≠ (.slice (some ad237) t234.length co28 : Value).ownBlock) (.slice (some ⟨go39, 0, none⟩) x8_2.length co40) y242 := (by rw [hw, Ny242.out]; exact HP41.1); clear HP41; have n0_ := Aside0.mk (hp_); have n1_ := Aside0.mk (Kd.R_after (v := (.slice (some ⟨go39, 0, none⟩) x8_2.length co40)) (v1 := (.slice (some ⟨go39, 0, none⟩) x8_2.length co40)) (ok := (fun _ => True)) (by (with_reducible repeat (first | apply Kd.R_alloc | apply Kd.R_drewN | apply Kd.R_drew)); exact Kd.R_mono HO_43.out (fun _ hk => ⟨trivial, hk⟩)) hg (.inl rfl)); have n2_ := Aside0.mk ((by rw [hw]; exact below_set (HB.out) GB39.out : Below w.heap.size w w42)); clear HO_8; clear HO_43; clear HB; have HO_8 := n0_; have HO_43 := n1_; have HB := n2_; clear n0_ n1_ n2_; clear hg hw hp_))
                 repeat (go_quiet (first | ((with_reducible refine gate_store (t := 2) (p := 72) rfl ?_); (try (rw [drewN_self wr]; generalize hq_ : World.drewN wr _ = wr; have n0_ := Aside0.mk (Kd.R_at hq_ HO_8.out); have n1_ := Aside0.mk (Kd.R_at hq_ HO_43.out); have n2_ := Aside0.mk (below_at hq_ HB.out); clear hq_ HO_8 HO_43 HB; have HO_8 := n0_; have HO_43 := n1_; have HB := n2_; clear n0_ n1_ n2_; (try (have HP41 := Kd.R_putg HO_8.out ((rd t234 x45_2) : Int) (wrap64 ((rd x8_2 (rd t234 x45_2)) + (ji37))))); (try (obtain ⟨hx39_0, hf39_0⟩ := Kd.R_celln 0 HO_8.out ((rd t234 x45_2) : Int) (of_eq_true p39) (of_eq_true q39))))); refine store_event (t := 2) (p := 72) (v := ?vo_w42) (w1 := (wr.setCell ⟨go39, ((rd t234 x45_2) : Int).toNat, none⟩ (.int .i64 (wrap64 ((rd x8_2 (rd t234 x45_2)) + (ji37)))))) ?hg ?ho ?hn ?hr ?_; (case ho => rfl); (case hg => rfl); (case hn => rfl); (case hr => first | (go_simp; done) | (go_simp; rfl)); intro w42 hw; have hg : wr.grownBy w42 (some go39) := (by rw [hw]; exact HP41.2); have hp_ : Kd.R (Kd.int .i64) 2 w42 w.heap.size (fun k_ => some k_ ≠ (.slice (some ad237) t234.length co28 : Value).ownBlock) (.slice (some ⟨go39, 0, none⟩) x8_2.length co40) y242 := (by rw [hw, Ny242.out]; exact HP41.1); clear HP41; have n0_ := Aside0.mk (hp_); have n1_ := Aside0.mk (Kd.R_after (v := (.slice (some ⟨go39, 0, none⟩) x8_2.length co40)) (v1 := (.slice (some ⟨go39, 0, none⟩) x8_2.length co40)) (ok := (fun _ => True)) (by (with_reducible repeat (first | apply Kd.R_alloc | apply Kd.R_drewN | apply Kd.R_drew)); exact Kd.R_mono HO_43.out (fun _ hk => ⟨trivial, hk⟩)) hg (.inl rfl)); have n2_ := Aside0.mk ((by rw [hw]; exact below_set (HB.out) GB39.out : Below w.heap.size w w42)); clear HO_8; clear HO_43; clear HB; have HO_8 := n0_; have HO_43 := n1_; have HB := n2_; clear n0_ n1_ n2_; clear hg hw hp_)); try go_wp2_with (first | ((with_reducible refine gate_store (t := 2) (p := 72) rfl ?_); (try (rw [drewN_self wr]; generalize hq_ : World.drewN wr _ = wr; have n0_ := Aside0.mk (Kd.R_at hq_ HO_8.out); have n1_ := Aside0.mk (Kd.R_at hq_ HO_43.out); have n2_ := Aside0.mk (below_at hq_ HB.out); clear hq_ HO_8 HO_43 HB; have HO_8 := n0_; have HO_43 := n1_; have HB := n2_; clear n0_ n1_ n2_; (try (have HP41 := Kd.R_putg HO_8.out ((rd t234 x45_2) : Int) (wrap64 ((rd x8_2 (rd t234 x45_2)) + (ji37))))); (try (obtain ⟨hx39_0, hf39_0⟩ := Kd.R_celln 0 HO_8.out ((rd t234 x45_2) : Int) (of_eq_true p39) (of_eq_true q39))))); refine store_event (t := 2) (p := 72) (v := ?vo_w42) (w1 := (wr.setCell ⟨go39, ((rd t234 x45_2) : Int).toNat, none⟩ (.int .i64 (wrap64 ((rd x8_2 (rd t234 x45_2)) + (ji37)))))) ?hg ?ho ?hn ?hr ?_; (case ho => rfl); (case hg => rfl); (case hn => rfl); (case hr => first | (go_simp; done) | (go_simp; rfl)); intro w42 hw; have hg : wr.grownBy w42 (some go39) := (by rw [hw]; exact HP41.2); have hp_ : Kd.R (Kd.int .i64) 2 w42 w.heap.size (fun k_ => some k_ ≠ (.slice (some ad237) t234.length co28 : Value).ownBlock) (.slice (some ⟨go39, 0, none⟩) x8_2.length co40) y242 := (by rw [hw, Ny242.out]; exact HP41.1); clear HP41; have n0_ := Aside0.mk (hp_); have n1_ := Aside0.mk (Kd.R_after (v := (.slice (some ⟨go39, 0, none⟩) x8_2.length co40)) (v1 := (.slice (some ⟨go39, 0, none⟩) x8_2.length co40)) (ok := (fun _ => True)) (by (with_reducible repeat (first | apply Kd.R_alloc | apply Kd.R_drewN | apply Kd.R_drew)); exact Kd.R_mono HO_43.out (fun _ hk => ⟨trivial, hk⟩)) hg (.inl rfl)); have n2_ := Aside0.mk ((by rw [hw]; exact below_set (HB.out) GB39.out : Below w.heap.size w w42)); clear HO_8; clear HO_43; clear HB; have HO_8 := n0_; have HO_43 := n1_; have HB := n2_; clear n0_ n1_ n2_; clear hg hw hp_)))
                 go_roundg k2
                 case measure => have := HK1.out; have := HK2.out; omega
                 case rel => exact ⟨(y242), (wrap64 (x9_2 - (ji37))), (wrap64 (x45_2 + 1)), (by first | rfl | (simp; done) | (simp only [← hji37] <;> (first | rfl | simp)) | (simp [*]; done)), rs_, H', ⟨by have := HK1.out; have := HK2.out; omega⟩, ⟨rA_ HO_8.out⟩, ⟨by (with_reducible repeat (first | apply Kd.R_alloc | apply Kd.R_drewN | apply Kd.R_drew)); exact Kd.R_mono HO_43.out (fun _ hk => hk.2)⟩, ⟨bB_⟩⟩
                ·
                 rw [if_neg c38] at H
                 exact absurd H (by simp)
               ·
                rw [if_neg c36] at H
                exact absurd H (by simp)
              ·
               replace c35 := Bool.eq_false_iff.mpr c35
               subst c35
               have H1 : (impl_shareDemand.l1 k2 l0 l1 x8_2 x9_2 t234 (t234.length : Int) (wrap64 (x45_2 + 1))) = some (r1, r2) := by rw [if_neg (show ¬ (false = true) by decide)] at H; exact H
               clear H
               have H := H1
               clear H1
               have H' := Aside0.mk H
               clear H
               have p237 : 0 ≤ (x45_2 : Int) := of_decide_eq_true as_
               have q237 : x45_2 < (t234.length : Int) := of_decide_eq_true as_
               obtain ⟨ad237, e237, hx237_0⟩ := Kd.at_int (Kd.R_reads' HO_43.out).2.2 x45_2 p237 q237
               cases e237
               replace p237 := eq_true p237
               replace q237 := eq_true q237
               have p238 : 0 ≤ ((rd t234 x45_2) : Int) := of_decide_eq_true as_
               have q238 : (rd t234 x45_2) < (l1.length : Int) := of_decide_eq_true as_
               obtain ⟨ad238, e238, hx238_0⟩ := Kd.at_bool HR1.out (rd t234 x45_2) p238 q238
               (try rw [← Nbq34.out] at hx238_0)
               cases e238
               replace hx238_0 := cl_ HB hx238_0
               replace p238 := eq_true p238
               replace q238 := eq_true q238
               go_wp2
               repeat (go_quiet (fail); try go_wp2)
               go_roundg k2
               case measure => have := HK1.out; have := HK2.out; omega
               case rel => exact ⟨(x8_2), (x9_2), (wrap64 (x45_2 + 1)), rs_, rs_, H', ⟨by have := HK1.out; have := HK2.out; omega⟩, ⟨rA_ HO_8.out⟩, ⟨rA_ HO_43.out⟩, ⟨bB_⟩⟩
             ·
              rw [if_neg c33] at H
              exact absurd H (by simp)
            ·
             rw [if_neg c32] at H
             exact absurd H (by simp)
           ·
            rw [if_neg c31] at H
            exact absurd H (by simp)
          ·
           rw [if_neg c30] at H
           exact absurd H (by simp)
         ·
          rw [if_neg c29] at H
          have c29b0 : decide (x45_2 < (t234.length : Int)) = false := decide_eq_false c29
          clear c29
          simp only [Option.some.injEq, Prod.mk.injEq] at H
          obtain ⟨rfl, rfl⟩ := H
          go_wp2
          repeat (go_quiet (fail); try go_wp2)
          go_ret2
          exact ⟨_, er_, by (with_reducible repeat (first | apply Kd.R_alloc | apply Kd.R_drewN | apply Kd.R_drew)); exact Kd.R_mono HO_8.out (fun _ hk => trivial), bB_⟩
  ·
   rw [if_neg c5] at H
   exact absurd H (by simp)
 ·
  rw [if_neg c4] at H
  exact absurd H (by simp)

end Go.Proofs.Ytebkgebibammiaa.PFnExactIsWithin
