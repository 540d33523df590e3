-- PRINTED by print.py (a twelfth state) out of the translation. Not trusted: Lean checks it.
import Derived.Test.YtebkgebibammiaaPFnExactIsWithinx0
import Derived.Test.YtebkgebibammiaaPFnExactIsWithinx9
namespace Go.Proofs.Ytebkgebibammiaa.PFnExactIsWithin
open Go.RowKit Go.Proofs.YtebkgebibammiaaW.PrintWords Go.Proofs.YtebkgebibammiaaW.PrintLast Go.Proofs.YtebkgebibammiaaW.PrintMore
attribute [local go_sem] max2_int min2_int max_two min_two max_three min_three max_four min_four   -- for this text's walks alone
set_option linter.unusedVariables false
set_option linter.unusedSimpArgs false

/-! ### impl_ValidUnits: function 67 -/
mutual
def impl_ValidUnits.j0 : Nat → List (S77) → Bool → Option (Bool)
 | 0, _, _ => none
 | k + 1, x0, x12 => if x12 = true then (some false) else (impl_ValidUnits.l0 k x0 x0 (x0.length : Int) 0)
def impl_ValidUnits.l0 : Nat → List (S77) → List (S77) → Int → Int → Option (Bool)
 | 0, _, _, _, _ => none
 | k + 1, x0, x13, x14, x15 => if x15 < x14 then (if 0 ≤ x15 then (if x15 < (x13.length : Int) then ((impl_Unit_valid.f k ((rd_T77 x13 x15).f0) ((rd_T77 x13 x15).f1) ((rd_T77 x13 x15).f2) ((rd_T77 x13 x15).f3) ((rd_T77 x13 x15).f4) ((rd_T77 x13 x15).f5) ((rd_T77 x13 x15).f6)).bind fun t273 => (if t273 = true then (if x15 > 0 then (if 0 ≤ (wrap64 (x15 - 1)) then (if (wrap64 (x15 - 1)) < (x0.length : Int) then (if ((Op.bytesLess (((rd_T77 x0 (wrap64 (x15 - 1))).f0).toList) (((rd_T77 x13 x15).f0).toList)) = true) then (impl_ValidUnits.l0 k x0 x13 x14 (wrap64 (x15 + 1))) else (some false)) else (none)) else (none)) else (impl_ValidUnits.l0 k x0 x13 x14 (wrap64 (x15 + 1)))) else (some false))) else (none)) else (none)) else (some true)
end
def impl_ValidUnits.f (k : Nat) (l0 : List (S77)) : Option (Bool) := if (l0.length : Int) < 1 then (impl_ValidUnits.j0 k l0 true) else (impl_ValidUnits.j0 k l0 (decide ((l0.length : Int) > 4)))
theorem impl_ValidUnits.mono_l : ∀ k, (∀ y0 y1, LeO (impl_ValidUnits.j0 k y0 y1) (impl_ValidUnits.j0 (k + 1) y0 y1)) ∧ (∀ y0 y1 y2 y3, LeO (impl_ValidUnits.l0 k y0 y1 y2 y3) (impl_ValidUnits.l0 (k + 1) y0 y1 y2 y3))
 | 0 => ⟨fun _ _ r h => by simp [impl_ValidUnits.j0] at h, fun _ _ _ _ r h => by simp [impl_ValidUnits.l0] at h⟩
 | k + 1 => by
  obtain ⟨ih0, ih1⟩ := impl_ValidUnits.mono_l k
  refine ⟨?_, ?_⟩
  ·
   intro y0 y1
   unfold impl_ValidUnits.j0
   repeat' first
   | (with_reducible exact ih0 _ _)
   | (with_reducible exact ih1 _ _ _ _)
   | (with_reducible exact impl_Unit_valid.mono _ _ _ _ _ _ _ _)
   | (with_reducible exact LeO.refl _)
   | (with_reducible exact LeO.none _)
   | (with_reducible refine LeO.ite ?_ ?_)
   | (with_reducible refine LeO.bind ?_ (fun _ => ?_))
   | exact ih0 _ _
   | exact ih1 _ _ _ _
   | exact impl_Unit_valid.mono _ _ _ _ _ _ _ _
   | exact LeO.none _
   | refine LeO.ite ?_ ?_
   | refine LeO.bind ?_ (fun _ => ?_)
  ·
   intro y0 y1 y2 y3
   unfold impl_ValidUnits.l0
   repeat' first
   | (with_reducible exact ih0 _ _)
   | (with_reducible exact ih1 _ _ _ _)
   | (with_reducible exact impl_Unit_valid.mono _ _ _ _ _ _ _ _)
   | (with_reducible exact LeO.refl _)
   | (with_reducible exact LeO.none _)
   | (with_reducible refine LeO.ite ?_ ?_)
   | (with_reducible refine LeO.bind ?_ (fun _ => ?_))
   | exact ih0 _ _
   | exact ih1 _ _ _ _
   | exact impl_Unit_valid.mono _ _ _ _ _ _ _ _
   | exact LeO.none _
   | refine LeO.ite ?_ ?_
   | refine LeO.bind ?_ (fun _ => ?_)
theorem impl_ValidUnits.mono : ∀ a0 k, LeO (impl_ValidUnits.f k a0) (impl_ValidUnits.f (k + 1) a0) := by
 intro a0 k
 obtain ⟨ih0, ih1⟩ := impl_ValidUnits.mono_l k
 unfold impl_ValidUnits.f
 repeat' first
   | (with_reducible exact ih0 _ _)
   | (with_reducible exact ih1 _ _ _ _)
   | (with_reducible exact impl_Unit_valid.mono _ _ _ _ _ _ _ _)
   | (with_reducible exact LeO.refl _)
   | (with_reducible exact LeO.none _)
   | (with_reducible refine LeO.ite ?_ ?_)
   | (with_reducible refine LeO.bind ?_ (fun _ => ?_))
   | exact ih0 _ _
   | exact ih1 _ _ _ _
   | exact impl_Unit_valid.mono _ _ _ _ _ _ _ _
   | exact LeO.none _
   | refine LeO.ite ?_ ?_
   | refine LeO.bind ?_ (fun _ => ?_)
def impl_ValidUnits.T6 : Bool × List (List Nat × List Nat) := (true, [([], []), ([0], [0]), ([1], [1]), ([2, 1], [2]), ([3], [3]), ([4, 3], [3, 4]), ([5, 3, 3], [3, 5]), ([6], [6]), ([7, 6], [6, 7]), ([6], [6]), ([6], [6]), ([10, 6], [6, 10]), ([9, 11, 6], [6, 9, 11]), ([12, 6], [6, 12]), ([13, 6], [6, 13]), ([8, 14, 6], [6, 8, 14]), ([6, 15, 3], [3, 6, 15]), ([3, 16], [3, 16])])
def impl_ValidUnits.B6 : List Nat := [0, 1, 3, 7, 15, 31, 63, 127, 255, 127, 127, 1151, 3711, 7807, 15999, 32767, 65535, 131071]
theorem impl_ValidUnits.tab6 : rtab .any (opsOf Try.f67 6) = impl_ValidUnits.T6 := by kernel_rfl
theorem impl_ValidUnits.bits6 : waitsOk impl_ValidUnits.T6.2 impl_ValidUnits.B6 = true := by kernel_rfl
set_option maxHeartbeats 8000000 in
set_option maxRecDepth 100000 in
theorem impl_ValidUnits.calls (k : Nat) (A0 : Option Addr) (c0 : Nat) (l0 : List (S77)) (r : Bool) (w : World) (hr0 : Kd.C k77 w A0 l0.length l0) (hc0 : l0.length ≤ c0) (h : impl_ValidUnits.f k l0 = some r) :
  Calls Try.prog 67 #[.slice A0 l0.length c0] w fun e w' => e = .returned (.bool r) ∧ Below w.heap.size w w' := by
 have hu77 := Try.underlying77
 have HR0 := Aside0.mk hr0
 have HC0 := Aside0.mk hc0
 clear hr0 hc0
 have HB := Aside0.mk (Below.refl w.heap.size w)
 have H : (if (l0.length : Int) < 1 then (impl_ValidUnits.j0 k l0 true) else (impl_ValidUnits.j0 k l0 (decide ((l0.length : Int) > 4)))) = some r := h
 clear h
 have HC2 := Aside0.mk H
 clear H
 go_enter Try.func67, Try.ntmps67
 go_upto_region 1 with (fail)
 go_cut [12] (fun v12 wc => ∃ (kq : Nat) (x12_1 : Bool), v12 = .bool x12_1 ∧ Aside0 (impl_ValidUnits.j0 kq l0 x12_1 = some r) ∧ Aside0 (kq ≤ k) ∧ Aside0 (Below w.heap.size w wc))
 case first =>
  have H := HC2.out
  clear HC2
  by_cases c3 : (l0.length : Int) < 1
  ·
   rw [if_pos c3] at H
   have c3b0 : decide ((l0.length : Int) < 1) = true := decide_eq_true c3
   have c3b1 : decide (l0.length < 1) = true := decide_eq_true (by omega)
   clear c3
   (first | rw [c3b0] | (simp only [i64_w, i32_w]; rw [c3b0]) | skip)
   have H' := Aside0.mk H
   clear H
   go_wp2
   go_meet
   case rel => exact ⟨_, (true), rs_, H', ⟨by first | omega | exact Nat.le_refl _⟩, ⟨bB_⟩⟩
  ·
   rw [if_neg c3] at H
   have c3b0 : decide ((l0.length : Int) < 1) = false := decide_eq_false c3
   have c3b1 : decide (l0.length < 1) = false := decide_eq_false (by omega)
   clear c3
   (first | rw [c3b0] | (simp only [i64_w, i32_w]; rw [c3b0]) | skip)
   have H' := Aside0.mk H
   clear H
   go_wp2
   go_meet
   case rel => exact ⟨_, (decide ((l0.length : Int) > 4)), rs_, H', ⟨by first | omega | exact Nat.le_refl _⟩, ⟨bB_⟩⟩
 case rest =>
  clear HC2
  try clear p2
  try clear c3
  try clear c3b0
  try clear c3b1
  obtain ⟨kq, x12_1, rfl, HA, HJ1, HB⟩ := hcut
  cases kq with
  | zero => exact absurd HA.out (by simp [impl_ValidUnits.j0])
  | succ kj1 =>
   have H := HA.out
   clear HA
   simp only [impl_ValidUnits.j0] at H
   by_cases c4 : x12_1 = true
   ·
    subst c4
    have H1 : (some false) = some r := by rw [if_pos rfl] at H; exact H
    clear H
    have H := H1
    clear H1
    obtain rfl := Option.some.inj H
    go_wp2
    go_ret
    exact ⟨er_, bB_⟩
   ·
    replace c4 := Bool.eq_false_iff.mpr c4
    subst c4
    have H1 : (impl_ValidUnits.l0 kj1 l0 l0 (l0.length : Int) 0) = some r := by rw [if_neg (show ¬ (false = true) by decide)] at H; exact H
    clear H
    have H := H1
    clear H1
    have H' := Aside0.mk H
    clear H
    go_wp2
    go_loopg [15] kj1 (fun kq v15 w' => ∃ (x15_2 : Int), v15 = .int .i64 x15_2 ∧ Aside0 (impl_ValidUnits.l0 kq l0 l0 (l0.length : Int) x15_2 = some r) ∧ Aside0 (kq ≤ kj1) ∧ Aside0 (Below w.heap.size w w'))
    case atStart => exact ⟨(0), rs_, H', ⟨Nat.le_refl _⟩, ⟨bB_⟩⟩
    case round =>
     clear H'
     try clear p2
     try clear c3
     try clear c3b0
     try clear c3b1
     try clear c4
     try clear p2
     obtain ⟨x15_2, rfl, HA, HK2, HB⟩ := hrel
     cases gk with
     | zero => exact absurd HA.out (by simp [impl_ValidUnits.l0])
     | succ k2 =>
      have H := HA.out
      clear HA
      simp only [impl_ValidUnits.l0] at H
      by_cases c5 : x15_2 < (l0.length : Int)
      ·
       rw [if_pos c5] at H
       have c5b0 : decide (x15_2 < (l0.length : Int)) = true := decide_eq_true c5
       clear c5
       by_cases c6 : 0 ≤ x15_2
       ·
        rw [if_pos c6] at H
        have c6b0 : decide (0 ≤ x15_2) = true := decide_eq_true c6
        clear c6
        by_cases c7 : x15_2 < (l0.length : Int)
        ·
         rw [if_pos c7] at H
         have c7b0 : decide (x15_2 < (l0.length : Int)) = true := decide_eq_true c7
         clear c7
         replace H := Option.bind_eq_some_iff.mp H
         obtain ⟨t273, A80, H⟩ := H
         replace H : (if t273 = true then (if x15_2 > 0 then (if 0 ≤ (wrap64 (x15_2 - 1)) then (if (wrap64 (x15_2 - 1)) < (l0.length : Int) then (if ((Op.bytesLess (((rd_T77 l0 (wrap64 (x15_2 - 1))).f0).toList) (((rd_T77 l0 x15_2).f0).toList)) = true) then (impl_ValidUnits.l0 k2 l0 l0 (l0.length : Int) (wrap64 (x15_2 + 1))) else (some false)) else (none)) else (none)) else (impl_ValidUnits.l0 k2 l0 l0 (l0.length : Int) (wrap64 (x15_2 + 1)))) else (some false)) = some r := H
         have A8 := Aside0.mk A80
         clear A80
         by_cases c9 : t273 = true
         ·
          subst c9
          have H1 : (if x15_2 > 0 then (if 0 ≤ (wrap64 (x15_2 - 1)) then (if (wrap64 (x15_2 - 1)) < (l0.length : Int) then (if ((Op.bytesLess (((rd_T77 l0 (wrap64 (x15_2 - 1))).f0).toList) (((rd_T77 l0 x15_2).f0).toList)) = true) then (impl_ValidUnits.l0 k2 l0 l0 (l0.length : Int) (wrap64 (x15_2 + 1))) else (some false)) else (none)) else (none)) else (impl_ValidUnits.l0 k2 l0 l0 (l0.length : Int) (wrap64 (x15_2 + 1)))) = some r := by rw [if_pos rfl] at H; exact H
          clear H
          have H := H1
          clear H1
          by_cases c10 : x15_2 > 0
          ·
           rw [if_pos c10] at H
           have c10b0 : decide (0 < x15_2) = true := decide_eq_true c10
           clear c10
           obtain ⟨ji11, hji11⟩ : ∃ j_ : Int, (wrap64 (x15_2 - 1)) = j_ := ⟨_, rfl⟩
           replace H : (if 0 ≤ (ji11) then (if (ji11) < (l0.length : Int) then (if ((Op.bytesLess (((rd_T77 l0 (ji11)).f0).toList) (((rd_T77 l0 x15_2).f0).toList)) = true) then (impl_ValidUnits.l0 k2 l0 l0 (l0.length : Int) (wrap64 (x15_2 + 1))) else (some false)) else (none)) else (none)) = some r := by first | (rw [hji11] at H; exact H) | (simp only [hji11] at H ⊢; exact H)
           (try rw [hji11] at A8)
           have hji11w : (IntKind.i64.wrap (x15_2 - 1)) = ji11 := (i64_w _).trans hji11
           by_cases c12 : 0 ≤ (ji11)
           ·
            rw [if_pos c12] at H
            have c12b0 : decide (0 ≤ (ji11)) = true := decide_eq_true c12
            clear c12
            by_cases c13 : (ji11) < (l0.length : Int)
            ·
             rw [if_pos c13] at H
             have c13b0 : decide ((ji11) < (l0.length : Int)) = true := decide_eq_true c13
             clear c13
             by_cases c14 : ((Op.bytesLess (((rd_T77 l0 (ji11)).f0).toList) (((rd_T77 l0 x15_2).f0).toList)) = true)
             ·
              rw [if_pos c14] at H
              have c14b0 : (Op.bytesLess (((rd_T77 l0 (ji11)).f0).toList) (((rd_T77 l0 x15_2).f0).toList)) = true := c14
              clear c14
              have H' := Aside0.mk H
              clear H
              have p271 : 0 ≤ (x15_2 : Int) := of_decide_eq_true as_
              have q271 : x15_2 < (l0.length : Int) := of_decide_eq_true as_
              obtain ⟨ad271, e271, hx271_0, hx271_1, hx271_2, hx271_3, hx271_4, hx271_5, hx271_6⟩ := at_T77 HR0.out x15_2 p271 q271
              cases e271
              replace hx271_0 := cl_ HB hx271_0
              replace hx271_1 := cl_ HB hx271_1
              replace hx271_2 := cl_ HB hx271_2
              replace hx271_3 := cl_ HB hx271_3
              replace hx271_4 := cl_ HB hx271_4
              replace hx271_5 := cl_ HB hx271_5
              replace hx271_6 := cl_ HB hx271_6
              replace p271 := eq_true p271
              replace q271 := eq_true q271
              try go_wp2_with (first | ((with_reducible refine gate_dst (N := 4) rfl ?_); (try (refine gate_guard (by rfl) ?_; dsimp only)); refine box_event ?hg (N := 4) ?hd (cs := #[.string (⟨#[]⟩ : ByteArray), .int .i64 0, .int .i64 0, .int .i64 0, .int .i64 0, .int .i64 0, .int .i64 0]) (t := 77) ?hr ?_; (case hd => rfl); (case hg => rfl); (case hr => first | (go_simp; done) | (go_simp; rfl)); intro gb272 hg w15 hbox hb; have n0_ := Aside0.mk (below_step bB_ hb); have n1_ := Aside0.mk (hbox); have n2_ := Aside0.mk ((by rw [hg]; exact (below_size bB_) : w.heap.size ≤ gb272)); have n3_ := Aside0.mk ((by rw [hg]; exact (below_size bB_) : w.heap.size ≤ gb272)); clear HB; have HB := n0_; have BK272 := n1_; have GW272 := n2_; have GE272 := n3_; clear n0_ n1_ n2_ n3_; clear hb hbox hg; have hcz16_0 : w15.cell? ⟨gb272, 0, none⟩ = some (.string (⟨#[]⟩ : ByteArray)) := (blk_cell BK272.out 0).trans rfl; have hcz16_1 : w15.cell? ⟨gb272, 1, none⟩ = some (.int .i64 0) := (blk_cell BK272.out 1).trans rfl; have hcz16_2 : w15.cell? ⟨gb272, 2, none⟩ = some (.int .i64 0) := (blk_cell BK272.out 2).trans rfl; have hcz16_3 : w15.cell? ⟨gb272, 3, none⟩ = some (.int .i64 0) := (blk_cell BK272.out 3).trans rfl; have hcz16_4 : w15.cell? ⟨gb272, 4, none⟩ = some (.int .i64 0) := (blk_cell BK272.out 4).trans rfl; have hcz16_5 : w15.cell? ⟨gb272, 5, none⟩ = some (.int .i64 0) := (blk_cell BK272.out 5).trans rfl; have hcz16_6 : w15.cell? ⟨gb272, 6, none⟩ = some (.int .i64 0) := (blk_cell BK272.out 6).trans rfl; have hfz16_0 := blk_frozen BK272.out 0; have hfz16_1 := blk_frozen BK272.out 1; have hfz16_2 := blk_frozen BK272.out 2; have hfz16_3 := blk_frozen BK272.out 3; have hfz16_4 := blk_frozen BK272.out 4; have hfz16_5 := blk_frozen BK272.out 5; have hfz16_6 := blk_frozen BK272.out 6))
              have n0_ : Aside0 ((((((((w15.setCell ⟨gb272, 0, none⟩ (.string ((rd_T77 l0 x15_2).f0))).setCell ⟨gb272, 1, none⟩ (.int .i64 ((rd_T77 l0 x15_2).f1))).setCell ⟨gb272, 2, none⟩ (.int .i64 ((rd_T77 l0 x15_2).f2))).setCell ⟨gb272, 3, none⟩ (.int .i64 ((rd_T77 l0 x15_2).f3))).setCell ⟨gb272, 4, none⟩ (.int .i64 ((rd_T77 l0 x15_2).f4))).setCell ⟨gb272, 5, none⟩ (.int .i64 ((rd_T77 l0 x15_2).f5))).setCell ⟨gb272, 6, none⟩ (.int .i64 ((rd_T77 l0 x15_2).f6))).heap[gb272]? = some (.cells #[.string ((rd_T77 l0 x15_2).f0), .int .i64 ((rd_T77 l0 x15_2).f1), .int .i64 ((rd_T77 l0 x15_2).f2), .int .i64 ((rd_T77 l0 x15_2).f3), .int .i64 ((rd_T77 l0 x15_2).f4), .int .i64 ((rd_T77 l0 x15_2).f5), .int .i64 ((rd_T77 l0 x15_2).f6)] 77 (0, 0))) := ⟨by (with_reducible repeat (first | refine blk_drewN ?_ _ | refine blk_drew ?_ | refine blk_alloc ?_ _)); refine blk_put (cs := #[.string ((rd_T77 l0 x15_2).f0), .int .i64 ((rd_T77 l0 x15_2).f1), .int .i64 ((rd_T77 l0 x15_2).f2), .int .i64 ((rd_T77 l0 x15_2).f3), .int .i64 ((rd_T77 l0 x15_2).f4), .int .i64 ((rd_T77 l0 x15_2).f5), .int .i64 0]) ?_ 6 _ rfl; (with_reducible repeat (first | refine blk_drewN ?_ _ | refine blk_drew ?_ | refine blk_alloc ?_ _)); refine blk_put (cs := #[.string ((rd_T77 l0 x15_2).f0), .int .i64 ((rd_T77 l0 x15_2).f1), .int .i64 ((rd_T77 l0 x15_2).f2), .int .i64 ((rd_T77 l0 x15_2).f3), .int .i64 ((rd_T77 l0 x15_2).f4), .int .i64 0, .int .i64 0]) ?_ 5 _ rfl; (with_reducible repeat (first | refine blk_drewN ?_ _ | refine blk_drew ?_ | refine blk_alloc ?_ _)); refine blk_put (cs := #[.string ((rd_T77 l0 x15_2).f0), .int .i64 ((rd_T77 l0 x15_2).f1), .int .i64 ((rd_T77 l0 x15_2).f2), .int .i64 ((rd_T77 l0 x15_2).f3), .int .i64 0, .int .i64 0, .int .i64 0]) ?_ 4 _ rfl; (with_reducible repeat (first | refine blk_drewN ?_ _ | refine blk_drew ?_ | refine blk_alloc ?_ _)); refine blk_put (cs := #[.string ((rd_T77 l0 x15_2).f0), .int .i64 ((rd_T77 l0 x15_2).f1), .int .i64 ((rd_T77 l0 x15_2).f2), .int .i64 0, .int .i64 0, .int .i64 0, .int .i64 0]) ?_ 3 _ rfl; (with_reducible repeat (first | refine blk_drewN ?_ _ | refine blk_drew ?_ | refine blk_alloc ?_ _)); refine blk_put (cs := #[.string ((rd_T77 l0 x15_2).f0), .int .i64 ((rd_T77 l0 x15_2).f1), .int .i64 0, .int .i64 0, .int .i64 0, .int .i64 0, .int .i64 0]) ?_ 2 _ rfl; (with_reducible repeat (first | refine blk_drewN ?_ _ | refine blk_drew ?_ | refine blk_alloc ?_ _)); refine blk_put (cs := #[.string ((rd_T77 l0 x15_2).f0), .int .i64 0, .int .i64 0, .int .i64 0, .int .i64 0, .int .i64 0, .int .i64 0]) ?_ 1 _ rfl; (with_reducible repeat (first | refine blk_drewN ?_ _ | refine blk_drew ?_ | refine blk_alloc ?_ _)); refine blk_put (cs := #[.string (⟨#[]⟩ : ByteArray), .int .i64 0, .int .i64 0, .int .i64 0, .int .i64 0, .int .i64 0, .int .i64 0]) ?_ 0 _ rfl; (with_reducible repeat (first | refine blk_drewN ?_ _ | refine blk_drew ?_ | refine blk_alloc ?_ _)); exact BK272.out⟩
              have n1_ : Aside0 (Below w.heap.size w (((((((w15.setCell ⟨gb272, 0, none⟩ (.string ((rd_T77 l0 x15_2).f0))).setCell ⟨gb272, 1, none⟩ (.int .i64 ((rd_T77 l0 x15_2).f1))).setCell ⟨gb272, 2, none⟩ (.int .i64 ((rd_T77 l0 x15_2).f2))).setCell ⟨gb272, 3, none⟩ (.int .i64 ((rd_T77 l0 x15_2).f3))).setCell ⟨gb272, 4, none⟩ (.int .i64 ((rd_T77 l0 x15_2).f4))).setCell ⟨gb272, 5, none⟩ (.int .i64 ((rd_T77 l0 x15_2).f5))).setCell ⟨gb272, 6, none⟩ (.int .i64 ((rd_T77 l0 x15_2).f6)))) := ⟨bC_ GE272.out⟩
              (try clear BK272)
              (try clear HB)
              generalize (((((((w15.setCell ⟨gb272, 0, none⟩ (.string ((rd_T77 l0 x15_2).f0))).setCell ⟨gb272, 1, none⟩ (.int .i64 ((rd_T77 l0 x15_2).f1))).setCell ⟨gb272, 2, none⟩ (.int .i64 ((rd_T77 l0 x15_2).f2))).setCell ⟨gb272, 3, none⟩ (.int .i64 ((rd_T77 l0 x15_2).f3))).setCell ⟨gb272, 4, none⟩ (.int .i64 ((rd_T77 l0 x15_2).f4))).setCell ⟨gb272, 5, none⟩ (.int .i64 ((rd_T77 l0 x15_2).f5))).setCell ⟨gb272, 6, none⟩ (.int .i64 ((rd_T77 l0 x15_2).f6))) = w17 at n0_ n1_ ⊢
              have BK272 := n0_
              have HB := n1_
              clear n0_ n1_
              have n0_ := Aside0.mk (blk_drew BK272.out)
              have n1_ := Aside0.mk (below_drew1 HB.out)
              clear BK272
              clear HB
              have BK272 := n0_
              have HB := n1_
              clear n0_ n1_
              have p274 : 0 ≤ ((ji11) : Int) := of_decide_eq_true as_
              have q274 : (ji11) < (l0.length : Int) := of_decide_eq_true as_
              obtain ⟨ad274, e274, hx274_0, hx274_1, hx274_2, hx274_3, hx274_4, hx274_5, hx274_6⟩ := at_T77 HR0.out (ji11) p274 q274
              have hw274_6 := hx274_6
              have hw274_5 := hx274_5
              have hw274_4 := hx274_4
              have hw274_3 := hx274_3
              have hw274_2 := hx274_2
              have hw274_1 := hx274_1
              have hw274_0 := hx274_0
              obtain rfl : ad271 = ad274 := (by injection e274)
              replace hx274_0 := cl_ HB hx274_0
              replace hx274_1 := cl_ HB hx274_1
              replace hx274_2 := cl_ HB hx274_2
              replace hx274_3 := cl_ HB hx274_3
              replace hx274_4 := cl_ HB hx274_4
              replace hx274_5 := cl_ HB hx274_5
              replace hx274_6 := cl_ HB hx274_6
              replace p274 := eq_true p274
              replace q274 := eq_true q274
              refine start_ (n := 18) (S := fun w' => w'.cell? ⟨gb272, 0, none⟩ = some (.string ((rd_T77 l0 x15_2).f0)) ∧ w'.cell? ⟨gb272, 1, none⟩ = some (.int .i64 ((rd_T77 l0 x15_2).f1)) ∧ w'.cell? ⟨gb272, 2, none⟩ = some (.int .i64 ((rd_T77 l0 x15_2).f2)) ∧ w'.cell? ⟨gb272, 3, none⟩ = some (.int .i64 ((rd_T77 l0 x15_2).f3)) ∧ w'.cell? ⟨gb272, 4, none⟩ = some (.int .i64 ((rd_T77 l0 x15_2).f4)) ∧ w'.cell? ⟨gb272, 5, none⟩ = some (.int .i64 ((rd_T77 l0 x15_2).f5)) ∧ w'.cell? ⟨gb272, 6, none⟩ = some (.int .i64 ((rd_T77 l0 x15_2).f6)) ∧ w'.cell? (ad271.add (((ji11)).toNat * 7)) = some (.string ((rd_T77 l0 (ji11)).f0)) ∧ w'.cell? ⟨(ad271.add (((ji11)).toNat * 7)).block, (ad271.add (((ji11)).toNat * 7)).off + 1, none⟩ = some (.int .i64 ((rd_T77 l0 (ji11)).f1)) ∧ w'.cell? ⟨(ad271.add (((ji11)).toNat * 7)).block, (ad271.add (((ji11)).toNat * 7)).off + 2, none⟩ = some (.int .i64 ((rd_T77 l0 (ji11)).f2)) ∧ w'.cell? ⟨(ad271.add (((ji11)).toNat * 7)).block, (ad271.add (((ji11)).toNat * 7)).off + 3, none⟩ = some (.int .i64 ((rd_T77 l0 (ji11)).f3)) ∧ w'.cell? ⟨(ad271.add (((ji11)).toNat * 7)).block, (ad271.add (((ji11)).toNat * 7)).off + 4, none⟩ = some (.int .i64 ((rd_T77 l0 (ji11)).f4)) ∧ w'.cell? ⟨(ad271.add (((ji11)).toNat * 7)).block, (ad271.add (((ji11)).toNat * 7)).off + 5, none⟩ = some (.int .i64 ((rd_T77 l0 (ji11)).f5)) ∧ w'.cell? ⟨(ad271.add (((ji11)).toNat * 7)).block, (ad271.add (((ji11)).toNat * 7)).off + 6, none⟩ = some (.int .i64 ((rd_T77 l0 (ji11)).f6))) (ds := []) #[false, false, false, false, false, false, false, false, false, false, false, false, false, false, false, false, false, false] (by kernel_rfl) rfl rfl ⟨(blk_cell BK272.out 0).trans rfl, (blk_cell BK272.out 1).trans rfl, (blk_cell BK272.out 2).trans rfl, (blk_cell BK272.out 3).trans rfl, (blk_cell BK272.out 4).trans rfl, (blk_cell BK272.out 5).trans rfl, (blk_cell BK272.out 6).trans rfl, (cl_ HB hw274_0), (cl_ HB hw274_1), (cl_ HB hw274_2), (cl_ HB hw274_3), (cl_ HB hw274_4), (cl_ HB hw274_5), (cl_ HB hw274_6)⟩ (fun hHeld => ?_); refine with_tabW impl_ValidUnits.tab6 impl_ValidUnits.bits6 (fun HT_ HW_ => ?_)
              generalize w17.drew = w18 at BK272 HB hx274_0 hx274_1 hx274_2 hx274_3 hx274_4 hx274_5 hx274_6 hHeld ⊢
              refine take_ (i := 0) (N := some 20) (v := ?_) (a' := ?_) #[true, false, false, false, false, false, false, false, false, false, false, false, false, false, false, false, false, false] rfl rfl (take_ofW HT_.out HW_.out (by kernel_rfl)) (fun _ _ _ h => h) (Or.inl ⟨by rfl, ?_⟩) hHeld ?_ ?_
              rotate_left
              ·
               rintro w' ⟨s0, s1, s2, s3, s4, s5, s6, s7, s8, s9, s10, s11, s12, s13⟩
               go_simp
               with_reducible rfl
              rotate_left
              ·
               simp only [Act.put, q1_, q2_, q3_, i64_w, i32_w]
               rfl
              refine one_ (i := 1) (N := some 21) #[true, true, false, false, false, false, false, false, false, false, false, false, false, false, false, false, false, false] rfl rfl (one_of HT_.out (by kernel_rfl)) (by decide) (fun K hK => ?_)
              refine goes_ Try.func117 (by kernel_rfl) rfl #[.agg #[.string ((rd_T77 l0 x15_2).f0), .int .i64 ((rd_T77 l0 x15_2).f1), .int .i64 ((rd_T77 l0 x15_2).f2), .int .i64 ((rd_T77 l0 x15_2).f3), .int .i64 ((rd_T77 l0 x15_2).f4), .int .i64 ((rd_T77 l0 x15_2).f5), .int .i64 ((rd_T77 l0 x15_2).f6)]] (by rfl) rfl rfl mT_ ?_
              with_reducible refine (impl_Unit_valid.calls k2 ((rd_T77 l0 x15_2).f0) ((rd_T77 l0 x15_2).f1) ((rd_T77 l0 x15_2).f2) ((rd_T77 l0 x15_2).f3) ((rd_T77 l0 x15_2).f4) ((rd_T77 l0 x15_2).f5) ((rd_T77 l0 x15_2).f6) true _ A8.out).mono ?_
              rintro e w19 ⟨rfl, hb⟩
              refine ⟨_, rfl, ?_⟩
              have n0_ := Aside0.mk (blk_below (g := gb272) (o := .cells #[.string ((rd_T77 l0 x15_2).f0), .int .i64 ((rd_T77 l0 x15_2).f1), .int .i64 ((rd_T77 l0 x15_2).f2), .int .i64 ((rd_T77 l0 x15_2).f3), .int .i64 ((rd_T77 l0 x15_2).f4), .int .i64 ((rd_T77 l0 x15_2).f5), .int .i64 ((rd_T77 l0 x15_2).f6)] 77 (0, 0)) (bK_ BK272.out) hb)
              have n1_ := Aside0.mk (below_step (bC_ GE272.out) hb)
              clear BK272
              clear HB
              have BK272 := n0_
              have HB := n1_
              clear n0_ n1_
              (try clear hb)
              (try clear hb2)
              (try clear hk)
              (try clear hi)
              refine hK.out _ _ ⟨(blk_cell BK272.out 0).trans rfl, (blk_cell BK272.out 1).trans rfl, (blk_cell BK272.out 2).trans rfl, (blk_cell BK272.out 3).trans rfl, (blk_cell BK272.out 4).trans rfl, (blk_cell BK272.out 5).trans rfl, (blk_cell BK272.out 6).trans rfl, (cl_ HB hw274_0), (cl_ HB hw274_1), (cl_ HB hw274_2), (cl_ HB hw274_3), (cl_ HB hw274_4), (cl_ HB hw274_5), (cl_ HB hw274_6)⟩ (fun hHeld => ?_)
              clear hK K
              refine norm_ (a' := ?_) ?_ ?_
              rotate_left
              ·
               show Act.put _ (some 21) _ = _
               simp only [Act.put, q1_, q2_, q3_, i64_w, i32_w]
               rfl
              refine pure_ (i := 2) (N := some 22) (v := ?_) (a' := ?_) #[true, true, true, false, false, false, false, false, false, false, false, false, false, false, false, false, false, false] rfl rfl (any_of HT_.out (by kernel_rfl)) (fun _ _ _ h => h) (Or.inl ⟨by rfl, ?_⟩) ?_ ?_
              rotate_left
              ·
               intro w'
               go_simp
               with_reducible rfl
              rotate_left
              ·
               simp only [Act.put, q1_, q2_, q3_, i64_w, i32_w]
               rfl
              refine pure_ (i := 3) (N := some 23) (v := ?_) (a' := ?_) #[true, true, true, true, false, false, false, false, false, false, false, false, false, false, false, false, false, false] rfl rfl (any_of HT_.out (by kernel_rfl)) (fun _ _ _ h => h) (Or.inl ⟨by rfl, ?_⟩) ?_ ?_
              rotate_left
              ·
               intro w'
               go_simp
               with_reducible rfl
              rotate_left
              ·
               simp only [Act.put, q1_, q2_, q3_, i64_w, i32_w]
               rfl
              refine pure_ (i := 4) (N := some 24) (v := ?_) (a' := ?_) #[true, true, true, true, true, false, false, false, false, false, false, false, false, false, false, false, false, false] rfl rfl (any_of HT_.out (by kernel_rfl)) (fun _ _ _ h => h) (Or.inl ⟨by rfl, ?_⟩) ?_ ?_
              rotate_left
              ·
               intro w'
               go_simp
               with_reducible rfl
              rotate_left
              ·
               simp only [Act.put, q1_, q2_, q3_, i64_w, i32_w]
               rfl
              refine pure_ (i := 5) (N := some 25) (v := ?_) (a' := ?_) #[true, true, true, true, true, true, false, false, false, false, false, false, false, false, false, false, false, false] rfl rfl (any_of HT_.out (by kernel_rfl)) (fun _ _ _ h => h) (Or.inl ⟨by rfl, ?_⟩) ?_ ?_
              rotate_left
              ·
               intro w'
               go_simp
               with_reducible rfl
              rotate_left
              ·
               simp only [Act.put, q1_, q2_, q3_, i64_w, i32_w]
               rfl
              refine pure_ (i := 6) (N := some 26) (v := ?_) (a' := ?_) #[true, true, true, true, true, true, true, false, false, false, false, false, false, false, false, false, false, false] rfl rfl (any_of HT_.out (by kernel_rfl)) (fun _ _ _ h => h) (Or.inl ⟨by rfl, ?_⟩) ?_ ?_
              rotate_left
              ·
               intro w'
               go_simp
               with_reducible rfl
              rotate_left
              ·
               simp only [Act.put, q1_, q2_, q3_, i64_w, i32_w]
               rfl
              refine pure_ (i := 7) (N := some 27) (v := ?_) (a' := ?_) #[true, true, true, true, true, true, true, true, false, false, false, false, false, false, false, false, false, false] rfl rfl (any_of HT_.out (by kernel_rfl)) (fun _ _ _ h => h) (Or.inl ⟨by rfl, ?_⟩) ?_ ?_
              rotate_left
              ·
               intro w'
               go_simp
               with_reducible rfl
              rotate_left
              ·
               simp only [Act.put, q1_, q2_, q3_, i64_w, i32_w]
               rfl
              refine pure_ (i := 9) (N := some 29) (v := ?_) (a' := ?_) #[true, true, true, true, true, true, true, true, false, true, false, false, false, false, false, false, false, false] rfl rfl (any_of HT_.out (by kernel_rfl)) (fun _ _ _ h => h) (Or.inl ⟨by rfl, ?_⟩) ?_ ?_
              rotate_left
              ·
               intro w'
               go_simp
               with_reducible rfl
              rotate_left
              ·
               simp only [Act.put, q1_, q2_, q3_, i64_w, i32_w]
               rfl
              refine pure_ (i := 10) (N := some 30) (v := ?_) (a' := ?_) #[true, true, true, true, true, true, true, true, false, true, true, false, false, false, false, false, false, false] rfl rfl (any_of HT_.out (by kernel_rfl)) (fun _ _ _ h => h) (Or.inl ⟨by rfl, ?_⟩) ?_ ?_
              rotate_left
              ·
               intro w'
               go_simp
               with_reducible rfl
              rotate_left
              ·
               simp only [Act.put, q1_, q2_, q3_, i64_w, i32_w]
               rfl
              refine pure_ (i := 11) (N := some 31) (v := ?_) (a' := ?_) #[true, true, true, true, true, true, true, true, false, true, true, true, false, false, false, false, false, false] rfl rfl (any_of HT_.out (by kernel_rfl)) (fun _ _ _ h => h) (Or.inl ⟨by rfl, ?_⟩) ?_ ?_
              rotate_left
              ·
               intro w'
               go_simp
               with_reducible rfl
              rotate_left
              ·
               simp only [Act.put, q1_, q2_, q3_, i64_w, i32_w]
               rfl
              refine pure_ (i := 12) (N := some 32) (v := ?_) (a' := ?_) #[true, true, true, true, true, true, true, true, false, true, true, true, true, false, false, false, false, false] rfl rfl (any_of HT_.out (by kernel_rfl)) (fun _ _ _ h => h) (Or.inl ⟨by rfl, ?_⟩) ?_ ?_
              rotate_left
              ·
               intro w'
               go_simp
               with_reducible rfl
              rotate_left
              ·
               simp only [Act.put, q1_, q2_, q3_, i64_w, i32_w]
               rfl
              refine pure_ (i := 13) (N := some 33) (v := ?_) (a' := ?_) #[true, true, true, true, true, true, true, true, false, true, true, true, true, true, false, false, false, false] rfl rfl (any_of HT_.out (by kernel_rfl)) (fun _ _ _ h => h) (Or.inl ⟨by rfl, ?_⟩) ?_ ?_
              rotate_left
              ·
               intro w'
               go_simp
               with_reducible rfl
              rotate_left
              ·
               simp only [Act.put, q1_, q2_, q3_, i64_w, i32_w]
               rfl
              refine take_ (i := 8) (N := some 28) (v := ?_) (a' := ?_) #[true, true, true, true, true, true, true, true, true, true, true, true, true, true, false, false, false, false] rfl rfl (take_ofW HT_.out HW_.out (by kernel_rfl)) (fun _ _ _ h => h) (Or.inl ⟨by rfl, ?_⟩) hHeld ?_ ?_
              rotate_left
              ·
               rintro w' ⟨s0, s1, s2, s3, s4, s5, s6, s7, s8, s9, s10, s11, s12, s13⟩
               go_simp
               with_reducible rfl
              rotate_left
              ·
               simp only [Act.put, q1_, q2_, q3_, i64_w, i32_w]
               rfl
              refine take_ (i := 14) (N := some 34) (v := ?_) (a' := ?_) #[true, true, true, true, true, true, true, true, true, true, true, true, true, true, true, false, false, false] rfl rfl (take_ofW HT_.out HW_.out (by kernel_rfl)) (fun _ _ _ h => h) (Or.inl ⟨by rfl, ?_⟩) hHeld ?_ ?_
              rotate_left
              ·
               rintro w' ⟨s0, s1, s2, s3, s4, s5, s6, s7, s8, s9, s10, s11, s12, s13⟩
               go_simp
               with_reducible rfl
              rotate_left
              ·
               simp only [Act.put, q1_, q2_, q3_, i64_w, i32_w]
               rfl
              refine pure_ (i := 15) (N := some 35) (v := ?_) (a' := ?_) #[true, true, true, true, true, true, true, true, true, true, true, true, true, true, true, true, false, false] rfl rfl (any_of HT_.out (by kernel_rfl)) (fun _ _ _ h => h) (Or.inl ⟨by rfl, ?_⟩) ?_ ?_
              rotate_left
              ·
               intro w'
               go_simp
               with_reducible rfl
              rotate_left
              ·
               simp only [Act.put, q1_, q2_, q3_, i64_w, i32_w]
               rfl
              refine pure_ (i := 16) (N := some 36) (v := ?_) (a' := ?_) #[true, true, true, true, true, true, true, true, true, true, true, true, true, true, true, true, true, false] rfl rfl (any_of HT_.out (by kernel_rfl)) (fun _ _ _ h => h) (Or.inl ⟨by rfl, ?_⟩) ?_ ?_
              rotate_left
              ·
               intro w'
               go_simp
               with_reducible rfl
              rotate_left
              ·
               simp only [Act.put, q1_, q2_, q3_, i64_w, i32_w]
               rfl
              refine pure_ (i := 17) (N := some 37) (v := ?_) (a' := ?_) #[true, true, true, true, true, true, true, true, true, true, true, true, true, true, true, true, true, true] rfl rfl (any_of HT_.out (by kernel_rfl)) (fun _ _ _ h => h) (Or.inl ⟨by rfl, ?_⟩) ?_ ?_
              rotate_left
              ·
               intro w'
               go_simp
               with_reducible rfl
              rotate_left
              ·
               simp only [Act.put, q1_, q2_, q3_, i64_w, i32_w]
               rfl
              refine done_ (done_of HT_.out (by kernel_rfl)) ?_
              try go_wp2
              go_roundg k2
              case measure => have := HJ1.out; have := HK2.out; omega
              case rel => exact ⟨(wrap64 (x15_2 + 1)), rs_, H', ⟨by have := HJ1.out; have := HK2.out; omega⟩, ⟨bC_ GE272.out⟩⟩
             ·
              rw [if_neg c14] at H
              have c14b0 : (Op.bytesLess (((rd_T77 l0 (ji11)).f0).toList) (((rd_T77 l0 x15_2).f0).toList)) = false := by simpa using c14
              clear c14
              obtain rfl := Option.some.inj H
              have p271 : 0 ≤ (x15_2 : Int) := of_decide_eq_true as_
              have q271 : x15_2 < (l0.length : Int) := of_decide_eq_true as_
              obtain ⟨ad271, e271, hx271_0, hx271_1, hx271_2, hx271_3, hx271_4, hx271_5, hx271_6⟩ := at_T77 HR0.out x15_2 p271 q271
              cases e271
              replace hx271_0 := cl_ HB hx271_0
              replace hx271_1 := cl_ HB hx271_1
              replace hx271_2 := cl_ HB hx271_2
              replace hx271_3 := cl_ HB hx271_3
              replace hx271_4 := cl_ HB hx271_4
              replace hx271_5 := cl_ HB hx271_5
              replace hx271_6 := cl_ HB hx271_6
              replace p271 := eq_true p271
              replace q271 := eq_true q271
              try go_wp2_with (first | ((with_reducible refine gate_dst (N := 4) rfl ?_); (try (refine gate_guard (by rfl) ?_; dsimp only)); refine box_event ?hg (N := 4) ?hd (cs := #[.string (⟨#[]⟩ : ByteArray), .int .i64 0, .int .i64 0, .int .i64 0, .int .i64 0, .int .i64 0, .int .i64 0]) (t := 77) ?hr ?_; (case hd => rfl); (case hg => rfl); (case hr => first | (go_simp; done) | (go_simp; rfl)); intro gb272 hg w20 hbox hb; have n0_ := Aside0.mk (below_step bB_ hb); have n1_ := Aside0.mk (hbox); have n2_ := Aside0.mk ((by rw [hg]; exact (below_size bB_) : w.heap.size ≤ gb272)); have n3_ := Aside0.mk ((by rw [hg]; exact (below_size bB_) : w.heap.size ≤ gb272)); clear HB; have HB := n0_; have BK272 := n1_; have GW272 := n2_; have GE272 := n3_; clear n0_ n1_ n2_ n3_; clear hb hbox hg; have hcz21_0 : w20.cell? ⟨gb272, 0, none⟩ = some (.string (⟨#[]⟩ : ByteArray)) := (blk_cell BK272.out 0).trans rfl; have hcz21_1 : w20.cell? ⟨gb272, 1, none⟩ = some (.int .i64 0) := (blk_cell BK272.out 1).trans rfl; have hcz21_2 : w20.cell? ⟨gb272, 2, none⟩ = some (.int .i64 0) := (blk_cell BK272.out 2).trans rfl; have hcz21_3 : w20.cell? ⟨gb272, 3, none⟩ = some (.int .i64 0) := (blk_cell BK272.out 3).trans rfl; have hcz21_4 : w20.cell? ⟨gb272, 4, none⟩ = some (.int .i64 0) := (blk_cell BK272.out 4).trans rfl; have hcz21_5 : w20.cell? ⟨gb272, 5, none⟩ = some (.int .i64 0) := (blk_cell BK272.out 5).trans rfl; have hcz21_6 : w20.cell? ⟨gb272, 6, none⟩ = some (.int .i64 0) := (blk_cell BK272.out 6).trans rfl; have hfz21_0 := blk_frozen BK272.out 0; have hfz21_1 := blk_frozen BK272.out 1; have hfz21_2 := blk_frozen BK272.out 2; have hfz21_3 := blk_frozen BK272.out 3; have hfz21_4 := blk_frozen BK272.out 4; have hfz21_5 := blk_frozen BK272.out 5; have hfz21_6 := blk_frozen BK272.out 6))
              have n0_ : Aside0 ((((((((w20.setCell ⟨gb272, 0, none⟩ (.string ((rd_T77 l0 x15_2).f0))).setCell ⟨gb272, 1, none⟩ (.int .i64 ((rd_T77 l0 x15_2).f1))).setCell ⟨gb272, 2, none⟩ (.int .i64 ((rd_T77 l0 x15_2).f2))).setCell ⟨gb272, 3, none⟩ (.int .i64 ((rd_T77 l0 x15_2).f3))).setCell ⟨gb272, 4, none⟩ (.int .i64 ((rd_T77 l0 x15_2).f4))).setCell ⟨gb272, 5, none⟩ (.int .i64 ((rd_T77 l0 x15_2).f5))).setCell ⟨gb272, 6, none⟩ (.int .i64 ((rd_T77 l0 x15_2).f6))).heap[gb272]? = some (.cells #[.string ((rd_T77 l0 x15_2).f0), .int .i64 ((rd_T77 l0 x15_2).f1), .int .i64 ((rd_T77 l0 x15_2).f2), .int .i64 ((rd_T77 l0 x15_2).f3), .int .i64 ((rd_T77 l0 x15_2).f4), .int .i64 ((rd_T77 l0 x15_2).f5), .int .i64 ((rd_T77 l0 x15_2).f6)] 77 (0, 0))) := ⟨by (with_reducible repeat (first | refine blk_drewN ?_ _ | refine blk_drew ?_ | refine blk_alloc ?_ _)); refine blk_put (cs := #[.string ((rd_T77 l0 x15_2).f0), .int .i64 ((rd_T77 l0 x15_2).f1), .int .i64 ((rd_T77 l0 x15_2).f2), .int .i64 ((rd_T77 l0 x15_2).f3), .int .i64 ((rd_T77 l0 x15_2).f4), .int .i64 ((rd_T77 l0 x15_2).f5), .int .i64 0]) ?_ 6 _ rfl; (with_reducible repeat (first | refine blk_drewN ?_ _ | refine blk_drew ?_ | refine blk_alloc ?_ _)); refine blk_put (cs := #[.string ((rd_T77 l0 x15_2).f0), .int .i64 ((rd_T77 l0 x15_2).f1), .int .i64 ((rd_T77 l0 x15_2).f2), .int .i64 ((rd_T77 l0 x15_2).f3), .int .i64 ((rd_T77 l0 x15_2).f4), .int .i64 0, .int .i64 0]) ?_ 5 _ rfl; (with_reducible repeat (first | refine blk_drewN ?_ _ | refine blk_drew ?_ | refine blk_alloc ?_ _)); refine blk_put (cs := #[.string ((rd_T77 l0 x15_2).f0), .int .i64 ((rd_T77 l0 x15_2).f1), .int .i64 ((rd_T77 l0 x15_2).f2), .int .i64 ((rd_T77 l0 x15_2).f3), .int .i64 0, .int .i64 0, .int .i64 0]) ?_ 4 _ rfl; (with_reducible repeat (first | refine blk_drewN ?_ _ | refine blk_drew ?_ | refine blk_alloc ?_ _)); refine blk_put (cs := #[.string ((rd_T77 l0 x15_2).f0), .int .i64 ((rd_T77 l0 x15_2).f1), .int .i64 ((rd_T77 l0 x15_2).f2), .int .i64 0, .int .i64 0, .int .i64 0, .int .i64 0]) ?_ 3 _ rfl; (with_reducible repeat (first | refine blk_drewN ?_ _ | refine blk_drew ?_ | refine blk_alloc ?_ _)); refine blk_put (cs := #[.string ((rd_T77 l0 x15_2).f0), .int .i64 ((rd_T77 l0 x15_2).f1), .int .i64 0, .int .i64 0, .int .i64 0, .int .i64 0, .int .i64 0]) ?_ 2 _ rfl; (with_reducible repeat (first | refine blk_drewN ?_ _ | refine blk_drew ?_ | refine blk_alloc ?_ _)); refine blk_put (cs := #[.string ((rd_T77 l0 x15_2).f0), .int .i64 0, .int .i64 0, .int .i64 0, .int .i64 0, .int .i64 0, .int .i64 0]) ?_ 1 _ rfl; (with_reducible repeat (first | refine blk_drewN ?_ _ | refine blk_drew ?_ | refine blk_alloc ?_ _)); refine blk_put (cs := #[.string (⟨#[]⟩ : ByteArray), .int .i64 0, .int .i64 0, .int .i64 0, .int .i64 0, .int .i64 0, .int .i64 0]) ?_ 0 _ rfl; (with_reducible repeat (first | refine blk_drewN ?_ _ | refine blk_drew ?_ | refine blk_alloc ?_ _)); exact BK272.out⟩
              have n1_ : Aside0 (Below w.heap.size w (((((((w20.setCell ⟨gb272, 0, none⟩ (.string ((rd_T77 l0 x15_2).f0))).setCell ⟨gb272, 1, none⟩ (.int .i64 ((rd_T77 l0 x15_2).f1))).setCell ⟨gb272, 2, none⟩ (.int .i64 ((rd_T77 l0 x15_2).f2))).setCell ⟨gb272, 3, none⟩ (.int .i64 ((rd_T77 l0 x15_2).f3))).setCell ⟨gb272, 4, none⟩ (.int .i64 ((rd_T77 l0 x15_2).f4))).setCell ⟨gb272, 5, none⟩ (.int .i64 ((rd_T77 l0 x15_2).f5))).setCell ⟨gb272, 6, none⟩ (.int .i64 ((rd_T77 l0 x15_2).f6)))) := ⟨bC_ GE272.out⟩
              (try clear BK272)
              (try clear HB)
              generalize (((((((w20.setCell ⟨gb272, 0, none⟩ (.string ((rd_T77 l0 x15_2).f0))).setCell ⟨gb272, 1, none⟩ (.int .i64 ((rd_T77 l0 x15_2).f1))).setCell ⟨gb272, 2, none⟩ (.int .i64 ((rd_T77 l0 x15_2).f2))).setCell ⟨gb272, 3, none⟩ (.int .i64 ((rd_T77 l0 x15_2).f3))).setCell ⟨gb272, 4, none⟩ (.int .i64 ((rd_T77 l0 x15_2).f4))).setCell ⟨gb272, 5, none⟩ (.int .i64 ((rd_T77 l0 x15_2).f5))).setCell ⟨gb272, 6, none⟩ (.int .i64 ((rd_T77 l0 x15_2).f6))) = w22 at n0_ n1_ ⊢
              have BK272 := n0_
              have HB := n1_
              clear n0_ n1_
              have n0_ := Aside0.mk (blk_drew BK272.out)
              have n1_ := Aside0.mk (below_drew1 HB.out)
              clear BK272
              clear HB
              have BK272 := n0_
              have HB := n1_
              clear n0_ n1_
              have p274 : 0 ≤ ((ji11) : Int) := of_decide_eq_true as_
              have q274 : (ji11) < (l0.length : Int) := of_decide_eq_true as_
              obtain ⟨ad274, e274, hx274_0, hx274_1, hx274_2, hx274_3, hx274_4, hx274_5, hx274_6⟩ := at_T77 HR0.out (ji11) p274 q274
              have hw274_6 := hx274_6
              have hw274_5 := hx274_5
              have hw274_4 := hx274_4
              have hw274_3 := hx274_3
              have hw274_2 := hx274_2
              have hw274_1 := hx274_1
              have hw274_0 := hx274_0
              obtain rfl : ad271 = ad274 := (by injection e274)
              replace hx274_0 := cl_ HB hx274_0
              replace hx274_1 := cl_ HB hx274_1
              replace hx274_2 := cl_ HB hx274_2
              replace hx274_3 := cl_ HB hx274_3
              replace hx274_4 := cl_ HB hx274_4
              replace hx274_5 := cl_ HB hx274_5
              replace hx274_6 := cl_ HB hx274_6
              replace p274 := eq_true p274
              replace q274 := eq_true q274
              refine start_ (n := 18) (S := fun w' => w'.cell? ⟨gb272, 0, none⟩ = some (.string ((rd_T77 l0 x15_2).f0)) ∧ w'.cell? ⟨gb272, 1, none⟩ = some (.int .i64 ((rd_T77 l0 x15_2).f1)) ∧ w'.cell? ⟨gb272, 2, none⟩ = some (.int .i64 ((rd_T77 l0 x15_2).f2)) ∧ w'.cell? ⟨gb272, 3, none⟩ = some (.int .i64 ((rd_T77 l0 x15_2).f3)) ∧ w'.cell? ⟨gb272, 4, none⟩ = some (.int .i64 ((rd_T77 l0 x15_2).f4)) ∧ w'.cell? ⟨gb272, 5, none⟩ = some (.int .i64 ((rd_T77 l0 x15_2).f5)) ∧ w'.cell? ⟨gb272, 6, none⟩ = some (.int .i64 ((rd_T77 l0 x15_2).f6)) ∧ w'.cell? (ad271.add (((ji11)).toNat * 7)) = some (.string ((rd_T77 l0 (ji11)).f0)) ∧ w'.cell? ⟨(ad271.add (((ji11)).toNat * 7)).block, (ad271.add (((ji11)).toNat * 7)).off + 1, none⟩ = some (.int .i64 ((rd_T77 l0 (ji11)).f1)) ∧ w'.cell? ⟨(ad271.add (((ji11)).toNat * 7)).block, (ad271.add (((ji11)).toNat * 7)).off + 2, none⟩ = some (.int .i64 ((rd_T77 l0 (ji11)).f2)) ∧ w'.cell? ⟨(ad271.add (((ji11)).toNat * 7)).block, (ad271.add (((ji11)).toNat * 7)).off + 3, none⟩ = some (.int .i64 ((rd_T77 l0 (ji11)).f3)) ∧ w'.cell? ⟨(ad271.add (((ji11)).toNat * 7)).block, (ad271.add (((ji11)).toNat * 7)).off + 4, none⟩ = some (.int .i64 ((rd_T77 l0 (ji11)).f4)) ∧ w'.cell? ⟨(ad271.add (((ji11)).toNat * 7)).block, (ad271.add (((ji11)).toNat * 7)).off + 5, none⟩ = some (.int .i64 ((rd_T77 l0 (ji11)).f5)) ∧ w'.cell? ⟨(ad271.add (((ji11)).toNat * 7)).block, (ad271.add (((ji11)).toNat * 7)).off + 6, none⟩ = some (.int .i64 ((rd_T77 l0 (ji11)).f6))) (ds := []) #[false, false, false, false, false, false, false, false, false, false, false, false, false, false, false, false, false, false] (by kernel_rfl) rfl rfl ⟨(blk_cell BK272.out 0).trans rfl, (blk_cell BK272.out 1).trans rfl, (blk_cell BK272.out 2).trans rfl, (blk_cell BK272.out 3).trans rfl, (blk_cell BK272.out 4).trans rfl, (blk_cell BK272.out 5).trans rfl, (blk_cell BK272.out 6).trans rfl, (cl_ HB hw274_0), (cl_ HB hw274_1), (cl_ HB hw274_2), (cl_ HB hw274_3), (cl_ HB hw274_4), (cl_ HB hw274_5), (cl_ HB hw274_6)⟩ (fun hHeld => ?_); refine with_tabW impl_ValidUnits.tab6 impl_ValidUnits.bits6 (fun HT_ HW_ => ?_)
              generalize w22.drew = w23 at BK272 HB hx274_0 hx274_1 hx274_2 hx274_3 hx274_4 hx274_5 hx274_6 hHeld ⊢
              refine take_ (i := 0) (N := some 20) (v := ?_) (a' := ?_) #[true, false, false, false, false, false, false, false, false, false, false, false, false, false, false, false, false, false] rfl rfl (take_ofW HT_.out HW_.out (by kernel_rfl)) (fun _ _ _ h => h) (Or.inl ⟨by rfl, ?_⟩) hHeld ?_ ?_
              rotate_left
              ·
               rintro w' ⟨s0, s1, s2, s3, s4, s5, s6, s7, s8, s9, s10, s11, s12, s13⟩
               go_simp
               with_reducible rfl
              rotate_left
              ·
               simp only [Act.put, q1_, q2_, q3_, i64_w, i32_w]
               rfl
              refine one_ (i := 1) (N := some 21) #[true, true, false, false, false, false, false, false, false, false, false, false, false, false, false, false, false, false] rfl rfl (one_of HT_.out (by kernel_rfl)) (by decide) (fun K hK => ?_)
              refine goes_ Try.func117 (by kernel_rfl) rfl #[.agg #[.string ((rd_T77 l0 x15_2).f0), .int .i64 ((rd_T77 l0 x15_2).f1), .int .i64 ((rd_T77 l0 x15_2).f2), .int .i64 ((rd_T77 l0 x15_2).f3), .int .i64 ((rd_T77 l0 x15_2).f4), .int .i64 ((rd_T77 l0 x15_2).f5), .int .i64 ((rd_T77 l0 x15_2).f6)]] (by rfl) rfl rfl mT_ ?_
              with_reducible refine (impl_Unit_valid.calls k2 ((rd_T77 l0 x15_2).f0) ((rd_T77 l0 x15_2).f1) ((rd_T77 l0 x15_2).f2) ((rd_T77 l0 x15_2).f3) ((rd_T77 l0 x15_2).f4) ((rd_T77 l0 x15_2).f5) ((rd_T77 l0 x15_2).f6) true _ A8.out).mono ?_
              rintro e w24 ⟨rfl, hb⟩
              refine ⟨_, rfl, ?_⟩
              have n0_ := Aside0.mk (blk_below (g := gb272) (o := .cells #[.string ((rd_T77 l0 x15_2).f0), .int .i64 ((rd_T77 l0 x15_2).f1), .int .i64 ((rd_T77 l0 x15_2).f2), .int .i64 ((rd_T77 l0 x15_2).f3), .int .i64 ((rd_T77 l0 x15_2).f4), .int .i64 ((rd_T77 l0 x15_2).f5), .int .i64 ((rd_T77 l0 x15_2).f6)] 77 (0, 0)) (bK_ BK272.out) hb)
              have n1_ := Aside0.mk (below_step (bC_ GE272.out) hb)
              clear BK272
              clear HB
              have BK272 := n0_
              have HB := n1_
              clear n0_ n1_
              (try clear hb)
              (try clear hb2)
              (try clear hk)
              (try clear hi)
              refine hK.out _ _ ⟨(blk_cell BK272.out 0).trans rfl, (blk_cell BK272.out 1).trans rfl, (blk_cell BK272.out 2).trans rfl, (blk_cell BK272.out 3).trans rfl, (blk_cell BK272.out 4).trans rfl, (blk_cell BK272.out 5).trans rfl, (blk_cell BK272.out 6).trans rfl, (cl_ HB hw274_0), (cl_ HB hw274_1), (cl_ HB hw274_2), (cl_ HB hw274_3), (cl_ HB hw274_4), (cl_ HB hw274_5), (cl_ HB hw274_6)⟩ (fun hHeld => ?_)
              clear hK K
              refine norm_ (a' := ?_) ?_ ?_
              rotate_left
              ·
               show Act.put _ (some 21) _ = _
               simp only [Act.put, q1_, q2_, q3_, i64_w, i32_w]
               rfl
              refine pure_ (i := 2) (N := some 22) (v := ?_) (a' := ?_) #[true, true, true, false, false, false, false, false, false, false, false, false, false, false, false, false, false, false] rfl rfl (any_of HT_.out (by kernel_rfl)) (fun _ _ _ h => h) (Or.inl ⟨by rfl, ?_⟩) ?_ ?_
              rotate_left
              ·
               intro w'
               go_simp
               with_reducible rfl
              rotate_left
              ·
               simp only [Act.put, q1_, q2_, q3_, i64_w, i32_w]
               rfl
              refine pure_ (i := 3) (N := some 23) (v := ?_) (a' := ?_) #[true, true, true, true, false, false, false, false, false, false, false, false, false, false, false, false, false, false] rfl rfl (any_of HT_.out (by kernel_rfl)) (fun _ _ _ h => h) (Or.inl ⟨by rfl, ?_⟩) ?_ ?_
              rotate_left
              ·
               intro w'
               go_simp
               with_reducible rfl
              rotate_left
              ·
               simp only [Act.put, q1_, q2_, q3_, i64_w, i32_w]
               rfl
              refine pure_ (i := 4) (N := some 24) (v := ?_) (a' := ?_) #[true, true, true, true, true, false, false, false, false, false, false, false, false, false, false, false, false, false] rfl rfl (any_of HT_.out (by kernel_rfl)) (fun _ _ _ h => h) (Or.inl ⟨by rfl, ?_⟩) ?_ ?_
              rotate_left
              ·
               intro w'
               go_simp
               with_reducible rfl
              rotate_left
              ·
               simp only [Act.put, q1_, q2_, q3_, i64_w, i32_w]
               rfl
              refine pure_ (i := 5) (N := some 25) (v := ?_) (a' := ?_) #[true, true, true, true, true, true, false, false, false, false, false, false, false, false, false, false, false, false] rfl rfl (any_of HT_.out (by kernel_rfl)) (fun _ _ _ h => h) (Or.inl ⟨by rfl, ?_⟩) ?_ ?_
              rotate_left
              ·
               intro w'
               go_simp
               with_reducible rfl
              rotate_left
              ·
               simp only [Act.put, q1_, q2_, q3_, i64_w, i32_w]
               rfl
              refine pure_ (i := 6) (N := some 26) (v := ?_) (a' := ?_) #[true, true, true, true, true, true, true, false, false, false, false, false, false, false, false, false, false, false] rfl rfl (any_of HT_.out (by kernel_rfl)) (fun _ _ _ h => h) (Or.inl ⟨by rfl, ?_⟩) ?_ ?_
              rotate_left
              ·
               intro w'
               go_simp
               with_reducible rfl
              rotate_left
              ·
               simp only [Act.put, q1_, q2_, q3_, i64_w, i32_w]
               rfl
              refine pure_ (i := 7) (N := some 27) (v := ?_) (a' := ?_) #[true, true, true, true, true, true, true, true, false, false, false, false, false, false, false, false, false, false] rfl rfl (any_of HT_.out (by kernel_rfl)) (fun _ _ _ h => h) (Or.inl ⟨by rfl, ?_⟩) ?_ ?_
              rotate_left
              ·
               intro w'
               go_simp
               with_reducible rfl
              rotate_left
              ·
               simp only [Act.put, q1_, q2_, q3_, i64_w, i32_w]
               rfl
              refine pure_ (i := 9) (N := some 29) (v := ?_) (a' := ?_) #[true, true, true, true, true, true, true, true, false, true, false, false, false, false, false, false, false, false] rfl rfl (any_of HT_.out (by kernel_rfl)) (fun _ _ _ h => h) (Or.inl ⟨by rfl, ?_⟩) ?_ ?_
              rotate_left
              ·
               intro w'
               go_simp
               with_reducible rfl
              rotate_left
              ·
               simp only [Act.put, q1_, q2_, q3_, i64_w, i32_w]
               rfl
              refine pure_ (i := 10) (N := some 30) (v := ?_) (a' := ?_) #[true, true, true, true, true, true, true, true, false, true, true, false, false, false, false, false, false, false] rfl rfl (any_of HT_.out (by kernel_rfl)) (fun _ _ _ h => h) (Or.inl ⟨by rfl, ?_⟩) ?_ ?_
              rotate_left
              ·
               intro w'
               go_simp
               with_reducible rfl
              rotate_left
              ·
               simp only [Act.put, q1_, q2_, q3_, i64_w, i32_w]
               rfl
              refine pure_ (i := 11) (N := some 31) (v := ?_) (a' := ?_) #[true, true, true, true, true, true, true, true, false, true, true, true, false, false, false, false, false, false] rfl rfl (any_of HT_.out (by kernel_rfl)) (fun _ _ _ h => h) (Or.inl ⟨by rfl, ?_⟩) ?_ ?_
              rotate_left
              ·
               intro w'
               go_simp
               with_reducible rfl
              rotate_left
              ·
               simp only [Act.put, q1_, q2_, q3_, i64_w, i32_w]
               rfl
              refine pure_ (i := 12) (N := some 32) (v := ?_) (a' := ?_) #[true, true, true, true, true, true, true, true, false, true, true, true, true, false, false, false, false, false] rfl rfl (any_of HT_.out (by kernel_rfl)) (fun _ _ _ h => h) (Or.inl ⟨by rfl, ?_⟩) ?_ ?_
              rotate_left
              ·
               intro w'
               go_simp
               with_reducible rfl
              rotate_left
              ·
               simp only [Act.put, q1_, q2_, q3_, i64_w, i32_w]
               rfl
              refine pure_ (i := 13) (N := some 33) (v := ?_) (a' := ?_) #[true, true, true, true, true, true, true, true, false, true, true, true, true, true, false, false, false, false] rfl rfl (any_of HT_.out (by kernel_rfl)) (fun _ _ _ h => h) (Or.inl ⟨by rfl, ?_⟩) ?_ ?_
              rotate_left
              ·
               intro w'
               go_simp
               with_reducible rfl
              rotate_left
              ·
               simp only [Act.put, q1_, q2_, q3_, i64_w, i32_w]
               rfl
              refine take_ (i := 8) (N := some 28) (v := ?_) (a' := ?_) #[true, true, true, true, true, true, true, true, true, true, true, true, true, true, false, false, false, false] rfl rfl (take_ofW HT_.out HW_.out (by kernel_rfl)) (fun _ _ _ h => h) (Or.inl ⟨by rfl, ?_⟩) hHeld ?_ ?_
              rotate_left
              ·
               rintro w' ⟨s0, s1, s2, s3, s4, s5, s6, s7, s8, s9, s10, s11, s12, s13⟩
               go_simp
               with_reducible rfl
              rotate_left
              ·
               simp only [Act.put, q1_, q2_, q3_, i64_w, i32_w]
               rfl
              refine take_ (i := 14) (N := some 34) (v := ?_) (a' := ?_) #[true, true, true, true, true, true, true, true, true, true, true, true, true, true, true, false, false, false] rfl rfl (take_ofW HT_.out HW_.out (by kernel_rfl)) (fun _ _ _ h => h) (Or.inl ⟨by rfl, ?_⟩) hHeld ?_ ?_
              rotate_left
              ·
               rintro w' ⟨s0, s1, s2, s3, s4, s5, s6, s7, s8, s9, s10, s11, s12, s13⟩
               go_simp
               with_reducible rfl
              rotate_left
              ·
               simp only [Act.put, q1_, q2_, q3_, i64_w, i32_w]
               rfl
              refine pure_ (i := 15) (N := some 35) (v := ?_) (a' := ?_) #[true, true, true, true, true, true, true, true, true, true, true, true, true, true, true, true, false, false] rfl rfl (any_of HT_.out (by kernel_rfl)) (fun _ _ _ h => h) (Or.inl ⟨by rfl, ?_⟩) ?_ ?_
              rotate_left
              ·
               intro w'
               go_simp
               with_reducible rfl
              rotate_left
              ·
               simp only [Act.put, q1_, q2_, q3_, i64_w, i32_w]
               rfl
              refine pure_ (i := 16) (N := some 36) (v := ?_) (a' := ?_) #[true, true, true, true, true, true, true, true, true, true, true, true, true, true, true, true, true, false] rfl rfl (any_of HT_.out (by kernel_rfl)) (fun _ _ _ h => h) (Or.inl ⟨by rfl, ?_⟩) ?_ ?_
              rotate_left
              ·
               intro w'
               go_simp
               with_reducible rfl
              rotate_left
              ·
               simp only [Act.put, q1_, q2_, q3_, i64_w, i32_w]
               rfl
              refine pure_ (i := 17) (N := some 37) (v := ?_) (a' := ?_) #[true, true, true, true, true, true, true, true, true, true, true, true, true, true, true, true, true, true] rfl rfl (any_of HT_.out (by kernel_rfl)) (fun _ _ _ h => h) (Or.inl ⟨by rfl, ?_⟩) ?_ ?_
              rotate_left
              ·
               intro w'
               go_simp
               with_reducible rfl
              rotate_left
              ·
               simp only [Act.put, q1_, q2_, q3_, i64_w, i32_w]
               rfl
              refine done_ (done_of HT_.out (by kernel_rfl)) ?_
              try go_wp2
              go_ret
              exact ⟨by first | rfl | (simp [errW_none, errW_some] <;> rfl) | (simp only [← hji11]; first | rfl | (simp [errW_none, errW_some] <;> rfl)) | (simp [*, errW_none, errW_some] <;> rfl), bC_ GE272.out⟩
            ·
             rw [if_neg c13] at H
             exact absurd H (by simp)
           ·
            rw [if_neg c12] at H
            exact absurd H (by simp)
          ·
           rw [if_neg c10] at H
           have c10b0 : decide (0 < x15_2) = false := decide_eq_false c10
           clear c10
           have H' := Aside0.mk H
           clear H
           have p271 : 0 ≤ (x15_2 : Int) := of_decide_eq_true as_
           have q271 : x15_2 < (l0.length : Int) := of_decide_eq_true as_
           obtain ⟨ad271, e271, hx271_0, hx271_1, hx271_2, hx271_3, hx271_4, hx271_5, hx271_6⟩ := at_T77 HR0.out x15_2 p271 q271
           cases e271
           replace hx271_0 := cl_ HB hx271_0
           replace hx271_1 := cl_ HB hx271_1
           replace hx271_2 := cl_ HB hx271_2
           replace hx271_3 := cl_ HB hx271_3
           replace hx271_4 := cl_ HB hx271_4
           replace hx271_5 := cl_ HB hx271_5
           replace hx271_6 := cl_ HB hx271_6
           replace p271 := eq_true p271
           replace q271 := eq_true q271
           try go_wp2_with (first | ((with_reducible refine gate_dst (N := 4) rfl ?_); (try (refine gate_guard (by rfl) ?_; dsimp only)); refine box_event ?hg (N := 4) ?hd (cs := #[.string (⟨#[]⟩ : ByteArray), .int .i64 0, .int .i64 0, .int .i64 0, .int .i64 0, .int .i64 0, .int .i64 0]) (t := 77) ?hr ?_; (case hd => rfl); (case hg => rfl); (case hr => first | (go_simp; done) | (go_simp; rfl)); intro gb272 hg w25 hbox hb; have n0_ := Aside0.mk (below_step bB_ hb); have n1_ := Aside0.mk (hbox); have n2_ := Aside0.mk ((by rw [hg]; exact (below_size bB_) : w.heap.size ≤ gb272)); have n3_ := Aside0.mk ((by rw [hg]; exact (below_size bB_) : w.heap.size ≤ gb272)); clear HB; have HB := n0_; have BK272 := n1_; have GW272 := n2_; have GE272 := n3_; clear n0_ n1_ n2_ n3_; clear hb hbox hg; have hcz26_0 : w25.cell? ⟨gb272, 0, none⟩ = some (.string (⟨#[]⟩ : ByteArray)) := (blk_cell BK272.out 0).trans rfl; have hcz26_1 : w25.cell? ⟨gb272, 1, none⟩ = some (.int .i64 0) := (blk_cell BK272.out 1).trans rfl; have hcz26_2 : w25.cell? ⟨gb272, 2, none⟩ = some (.int .i64 0) := (blk_cell BK272.out 2).trans rfl; have hcz26_3 : w25.cell? ⟨gb272, 3, none⟩ = some (.int .i64 0) := (blk_cell BK272.out 3).trans rfl; have hcz26_4 : w25.cell? ⟨gb272, 4, none⟩ = some (.int .i64 0) := (blk_cell BK272.out 4).trans rfl; have hcz26_5 : w25.cell? ⟨gb272, 5, none⟩ = some (.int .i64 0) := (blk_cell BK272.out 5).trans rfl; have hcz26_6 : w25.cell? ⟨gb272, 6, none⟩ = some (.int .i64 0) := (blk_cell BK272.out 6).trans rfl; have hfz26_0 := blk_frozen BK272.out 0; have hfz26_1 := blk_frozen BK272.out 1; have hfz26_2 := blk_frozen BK272.out 2; have hfz26_3 := blk_frozen BK272.out 3; have hfz26_4 := blk_frozen BK272.out 4; have hfz26_5 := blk_frozen BK272.out 5; have hfz26_6 := blk_frozen BK272.out 6))
           have n0_ : Aside0 ((((((((w25.setCell ⟨gb272, 0, none⟩ (.string ((rd_T77 l0 x15_2).f0))).setCell ⟨gb272, 1, none⟩ (.int .i64 ((rd_T77 l0 x15_2).f1))).setCell ⟨gb272, 2, none⟩ (.int .i64 ((rd_T77 l0 x15_2).f2))).setCell ⟨gb272, 3, none⟩ (.int .i64 ((rd_T77 l0 x15_2).f3))).setCell ⟨gb272, 4, none⟩ (.int .i64 ((rd_T77 l0 x15_2).f4))).setCell ⟨gb272, 5, none⟩ (.int .i64 ((rd_T77 l0 x15_2).f5))).setCell ⟨gb272, 6, none⟩ (.int .i64 ((rd_T77 l0 x15_2).f6))).heap[gb272]? = some (.cells #[.string ((rd_T77 l0 x15_2).f0), .int .i64 ((rd_T77 l0 x15_2).f1), .int .i64 ((rd_T77 l0 x15_2).f2), .int .i64 ((rd_T77 l0 x15_2).f3), .int .i64 ((rd_T77 l0 x15_2).f4), .int .i64 ((rd_T77 l0 x15_2).f5), .int .i64 ((rd_T77 l0 x15_2).f6)] 77 (0, 0))) := ⟨by (with_reducible repeat (first | refine blk_drewN ?_ _ | refine blk_drew ?_ | refine blk_alloc ?_ _)); refine blk_put (cs := #[.string ((rd_T77 l0 x15_2).f0), .int .i64 ((rd_T77 l0 x15_2).f1), .int .i64 ((rd_T77 l0 x15_2).f2), .int .i64 ((rd_T77 l0 x15_2).f3), .int .i64 ((rd_T77 l0 x15_2).f4), .int .i64 ((rd_T77 l0 x15_2).f5), .int .i64 0]) ?_ 6 _ rfl; (with_reducible repeat (first | refine blk_drewN ?_ _ | refine blk_drew ?_ | refine blk_alloc ?_ _)); refine blk_put (cs := #[.string ((rd_T77 l0 x15_2).f0), .int .i64 ((rd_T77 l0 x15_2).f1), .int .i64 ((rd_T77 l0 x15_2).f2), .int .i64 ((rd_T77 l0 x15_2).f3), .int .i64 ((rd_T77 l0 x15_2).f4), .int .i64 0, .int .i64 0]) ?_ 5 _ rfl; (with_reducible repeat (first | refine blk_drewN ?_ _ | refine blk_drew ?_ | refine blk_alloc ?_ _)); refine blk_put (cs := #[.string ((rd_T77 l0 x15_2).f0), .int .i64 ((rd_T77 l0 x15_2).f1), .int .i64 ((rd_T77 l0 x15_2).f2), .int .i64 ((rd_T77 l0 x15_2).f3), .int .i64 0, .int .i64 0, .int .i64 0]) ?_ 4 _ rfl; (with_reducible repeat (first | refine blk_drewN ?_ _ | refine blk_drew ?_ | refine blk_alloc ?_ _)); refine blk_put (cs := #[.string ((rd_T77 l0 x15_2).f0), .int .i64 ((rd_T77 l0 x15_2).f1), .int .i64 ((rd_T77 l0 x15_2).f2), .int .i64 0, .int .i64 0, .int .i64 0, .int .i64 0]) ?_ 3 _ rfl; (with_reducible repeat (first | refine blk_drewN ?_ _ | refine blk_drew ?_ | refine blk_alloc ?_ _)); refine blk_put (cs := #[.string ((rd_T77 l0 x15_2).f0), .int .i64 ((rd_T77 l0 x15_2).f1), .int .i64 0, .int .i64 0, .int .i64 0, .int .i64 0, .int .i64 0]) ?_ 2 _ rfl; (with_reducible repeat (first | refine blk_drewN ?_ _ | refine blk_drew ?_ | refine blk_alloc ?_ _)); refine blk_put (cs := #[.string ((rd_T77 l0 x15_2).f0), .int .i64 0, .int .i64 0, .int .i64 0, .int .i64 0, .int .i64 0, .int .i64 0]) ?_ 1 _ rfl; (with_reducible repeat (first | refine blk_drewN ?_ _ | refine blk_drew ?_ | refine blk_alloc ?_ _)); refine blk_put (cs := #[.string (⟨#[]⟩ : ByteArray), .int .i64 0, .int .i64 0, .int .i64 0, .int .i64 0, .int .i64 0, .int .i64 0]) ?_ 0 _ rfl; (with_reducible repeat (first | refine blk_drewN ?_ _ | refine blk_drew ?_ | refine blk_alloc ?_ _)); exact BK272.out⟩
           have n1_ : Aside0 (Below w.heap.size w (((((((w25.setCell ⟨gb272, 0, none⟩ (.string ((rd_T77 l0 x15_2).f0))).setCell ⟨gb272, 1, none⟩ (.int .i64 ((rd_T77 l0 x15_2).f1))).setCell ⟨gb272, 2, none⟩ (.int .i64 ((rd_T77 l0 x15_2).f2))).setCell ⟨gb272, 3, none⟩ (.int .i64 ((rd_T77 l0 x15_2).f3))).setCell ⟨gb272, 4, none⟩ (.int .i64 ((rd_T77 l0 x15_2).f4))).setCell ⟨gb272, 5, none⟩ (.int .i64 ((rd_T77 l0 x15_2).f5))).setCell ⟨gb272, 6, none⟩ (.int .i64 ((rd_T77 l0 x15_2).f6)))) := ⟨bC_ GE272.out⟩
           (try clear BK272)
           (try clear HB)
           generalize (((((((w25.setCell ⟨gb272, 0, none⟩ (.string ((rd_T77 l0 x15_2).f0))).setCell ⟨gb272, 1, none⟩ (.int .i64 ((rd_T77 l0 x15_2).f1))).setCell ⟨gb272, 2, none⟩ (.int .i64 ((rd_T77 l0 x15_2).f2))).setCell ⟨gb272, 3, none⟩ (.int .i64 ((rd_T77 l0 x15_2).f3))).setCell ⟨gb272, 4, none⟩ (.int .i64 ((rd_T77 l0 x15_2).f4))).setCell ⟨gb272, 5, none⟩ (.int .i64 ((rd_T77 l0 x15_2).f5))).setCell ⟨gb272, 6, none⟩ (.int .i64 ((rd_T77 l0 x15_2).f6))) = w27 at n0_ n1_ ⊢
           have BK272 := n0_
           have HB := n1_
           clear n0_ n1_
           have n0_ := Aside0.mk (blk_drew BK272.out)
           have n1_ := Aside0.mk (below_drew1 HB.out)
           clear BK272
           clear HB
           have BK272 := n0_
           have HB := n1_
           clear n0_ n1_
           refine start_ (n := 18) (S := fun w' => w'.cell? ⟨gb272, 0, none⟩ = some (.string ((rd_T77 l0 x15_2).f0)) ∧ w'.cell? ⟨gb272, 1, none⟩ = some (.int .i64 ((rd_T77 l0 x15_2).f1)) ∧ w'.cell? ⟨gb272, 2, none⟩ = some (.int .i64 ((rd_T77 l0 x15_2).f2)) ∧ w'.cell? ⟨gb272, 3, none⟩ = some (.int .i64 ((rd_T77 l0 x15_2).f3)) ∧ w'.cell? ⟨gb272, 4, none⟩ = some (.int .i64 ((rd_T77 l0 x15_2).f4)) ∧ w'.cell? ⟨gb272, 5, none⟩ = some (.int .i64 ((rd_T77 l0 x15_2).f5)) ∧ w'.cell? ⟨gb272, 6, none⟩ = some (.int .i64 ((rd_T77 l0 x15_2).f6))) (ds := []) #[false, false, false, false, false, false, false, false, false, false, false, false, false, false, false, false, false, false] (by kernel_rfl) rfl rfl ⟨(blk_cell BK272.out 0).trans rfl, (blk_cell BK272.out 1).trans rfl, (blk_cell BK272.out 2).trans rfl, (blk_cell BK272.out 3).trans rfl, (blk_cell BK272.out 4).trans rfl, (blk_cell BK272.out 5).trans rfl, (blk_cell BK272.out 6).trans rfl⟩ (fun hHeld => ?_); refine with_tabW impl_ValidUnits.tab6 impl_ValidUnits.bits6 (fun HT_ HW_ => ?_)
           generalize w27.drew = w28 at BK272 HB hHeld ⊢
           refine take_ (i := 0) (N := some 20) (v := ?_) (a' := ?_) #[true, false, false, false, false, false, false, false, false, false, false, false, false, false, false, false, false, false] rfl rfl (take_ofW HT_.out HW_.out (by kernel_rfl)) (fun _ _ _ h => h) (Or.inl ⟨by rfl, ?_⟩) hHeld ?_ ?_
           rotate_left
           ·
            rintro w' ⟨s0, s1, s2, s3, s4, s5, s6⟩
            go_simp
            with_reducible rfl
           rotate_left
           ·
            simp only [Act.put, q1_, q2_, q3_, i64_w, i32_w]
            rfl
           refine one_ (i := 1) (N := some 21) #[true, true, false, false, false, false, false, false, false, false, false, false, false, false, false, false, false, false] rfl rfl (one_of HT_.out (by kernel_rfl)) (by decide) (fun K hK => ?_)
           refine goes_ Try.func117 (by kernel_rfl) rfl #[.agg #[.string ((rd_T77 l0 x15_2).f0), .int .i64 ((rd_T77 l0 x15_2).f1), .int .i64 ((rd_T77 l0 x15_2).f2), .int .i64 ((rd_T77 l0 x15_2).f3), .int .i64 ((rd_T77 l0 x15_2).f4), .int .i64 ((rd_T77 l0 x15_2).f5), .int .i64 ((rd_T77 l0 x15_2).f6)]] (by rfl) rfl rfl mT_ ?_
           with_reducible refine (impl_Unit_valid.calls k2 ((rd_T77 l0 x15_2).f0) ((rd_T77 l0 x15_2).f1) ((rd_T77 l0 x15_2).f2) ((rd_T77 l0 x15_2).f3) ((rd_T77 l0 x15_2).f4) ((rd_T77 l0 x15_2).f5) ((rd_T77 l0 x15_2).f6) true _ A8.out).mono ?_
           rintro e w29 ⟨rfl, hb⟩
           refine ⟨_, rfl, ?_⟩
           have n0_ := Aside0.mk (blk_below (g := gb272) (o := .cells #[.string ((rd_T77 l0 x15_2).f0), .int .i64 ((rd_T77 l0 x15_2).f1), .int .i64 ((rd_T77 l0 x15_2).f2), .int .i64 ((rd_T77 l0 x15_2).f3), .int .i64 ((rd_T77 l0 x15_2).f4), .int .i64 ((rd_T77 l0 x15_2).f5), .int .i64 ((rd_T77 l0 x15_2).f6)] 77 (0, 0)) (bK_ BK272.out) hb)
           have n1_ := Aside0.mk (below_step (bC_ GE272.out) hb)
           clear BK272
           clear HB
           have BK272 := n0_
           have HB := n1_
           clear n0_ n1_
           (try clear hb)
           (try clear hb2)
           (try clear hk)
           (try clear hi)
           refine hK.out _ _ ⟨(blk_cell BK272.out 0).trans rfl, (blk_cell BK272.out 1).trans rfl, (blk_cell BK272.out 2).trans rfl, (blk_cell BK272.out 3).trans rfl, (blk_cell BK272.out 4).trans rfl, (blk_cell BK272.out 5).trans rfl, (blk_cell BK272.out 6).trans rfl⟩ (fun hHeld => ?_)
           clear hK K
           refine norm_ (a' := ?_) ?_ ?_
           rotate_left
           ·
            show Act.put _ (some 21) _ = _
            simp only [Act.put, q1_, q2_, q3_, i64_w, i32_w]
            rfl
           refine pure_ (i := 2) (N := some 22) (v := ?_) (a' := ?_) #[true, true, true, false, false, false, false, false, false, false, false, false, false, false, false, false, false, false] rfl rfl (any_of HT_.out (by kernel_rfl)) (fun _ _ _ h => h) (Or.inl ⟨by rfl, ?_⟩) ?_ ?_
           rotate_left
           ·
            intro w'
            go_simp
            with_reducible rfl
           rotate_left
           ·
            simp only [Act.put, q1_, q2_, q3_, i64_w, i32_w]
            rfl
           refine pure_ (i := 3) (N := some 23) (v := ?_) (a' := ?_) #[true, true, true, true, false, false, false, false, false, false, false, false, false, false, false, false, false, false] rfl rfl (any_of HT_.out (by kernel_rfl)) (fun _ _ _ h => h) (Or.inl ⟨by rfl, ?_⟩) ?_ ?_
           rotate_left
           ·
            intro w'
            go_simp
            with_reducible rfl
           rotate_left
           ·
            simp only [Act.put, q1_, q2_, q3_, i64_w, i32_w]
            rfl
           refine pure_ (i := 4) (N := some 24) (v := ?_) (a' := ?_) #[true, true, true, true, true, false, false, false, false, false, false, false, false, false, false, false, false, false] rfl rfl (any_of HT_.out (by kernel_rfl)) (fun _ _ _ h => h) (Or.inl ⟨by rfl, ?_⟩) ?_ ?_
           rotate_left
           ·
            intro w'
            go_simp
            with_reducible rfl
           rotate_left
           ·
            simp only [Act.put, q1_, q2_, q3_, i64_w, i32_w]
            rfl
           refine pure_ (i := 5) (N := some 25) (v := ?_) (a' := ?_) #[true, true, true, true, true, true, false, false, false, false, false, false, false, false, false, false, false, false] rfl rfl (any_of HT_.out (by kernel_rfl)) (fun _ _ _ h => h) (Or.inl ⟨by rfl, ?_⟩) ?_ ?_
           rotate_left
           ·
            intro w'
            go_simp
            with_reducible rfl
           rotate_left
           ·
            simp only [Act.put, q1_, q2_, q3_, i64_w, i32_w]
            rfl
           refine pure_ (i := 6) (N := some 26) (v := ?_) (a' := ?_) #[true, true, true, true, true, true, true, false, false, false, false, false, false, false, false, false, false, false] rfl rfl (any_of HT_.out (by kernel_rfl)) (fun _ _ _ h => h) (Or.inl ⟨by rfl, ?_⟩) ?_ ?_
           rotate_left
           ·
            intro w'
            go_simp
            with_reducible rfl
           rotate_left
           ·
            simp only [Act.put, q1_, q2_, q3_, i64_w, i32_w]
            rfl
           refine pure_ (i := 7) (N := some 27) (v := undef) (a' := ?_) #[true, true, true, true, true, true, true, true, false, false, false, false, false, false, false, false, false, false] rfl rfl (any_of HT_.out (by kernel_rfl)) (fun _ _ _ h => h) (Or.inr ⟨by rfl, rfl⟩) ?_ ?_
           rotate_left
           ·
            simp only [Act.put, q1_, q2_, q3_, i64_w, i32_w]
            rfl
           refine pure_ (i := 8) (N := some 28) (v := undef) (a' := ?_) #[true, true, true, true, true, true, true, true, true, false, false, false, false, false, false, false, false, false] rfl rfl (any_of HT_.out (by kernel_rfl)) (fun _ _ _ h => h) (Or.inr ⟨by rfl, rfl⟩) ?_ ?_
           rotate_left
           ·
            simp only [Act.put, q1_, q2_, q3_, i64_w, i32_w]
            rfl
           refine pure_ (i := 9) (N := some 29) (v := undef) (a' := ?_) #[true, true, true, true, true, true, true, true, true, true, false, false, false, false, false, false, false, false] rfl rfl (any_of HT_.out (by kernel_rfl)) (fun _ _ _ h => h) (Or.inr ⟨by rfl, rfl⟩) ?_ ?_
           rotate_left
           ·
            simp only [Act.put, q1_, q2_, q3_, i64_w, i32_w]
            rfl
           refine pure_ (i := 10) (N := some 30) (v := undef) (a' := ?_) #[true, true, true, true, true, true, true, true, true, true, true, false, false, false, false, false, false, false] rfl rfl (any_of HT_.out (by kernel_rfl)) (fun _ _ _ h => h) (Or.inr ⟨by rfl, rfl⟩) ?_ ?_
           rotate_left
           ·
            simp only [Act.put, q1_, q2_, q3_, i64_w, i32_w]
            rfl
           refine pure_ (i := 11) (N := some 31) (v := undef) (a' := ?_) #[true, true, true, true, true, true, true, true, true, true, true, true, false, false, false, false, false, false] rfl rfl (any_of HT_.out (by kernel_rfl)) (fun _ _ _ h => h) (Or.inr ⟨by rfl, rfl⟩) ?_ ?_
           rotate_left
           ·
            simp only [Act.put, q1_, q2_, q3_, i64_w, i32_w]
            rfl
           refine pure_ (i := 12) (N := some 32) (v := undef) (a' := ?_) #[true, true, true, true, true, true, true, true, true, true, true, true, true, false, false, false, false, false] rfl rfl (any_of HT_.out (by kernel_rfl)) (fun _ _ _ h => h) (Or.inr ⟨by rfl, rfl⟩) ?_ ?_
           rotate_left
           ·
            simp only [Act.put, q1_, q2_, q3_, i64_w, i32_w]
            rfl
           refine pure_ (i := 13) (N := some 33) (v := undef) (a' := ?_) #[true, true, true, true, true, true, true, true, true, true, true, true, true, true, false, false, false, false] rfl rfl (any_of HT_.out (by kernel_rfl)) (fun _ _ _ h => h) (Or.inr ⟨by rfl, rfl⟩) ?_ ?_
           rotate_left
           ·
            simp only [Act.put, q1_, q2_, q3_, i64_w, i32_w]
            rfl
           refine pure_ (i := 14) (N := some 34) (v := undef) (a' := ?_) #[true, true, true, true, true, true, true, true, true, true, true, true, true, true, true, false, false, false] rfl rfl (any_of HT_.out (by kernel_rfl)) (fun _ _ _ h => h) (Or.inr ⟨by rfl, rfl⟩) ?_ ?_
           rotate_left
           ·
            simp only [Act.put, q1_, q2_, q3_, i64_w, i32_w]
            rfl
           refine pure_ (i := 15) (N := some 35) (v := undef) (a' := ?_) #[true, true, true, true, true, true, true, true, true, true, true, true, true, true, true, true, false, false] rfl rfl (any_of HT_.out (by kernel_rfl)) (fun _ _ _ h => h) (Or.inr ⟨by rfl, rfl⟩) ?_ ?_
           rotate_left
           ·
            simp only [Act.put, q1_, q2_, q3_, i64_w, i32_w]
            rfl
           refine pure_ (i := 16) (N := some 36) (v := ?_) (a' := ?_) #[true, true, true, true, true, true, true, true, true, true, true, true, true, true, true, true, true, false] rfl rfl (any_of HT_.out (by kernel_rfl)) (fun _ _ _ h => h) (Or.inl ⟨by rfl, ?_⟩) ?_ ?_
           rotate_left
           ·
            intro w'
            go_simp
            with_reducible rfl
           rotate_left
           ·
            simp only [Act.put, q1_, q2_, q3_, i64_w, i32_w]
            rfl
           refine pure_ (i := 17) (N := some 37) (v := ?_) (a' := ?_) #[true, true, true, true, true, true, true, true, true, true, true, true, true, true, true, true, true, true] rfl rfl (any_of HT_.out (by kernel_rfl)) (fun _ _ _ h => h) (Or.inl ⟨by rfl, ?_⟩) ?_ ?_
           rotate_left
           ·
            intro w'
            go_simp
            with_reducible rfl
           rotate_left
           ·
            simp only [Act.put, q1_, q2_, q3_, i64_w, i32_w]
            rfl
           refine done_ (done_of HT_.out (by kernel_rfl)) ?_
           try go_wp2
           go_roundg k2
           case measure => have := HJ1.out; have := HK2.out; omega
           case rel => exact ⟨(wrap64 (x15_2 + 1)), rs_, H', ⟨by have := HJ1.out; have := HK2.out; omega⟩, ⟨bC_ GE272.out⟩⟩
         ·
          replace c9 := Bool.eq_false_iff.mpr c9
          subst c9
          have H1 : (some false) = some r := by rw [if_neg (show ¬ (false = true) by decide)] at H; exact H
          clear H
          have H := H1
          clear H1
          obtain rfl := Option.some.inj H
          have p271 : 0 ≤ (x15_2 : Int) := of_decide_eq_true as_
          have q271 : x15_2 < (l0.length : Int) := of_decide_eq_true as_
          obtain ⟨ad271, e271, hx271_0, hx271_1, hx271_2, hx271_3, hx271_4, hx271_5, hx271_6⟩ := at_T77 HR0.out x15_2 p271 q271
          cases e271
          replace hx271_0 := cl_ HB hx271_0
          replace hx271_1 := cl_ HB hx271_1
          replace hx271_2 := cl_ HB hx271_2
          replace hx271_3 := cl_ HB hx271_3
          replace hx271_4 := cl_ HB hx271_4
          replace hx271_5 := cl_ HB hx271_5
          replace hx271_6 := cl_ HB hx271_6
          replace p271 := eq_true p271
          replace q271 := eq_true q271
          try go_wp2_with (first | ((with_reducible refine gate_dst (N := 4) rfl ?_); (try (refine gate_guard (by rfl) ?_; dsimp only)); refine box_event ?hg (N := 4) ?hd (cs := #[.string (⟨#[]⟩ : ByteArray), .int .i64 0, .int .i64 0, .int .i64 0, .int .i64 0, .int .i64 0, .int .i64 0]) (t := 77) ?hr ?_; (case hd => rfl); (case hg => rfl); (case hr => first | (go_simp; done) | (go_simp; rfl)); intro gb272 hg w30 hbox hb; have n0_ := Aside0.mk (below_step bB_ hb); have n1_ := Aside0.mk (hbox); have n2_ := Aside0.mk ((by rw [hg]; exact (below_size bB_) : w.heap.size ≤ gb272)); have n3_ := Aside0.mk ((by rw [hg]; exact (below_size bB_) : w.heap.size ≤ gb272)); clear HB; have HB := n0_; have BK272 := n1_; have GW272 := n2_; have GE272 := n3_; clear n0_ n1_ n2_ n3_; clear hb hbox hg; have hcz31_0 : w30.cell? ⟨gb272, 0, none⟩ = some (.string (⟨#[]⟩ : ByteArray)) := (blk_cell BK272.out 0).trans rfl; have hcz31_1 : w30.cell? ⟨gb272, 1, none⟩ = some (.int .i64 0) := (blk_cell BK272.out 1).trans rfl; have hcz31_2 : w30.cell? ⟨gb272, 2, none⟩ = some (.int .i64 0) := (blk_cell BK272.out 2).trans rfl; have hcz31_3 : w30.cell? ⟨gb272, 3, none⟩ = some (.int .i64 0) := (blk_cell BK272.out 3).trans rfl; have hcz31_4 : w30.cell? ⟨gb272, 4, none⟩ = some (.int .i64 0) := (blk_cell BK272.out 4).trans rfl; have hcz31_5 : w30.cell? ⟨gb272, 5, none⟩ = some (.int .i64 0) := (blk_cell BK272.out 5).trans rfl; have hcz31_6 : w30.cell? ⟨gb272, 6, none⟩ = some (.int .i64 0) := (blk_cell BK272.out 6).trans rfl; have hfz31_0 := blk_frozen BK272.out 0; have hfz31_1 := blk_frozen BK272.out 1; have hfz31_2 := blk_frozen BK272.out 2; have hfz31_3 := blk_frozen BK272.out 3; have hfz31_4 := blk_frozen BK272.out 4; have hfz31_5 := blk_frozen BK272.out 5; have hfz31_6 := blk_frozen BK272.out 6))
          have n0_ : Aside0 ((((((((w30.setCell ⟨gb272, 0, none⟩ (.string ((rd_T77 l0 x15_2).f0))).setCell ⟨gb272, 1, none⟩ (.int .i64 ((rd_T77 l0 x15_2).f1))).setCell ⟨gb272, 2, none⟩ (.int .i64 ((rd_T77 l0 x15_2).f2))).setCell ⟨gb272, 3, none⟩ (.int .i64 ((rd_T77 l0 x15_2).f3))).setCell ⟨gb272, 4, none⟩ (.int .i64 ((rd_T77 l0 x15_2).f4))).setCell ⟨gb272, 5, none⟩ (.int .i64 ((rd_T77 l0 x15_2).f5))).setCell ⟨gb272, 6, none⟩ (.int .i64 ((rd_T77 l0 x15_2).f6))).heap[gb272]? = some (.cells #[.string ((rd_T77 l0 x15_2).f0), .int .i64 ((rd_T77 l0 x15_2).f1), .int .i64 ((rd_T77 l0 x15_2).f2), .int .i64 ((rd_T77 l0 x15_2).f3), .int .i64 ((rd_T77 l0 x15_2).f4), .int .i64 ((rd_T77 l0 x15_2).f5), .int .i64 ((rd_T77 l0 x15_2).f6)] 77 (0, 0))) := ⟨by (with_reducible repeat (first | refine blk_drewN ?_ _ | refine blk_drew ?_ | refine blk_alloc ?_ _)); refine blk_put (cs := #[.string ((rd_T77 l0 x15_2).f0), .int .i64 ((rd_T77 l0 x15_2).f1), .int .i64 ((rd_T77 l0 x15_2).f2), .int .i64 ((rd_T77 l0 x15_2).f3), .int .i64 ((rd_T77 l0 x15_2).f4), .int .i64 ((rd_T77 l0 x15_2).f5), .int .i64 0]) ?_ 6 _ rfl; (with_reducible repeat (first | refine blk_drewN ?_ _ | refine blk_drew ?_ | refine blk_alloc ?_ _)); refine blk_put (cs := #[.string ((rd_T77 l0 x15_2).f0), .int .i64 ((rd_T77 l0 x15_2).f1), .int .i64 ((rd_T77 l0 x15_2).f2), .int .i64 ((rd_T77 l0 x15_2).f3), .int .i64 ((rd_T77 l0 x15_2).f4), .int .i64 0, .int .i64 0]) ?_ 5 _ rfl; (with_reducible repeat (first | refine blk_drewN ?_ _ | refine blk_drew ?_ | refine blk_alloc ?_ _)); refine blk_put (cs := #[.string ((rd_T77 l0 x15_2).f0), .int .i64 ((rd_T77 l0 x15_2).f1), .int .i64 ((rd_T77 l0 x15_2).f2), .int .i64 ((rd_T77 l0 x15_2).f3), .int .i64 0, .int .i64 0, .int .i64 0]) ?_ 4 _ rfl; (with_reducible repeat (first | refine blk_drewN ?_ _ | refine blk_drew ?_ | refine blk_alloc ?_ _)); refine blk_put (cs := #[.string ((rd_T77 l0 x15_2).f0), .int .i64 ((rd_T77 l0 x15_2).f1), .int .i64 ((rd_T77 l0 x15_2).f2), .int .i64 0, .int .i64 0, .int .i64 0, .int .i64 0]) ?_ 3 _ rfl; (with_reducible repeat (first | refine blk_drewN ?_ _ | refine blk_drew ?_ | refine blk_alloc ?_ _)); refine blk_put (cs := #[.string ((rd_T77 l0 x15_2).f0), .int .i64 ((rd_T77 l0 x15_2).f1), .int .i64 0, .int .i64 0, .int .i64 0, .int .i64 0, .int .i64 0]) ?_ 2 _ rfl; (with_reducible repeat (first | refine blk_drewN ?_ _ | refine blk_drew ?_ | refine blk_alloc ?_ _)); refine blk_put (cs := #[.string ((rd_T77 l0 x15_2).f0), .int .i64 0, .int .i64 0, .int .i64 0, .int .i64 0, .int .i64 0, .int .i64 0]) ?_ 1 _ rfl; (with_reducible repeat (first | refine blk_drewN ?_ _ | refine blk_drew ?_ | refine blk_alloc ?_ _)); refine blk_put (cs := #[.string (⟨#[]⟩ : ByteArray), .int .i64 0, .int .i64 0, .int .i64 0, .int .i64 0, .int .i64 0, .int .i64 0]) ?_ 0 _ rfl; (with_reducible repeat (first | refine blk_drewN ?_ _ | refine blk_drew ?_ | refine blk_alloc ?_ _)); exact BK272.out⟩
          have n1_ : Aside0 (Below w.heap.size w (((((((w30.setCell ⟨gb272, 0, none⟩ (.string ((rd_T77 l0 x15_2).f0))).setCell ⟨gb272, 1, none⟩ (.int .i64 ((rd_T77 l0 x15_2).f1))).setCell ⟨gb272, 2, none⟩ (.int .i64 ((rd_T77 l0 x15_2).f2))).setCell ⟨gb272, 3, none⟩ (.int .i64 ((rd_T77 l0 x15_2).f3))).setCell ⟨gb272, 4, none⟩ (.int .i64 ((rd_T77 l0 x15_2).f4))).setCell ⟨gb272, 5, none⟩ (.int .i64 ((rd_T77 l0 x15_2).f5))).setCell ⟨gb272, 6, none⟩ (.int .i64 ((rd_T77 l0 x15_2).f6)))) := ⟨bC_ GE272.out⟩
          (try clear BK272)
          (try clear HB)
          generalize (((((((w30.setCell ⟨gb272, 0, none⟩ (.string ((rd_T77 l0 x15_2).f0))).setCell ⟨gb272, 1, none⟩ (.int .i64 ((rd_T77 l0 x15_2).f1))).setCell ⟨gb272, 2, none⟩ (.int .i64 ((rd_T77 l0 x15_2).f2))).setCell ⟨gb272, 3, none⟩ (.int .i64 ((rd_T77 l0 x15_2).f3))).setCell ⟨gb272, 4, none⟩ (.int .i64 ((rd_T77 l0 x15_2).f4))).setCell ⟨gb272, 5, none⟩ (.int .i64 ((rd_T77 l0 x15_2).f5))).setCell ⟨gb272, 6, none⟩ (.int .i64 ((rd_T77 l0 x15_2).f6))) = w32 at n0_ n1_ ⊢
          have BK272 := n0_
          have HB := n1_
          clear n0_ n1_
          have n0_ := Aside0.mk (blk_drew BK272.out)
          have n1_ := Aside0.mk (below_drew1 HB.out)
          clear BK272
          clear HB
          have BK272 := n0_
          have HB := n1_
          clear n0_ n1_
          refine start_ (n := 18) (S := fun w' => w'.cell? ⟨gb272, 0, none⟩ = some (.string ((rd_T77 l0 x15_2).f0)) ∧ w'.cell? ⟨gb272, 1, none⟩ = some (.int .i64 ((rd_T77 l0 x15_2).f1)) ∧ w'.cell? ⟨gb272, 2, none⟩ = some (.int .i64 ((rd_T77 l0 x15_2).f2)) ∧ w'.cell? ⟨gb272, 3, none⟩ = some (.int .i64 ((rd_T77 l0 x15_2).f3)) ∧ w'.cell? ⟨gb272, 4, none⟩ = some (.int .i64 ((rd_T77 l0 x15_2).f4)) ∧ w'.cell? ⟨gb272, 5, none⟩ = some (.int .i64 ((rd_T77 l0 x15_2).f5)) ∧ w'.cell? ⟨gb272, 6, none⟩ = some (.int .i64 ((rd_T77 l0 x15_2).f6))) (ds := []) #[false, false, false, false, false, false, false, false, false, false, false, false, false, false, false, false, false, false] (by kernel_rfl) rfl rfl ⟨(blk_cell BK272.out 0).trans rfl, (blk_cell BK272.out 1).trans rfl, (blk_cell BK272.out 2).trans rfl, (blk_cell BK272.out 3).trans rfl, (blk_cell BK272.out 4).trans rfl, (blk_cell BK272.out 5).trans rfl, (blk_cell BK272.out 6).trans rfl⟩ (fun hHeld => ?_); refine with_tabW impl_ValidUnits.tab6 impl_ValidUnits.bits6 (fun HT_ HW_ => ?_)
          generalize w32.drew = w33 at BK272 HB hHeld ⊢
          refine take_ (i := 0) (N := some 20) (v := ?_) (a' := ?_) #[true, false, false, false, false, false, false, false, false, false, false, false, false, false, false, false, false, false] rfl rfl (take_ofW HT_.out HW_.out (by kernel_rfl)) (fun _ _ _ h => h) (Or.inl ⟨by rfl, ?_⟩) hHeld ?_ ?_
          rotate_left
          ·
           rintro w' ⟨s0, s1, s2, s3, s4, s5, s6⟩
           go_simp
           with_reducible rfl
          rotate_left
          ·
           simp only [Act.put, q1_, q2_, q3_, i64_w, i32_w]
           rfl
          refine one_ (i := 1) (N := some 21) #[true, true, false, false, false, false, false, false, false, false, false, false, false, false, false, false, false, false] rfl rfl (one_of HT_.out (by kernel_rfl)) (by decide) (fun K hK => ?_)
          refine goes_ Try.func117 (by kernel_rfl) rfl #[.agg #[.string ((rd_T77 l0 x15_2).f0), .int .i64 ((rd_T77 l0 x15_2).f1), .int .i64 ((rd_T77 l0 x15_2).f2), .int .i64 ((rd_T77 l0 x15_2).f3), .int .i64 ((rd_T77 l0 x15_2).f4), .int .i64 ((rd_T77 l0 x15_2).f5), .int .i64 ((rd_T77 l0 x15_2).f6)]] (by rfl) rfl rfl mT_ ?_
          with_reducible refine (impl_Unit_valid.calls k2 ((rd_T77 l0 x15_2).f0) ((rd_T77 l0 x15_2).f1) ((rd_T77 l0 x15_2).f2) ((rd_T77 l0 x15_2).f3) ((rd_T77 l0 x15_2).f4) ((rd_T77 l0 x15_2).f5) ((rd_T77 l0 x15_2).f6) false _ A8.out).mono ?_
          rintro e w34 ⟨rfl, hb⟩
          refine ⟨_, rfl, ?_⟩
          have n0_ := Aside0.mk (blk_below (g := gb272) (o := .cells #[.string ((rd_T77 l0 x15_2).f0), .int .i64 ((rd_T77 l0 x15_2).f1), .int .i64 ((rd_T77 l0 x15_2).f2), .int .i64 ((rd_T77 l0 x15_2).f3), .int .i64 ((rd_T77 l0 x15_2).f4), .int .i64 ((rd_T77 l0 x15_2).f5), .int .i64 ((rd_T77 l0 x15_2).f6)] 77 (0, 0)) (bK_ BK272.out) hb)
          have n1_ := Aside0.mk (below_step (bC_ GE272.out) hb)
          clear BK272
          clear HB
          have BK272 := n0_
          have HB := n1_
          clear n0_ n1_
          (try clear hb)
          (try clear hb2)
          (try clear hk)
          (try clear hi)
          refine hK.out _ _ ⟨(blk_cell BK272.out 0).trans rfl, (blk_cell BK272.out 1).trans rfl, (blk_cell BK272.out 2).trans rfl, (blk_cell BK272.out 3).trans rfl, (blk_cell BK272.out 4).trans rfl, (blk_cell BK272.out 5).trans rfl, (blk_cell BK272.out 6).trans rfl⟩ (fun hHeld => ?_)
          clear hK K
          refine norm_ (a' := ?_) ?_ ?_
          rotate_left
          ·
           show Act.put _ (some 21) _ = _
           simp only [Act.put, q1_, q2_, q3_, i64_w, i32_w]
           rfl
          refine pure_ (i := 2) (N := some 22) (v := ?_) (a' := ?_) #[true, true, true, false, false, false, false, false, false, false, false, false, false, false, false, false, false, false] rfl rfl (any_of HT_.out (by kernel_rfl)) (fun _ _ _ h => h) (Or.inl ⟨by rfl, ?_⟩) ?_ ?_
          rotate_left
          ·
           intro w'
           go_simp
           with_reducible rfl
          rotate_left
          ·
           simp only [Act.put, q1_, q2_, q3_, i64_w, i32_w]
           rfl
          refine pure_ (i := 3) (N := some 23) (v := ?_) (a' := ?_) #[true, true, true, true, false, false, false, false, false, false, false, false, false, false, false, false, false, false] rfl rfl (any_of HT_.out (by kernel_rfl)) (fun _ _ _ h => h) (Or.inl ⟨by rfl, ?_⟩) ?_ ?_
          rotate_left
          ·
           intro w'
           go_simp
           with_reducible rfl
          rotate_left
          ·
           simp only [Act.put, q1_, q2_, q3_, i64_w, i32_w]
           rfl
          refine pure_ (i := 4) (N := some 24) (v := undef) (a' := ?_) #[true, true, true, true, true, false, false, false, false, false, false, false, false, false, false, false, false, false] rfl rfl (any_of HT_.out (by kernel_rfl)) (fun _ _ _ h => h) (Or.inr ⟨by rfl, rfl⟩) ?_ ?_
          rotate_left
          ·
           simp only [Act.put, q1_, q2_, q3_, i64_w, i32_w]
           rfl
          refine pure_ (i := 5) (N := some 25) (v := undef) (a' := ?_) #[true, true, true, true, true, true, false, false, false, false, false, false, false, false, false, false, false, false] rfl rfl (any_of HT_.out (by kernel_rfl)) (fun _ _ _ h => h) (Or.inr ⟨by rfl, rfl⟩) ?_ ?_
          rotate_left
          ·
           simp only [Act.put, q1_, q2_, q3_, i64_w, i32_w]
           rfl
          refine pure_ (i := 6) (N := some 26) (v := undef) (a' := ?_) #[true, true, true, true, true, true, true, false, false, false, false, false, false, false, false, false, false, false] rfl rfl (any_of HT_.out (by kernel_rfl)) (fun _ _ _ h => h) (Or.inr ⟨by rfl, rfl⟩) ?_ ?_
          rotate_left
          ·
           simp only [Act.put, q1_, q2_, q3_, i64_w, i32_w]
           rfl
          refine pure_ (i := 7) (N := some 27) (v := undef) (a' := ?_) #[true, true, true, true, true, true, true, true, false, false, false, false, false, false, false, false, false, false] rfl rfl (any_of HT_.out (by kernel_rfl)) (fun _ _ _ h => h) (Or.inr ⟨by rfl, rfl⟩) ?_ ?_
          rotate_left
          ·
           simp only [Act.put, q1_, q2_, q3_, i64_w, i32_w]
           rfl
          refine pure_ (i := 8) (N := some 28) (v := undef) (a' := ?_) #[true, true, true, true, true, true, true, true, true, false, false, false, false, false, false, false, false, false] rfl rfl (any_of HT_.out (by kernel_rfl)) (fun _ _ _ h => h) (Or.inr ⟨by rfl, rfl⟩) ?_ ?_
          rotate_left
          ·
           simp only [Act.put, q1_, q2_, q3_, i64_w, i32_w]
           rfl
          refine pure_ (i := 9) (N := some 29) (v := undef) (a' := ?_) #[true, true, true, true, true, true, true, true, true, true, false, false, false, false, false, false, false, false] rfl rfl (any_of HT_.out (by kernel_rfl)) (fun _ _ _ h => h) (Or.inr ⟨by rfl, rfl⟩) ?_ ?_
          rotate_left
          ·
           simp only [Act.put, q1_, q2_, q3_, i64_w, i32_w]
           rfl
          refine pure_ (i := 10) (N := some 30) (v := undef) (a' := ?_) #[true, true, true, true, true, true, true, true, true, true, true, false, false, false, false, false, false, false] rfl rfl (any_of HT_.out (by kernel_rfl)) (fun _ _ _ h => h) (Or.inr ⟨by rfl, rfl⟩) ?_ ?_
          rotate_left
          ·
           simp only [Act.put, q1_, q2_, q3_, i64_w, i32_w]
           rfl
          refine pure_ (i := 11) (N := some 31) (v := undef) (a' := ?_) #[true, true, true, true, true, true, true, true, true, true, true, true, false, false, false, false, false, false] rfl rfl (any_of HT_.out (by kernel_rfl)) (fun _ _ _ h => h) (Or.inr ⟨by rfl, rfl⟩) ?_ ?_
          rotate_left
          ·
           simp only [Act.put, q1_, q2_, q3_, i64_w, i32_w]
           rfl
          refine pure_ (i := 12) (N := some 32) (v := undef) (a' := ?_) #[true, true, true, true, true, true, true, true, true, true, true, true, true, false, false, false, false, false] rfl rfl (any_of HT_.out (by kernel_rfl)) (fun _ _ _ h => h) (Or.inr ⟨by rfl, rfl⟩) ?_ ?_
          rotate_left
          ·
           simp only [Act.put, q1_, q2_, q3_, i64_w, i32_w]
           rfl
          refine pure_ (i := 13) (N := some 33) (v := undef) (a' := ?_) #[true, true, true, true, true, true, true, true, true, true, true, true, true, true, false, false, false, false] rfl rfl (any_of HT_.out (by kernel_rfl)) (fun _ _ _ h => h) (Or.inr ⟨by rfl, rfl⟩) ?_ ?_
          rotate_left
          ·
           simp only [Act.put, q1_, q2_, q3_, i64_w, i32_w]
           rfl
          refine pure_ (i := 14) (N := some 34) (v := undef) (a' := ?_) #[true, true, true, true, true, true, true, true, true, true, true, true, true, true, true, false, false, false] rfl rfl (any_of HT_.out (by kernel_rfl)) (fun _ _ _ h => h) (Or.inr ⟨by rfl, rfl⟩) ?_ ?_
          rotate_left
          ·
           simp only [Act.put, q1_, q2_, q3_, i64_w, i32_w]
           rfl
          refine pure_ (i := 15) (N := some 35) (v := undef) (a' := ?_) #[true, true, true, true, true, true, true, true, true, true, true, true, true, true, true, true, false, false] rfl rfl (any_of HT_.out (by kernel_rfl)) (fun _ _ _ h => h) (Or.inr ⟨by rfl, rfl⟩) ?_ ?_
          rotate_left
          ·
           simp only [Act.put, q1_, q2_, q3_, i64_w, i32_w]
           rfl
          refine pure_ (i := 16) (N := some 36) (v := undef) (a' := ?_) #[true, true, true, true, true, true, true, true, true, true, true, true, true, true, true, true, true, false] rfl rfl (any_of HT_.out (by kernel_rfl)) (fun _ _ _ h => h) (Or.inr ⟨by rfl, rfl⟩) ?_ ?_
          rotate_left
          ·
           simp only [Act.put, q1_, q2_, q3_, i64_w, i32_w]
           rfl
          refine pure_ (i := 17) (N := some 37) (v := ?_) (a' := ?_) #[true, true, true, true, true, true, true, true, true, true, true, true, true, true, true, true, true, true] rfl rfl (any_of HT_.out (by kernel_rfl)) (fun _ _ _ h => h) (Or.inl ⟨by rfl, ?_⟩) ?_ ?_
          rotate_left
          ·
           intro w'
           go_simp
           with_reducible rfl
          rotate_left
          ·
           simp only [Act.put, q1_, q2_, q3_, i64_w, i32_w]
           rfl
          refine done_ (done_of HT_.out (by kernel_rfl)) ?_
          try go_wp2
          go_ret
          exact ⟨er_, bC_ GE272.out⟩
        ·
         rw [if_neg c7] at H
         exact absurd H (by simp)
       ·
        rw [if_neg c6] at H
        exact absurd H (by simp)
      ·
       rw [if_neg c5] at H
       have c5b0 : decide (x15_2 < (l0.length : Int)) = false := decide_eq_false c5
       clear c5
       obtain rfl := Option.some.inj H
       go_wp2
       go_ret
       exact ⟨er_, bB_⟩

end Go.Proofs.Ytebkgebibammiaa.PFnExactIsWithin
