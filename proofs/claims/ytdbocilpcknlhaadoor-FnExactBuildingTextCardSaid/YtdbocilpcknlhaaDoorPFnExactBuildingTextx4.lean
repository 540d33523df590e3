-- PRINTED by print.py (a twelfth state) out of the translation. Not trusted: Lean checks it.
import Derived.Test.YtdbocilpcknlhaaDoorPFnExactBuildingTextx0
import Derived.Test.YtdbocilpcknlhaaDoorPFnExactBuildingTextx2
import Derived.Test.YtdbocilpcknlhaaDoorPFnExactBuildingTextx3
namespace Go.Proofs.YtdbocilpcknlhaaDoor.PFnExactBuildingText
open Go.RowKit Go.Proofs.YtdbocilpcknlhaaDoorW.PrintWords Go.Proofs.YtdbocilpcknlhaaDoorW.PrintLast Go.Proofs.YtdbocilpcknlhaaDoorW.PrintMore
attribute [local go_sem] max2_int min2_int max_two min_two max_three min_three max_four min_four   -- for this text's walks alone
set_option linter.unusedVariables false
set_option linter.unusedSimpArgs false

/-! ### spec_l05Text: function 64 -/
def spec_l05Text.f (k : Nat) (l0 : List (S33)) : Option (ByteArray) := if 0 < (l0.length : Int) then (if ((rd_T33 l0 0).f0).size + 1 ≤ 9223372036854775807 then ((spec_l01List.f k (([(rd_T33 l0 0).f1, (rd_T33 l0 0).f2, (rd_T33 l0 0).f3, (rd_T33 l0 0).f4] : List Int))).bind fun t153 => (if (((rd_T33 l0 0).f0) ++ (⟨#[32]⟩ : ByteArray)).size + t153.size ≤ 9223372036854775807 then (if ((((rd_T33 l0 0).f0) ++ (⟨#[32]⟩ : ByteArray)) ++ t153).size + 1 ≤ 9223372036854775807 then ((spec_l01List.f k ((rd_T33 l0 0).f5)).bind fun t155 => (if (((((rd_T33 l0 0).f0) ++ (⟨#[32]⟩ : ByteArray)) ++ t153) ++ (⟨#[32]⟩ : ByteArray)).size + t155.size ≤ 9223372036854775807 then (some ((((((rd_T33 l0 0).f0) ++ (⟨#[32]⟩ : ByteArray)) ++ t153) ++ (⟨#[32]⟩ : ByteArray)) ++ t155)) else (none))) else (none)) else (none))) else (none)) else (none)
theorem spec_l05Text.mono : ∀ a0 k, LeO (spec_l05Text.f k a0) (spec_l05Text.f (k + 1) a0) := by
 intro a0 k
 unfold spec_l05Text.f
 repeat' first
   | (with_reducible exact spec_l01List.mono _ _)
   | (with_reducible exact LeO.refl _)
   | (with_reducible exact LeO.none _)
   | (with_reducible refine LeO.ite ?_ ?_)
   | (with_reducible refine LeO.bind ?_ (fun _ => ?_))
   | exact spec_l01List.mono _ _
   | exact LeO.none _
   | refine LeO.ite ?_ ?_
   | refine LeO.bind ?_ (fun _ => ?_)
def spec_l05Text.T1 : Bool × List (List Nat × List Nat) := (true, [([], []), ([0], [0]), ([1], [1]), ([2], [2]), ([3], [3]), ([], []), ([5], [5]), ([6], [6]), ([7], [7]), ([], []), ([9], [9]), ([10], [10]), ([11], [11]), ([], []), ([13], [13]), ([14], [14]), ([15], [15]), ([], []), ([17], [17]), ([18], [18]), ([19], [19]), ([8, 12, 16, 20], [8, 12, 16, 20]), ([21], [21]), ([4, 22], [4, 22]), ([23], [23]), ([], []), ([25], [25]), ([26], [26]), ([27], [27]), ([28, 22], [28]), ([24, 29], [24, 29]), ([30, 29, 0, 1, 2, 3, 4, 5, 6, 7, 8, 9, 10, 11, 12, 13, 14, 15, 16, 17, 18, 19, 20, 21, 22, 23, 24, 25, 26, 27, 28, 29, 30], [30])])
def spec_l05Text.B1 : List Nat := [0, 1, 3, 7, 15, 0, 32, 96, 224, 0, 512, 1536, 3584, 0, 8192, 24576, 57344, 0, 131072, 393216, 917504, 2097120, 4194272, 8388607, 16777215, 0, 33554432, 100663296, 234881024, 511705056, 1073741823, 2147483647]
theorem spec_l05Text.tab1 : rtab .any (opsOf Tryd.f64 1) = spec_l05Text.T1 := by kernel_rfl
theorem spec_l05Text.bits1 : waitsOk spec_l05Text.T1.2 spec_l05Text.B1 = true := by kernel_rfl
set_option maxHeartbeats 8000000 in
set_option maxRecDepth 100000 in
theorem spec_l05Text.calls (k : Nat) (A0 : Option Addr) (c0 : Nat) (l0 : List (S33)) (r : ByteArray) (w : World) (hr0 : Kd.C k33 w A0 l0.length l0) (hc0 : l0.length ≤ c0) (h : spec_l05Text.f k l0 = some r) :
  Calls Tryd.prog 64 #[.pointer A0] w fun e w' => e = .returned (.string r) ∧ Below w.heap.size w w' := by
 have HR0 := Aside0.mk hr0
 have HC0 := Aside0.mk hc0
 clear hr0 hc0
 have HB := Aside0.mk (Below.refl w.heap.size w)
 have H : (if 0 < (l0.length : Int) then (if ((rd_T33 l0 0).f0).size + 1 ≤ 9223372036854775807 then ((spec_l01List.f k (([(rd_T33 l0 0).f1, (rd_T33 l0 0).f2, (rd_T33 l0 0).f3, (rd_T33 l0 0).f4] : List Int))).bind fun t153 => (if (((rd_T33 l0 0).f0) ++ (⟨#[32]⟩ : ByteArray)).size + t153.size ≤ 9223372036854775807 then (if ((((rd_T33 l0 0).f0) ++ (⟨#[32]⟩ : ByteArray)) ++ t153).size + 1 ≤ 9223372036854775807 then ((spec_l01List.f k ((rd_T33 l0 0).f5)).bind fun t155 => (if (((((rd_T33 l0 0).f0) ++ (⟨#[32]⟩ : ByteArray)) ++ t153) ++ (⟨#[32]⟩ : ByteArray)).size + t155.size ≤ 9223372036854775807 then (some ((((((rd_T33 l0 0).f0) ++ (⟨#[32]⟩ : ByteArray)) ++ t153) ++ (⟨#[32]⟩ : ByteArray)) ++ t155)) else (none))) else (none)) else (none))) else (none)) else (none)) = some r := h
 clear h
 by_cases c2 : 0 < (l0.length : Int)
 ·
  rw [if_pos c2] at H
  have c2b0 : decide (0 < (l0.length : Int)) = true := decide_eq_true c2
  have c2b1 : decide (0 < l0.length) = true := decide_eq_true (by omega)
  clear c2
  by_cases c3 : ((rd_T33 l0 0).f0).size + 1 ≤ 9223372036854775807
  ·
   rw [if_pos c3] at H
   have c3b0 := eq_true c3
   have c3b1 : decide (((rd_T33 l0 0).f0).size + 1 ≤ 9223372036854775807) = true := decide_eq_true c3
   try have c3b2 : (9223372036854775807 < ((rd_T33 l0 0).f0).size + 1) = False := eq_false (Nat.not_lt.2 c3)
   obtain ⟨y150, hy150⟩ : ∃ y_ : List Int, y_ = (([(rd_T33 l0 0).f1, (rd_T33 l0 0).f2, (rd_T33 l0 0).f3, (rd_T33 l0 0).f4] : List Int)) := ⟨_, rfl⟩
   replace H : ((spec_l01List.f k y150).bind fun t153 => (if (((rd_T33 l0 0).f0) ++ (⟨#[32]⟩ : ByteArray)).size + t153.size ≤ 9223372036854775807 then (if ((((rd_T33 l0 0).f0) ++ (⟨#[32]⟩ : ByteArray)) ++ t153).size + 1 ≤ 9223372036854775807 then ((spec_l01List.f k ((rd_T33 l0 0).f5)).bind fun t155 => (if (((((rd_T33 l0 0).f0) ++ (⟨#[32]⟩ : ByteArray)) ++ t153) ++ (⟨#[32]⟩ : ByteArray)).size + t155.size ≤ 9223372036854775807 then (some ((((((rd_T33 l0 0).f0) ++ (⟨#[32]⟩ : ByteArray)) ++ t153) ++ (⟨#[32]⟩ : ByteArray)) ++ t155)) else (none))) else (none)) else (none))) = some r := by first | (rw [hy150]; with_reducible exact H) | (have H2_ := (Option.bind_some _ _).symm.trans H; rw [hy150]; with_reducible exact H2_) | (have H2_ := (Option.bind_some _ _).symm.trans H; with_reducible exact H2_) | with_reducible exact H | (rw [hy150]; exact H) | exact H
   have Ny150 := Aside0.mk hy150
   clear hy150
   replace H := Option.bind_eq_some_iff.mp H
   obtain ⟨t153, A40, H⟩ := H
   replace H : (if (((rd_T33 l0 0).f0) ++ (⟨#[32]⟩ : ByteArray)).size + t153.size ≤ 9223372036854775807 then (if ((((rd_T33 l0 0).f0) ++ (⟨#[32]⟩ : ByteArray)) ++ t153).size + 1 ≤ 9223372036854775807 then ((spec_l01List.f k ((rd_T33 l0 0).f5)).bind fun t155 => (if (((((rd_T33 l0 0).f0) ++ (⟨#[32]⟩ : ByteArray)) ++ t153) ++ (⟨#[32]⟩ : ByteArray)).size + t155.size ≤ 9223372036854775807 then (some ((((((rd_T33 l0 0).f0) ++ (⟨#[32]⟩ : ByteArray)) ++ t153) ++ (⟨#[32]⟩ : ByteArray)) ++ t155)) else (none))) else (none)) else (none)) = some r := H
   have A4 := Aside0.mk A40
   clear A40
   by_cases c5 : (((rd_T33 l0 0).f0) ++ (⟨#[32]⟩ : ByteArray)).size + t153.size ≤ 9223372036854775807
   ·
    rw [if_pos c5] at H
    have c5b0 := eq_true c5
    have c5b1 : decide ((((rd_T33 l0 0).f0) ++ (⟨#[32]⟩ : ByteArray)).size + t153.size ≤ 9223372036854775807) = true := decide_eq_true c5
    try have c5b2 : (9223372036854775807 < (((rd_T33 l0 0).f0) ++ (⟨#[32]⟩ : ByteArray)).size + t153.size) = False := eq_false (Nat.not_lt.2 c5)
    have c5e : (((rd_T33 l0 0).f0) ++ (⟨#[32]⟩ : ByteArray)).size + t153.size = (((rd_T33 l0 0).f0).size + 1) + t153.size := (by simp only [ByteArray.size_append]; rfl)
    have c5b6 : (9223372036854775807 < (((rd_T33 l0 0).f0).size + 1) + t153.size) = False := (by rw [← c5e]; exact c5b2)
    have c5b7 : decide ((((rd_T33 l0 0).f0).size + 1) + t153.size ≤ 9223372036854775807) = true := (by rw [← c5e]; exact c5b1)
    have c5b8 : ((((rd_T33 l0 0).f0).size + 1) + t153.size ≤ 9223372036854775807) = True := (by rw [← c5e]; exact eq_true (of_decide_eq_true c5b1))
    clear c5e
    by_cases c6 : ((((rd_T33 l0 0).f0) ++ (⟨#[32]⟩ : ByteArray)) ++ t153).size + 1 ≤ 9223372036854775807
    ·
     rw [if_pos c6] at H
     have c6b0 := eq_true c6
     have c6b1 : decide (((((rd_T33 l0 0).f0) ++ (⟨#[32]⟩ : ByteArray)) ++ t153).size + 1 ≤ 9223372036854775807) = true := decide_eq_true c6
     try have c6b2 : (9223372036854775807 < ((((rd_T33 l0 0).f0) ++ (⟨#[32]⟩ : ByteArray)) ++ t153).size + 1) = False := eq_false (Nat.not_lt.2 c6)
     have c6e : ((((rd_T33 l0 0).f0) ++ (⟨#[32]⟩ : ByteArray)) ++ t153).size + 1 = ((((rd_T33 l0 0).f0).size + 1) + t153.size) + 1 := (by simp only [ByteArray.size_append]; rfl)
     have c6b6 : (9223372036854775807 < ((((rd_T33 l0 0).f0).size + 1) + t153.size) + 1) = False := (by rw [← c6e]; exact c6b2)
     have c6b7 : decide (((((rd_T33 l0 0).f0).size + 1) + t153.size) + 1 ≤ 9223372036854775807) = true := (by rw [← c6e]; exact c6b1)
     have c6b8 : (((((rd_T33 l0 0).f0).size + 1) + t153.size) + 1 ≤ 9223372036854775807) = True := (by rw [← c6e]; exact eq_true (of_decide_eq_true c6b1))
     clear c6e
     replace H := Option.bind_eq_some_iff.mp H
     obtain ⟨t155, A70, H⟩ := H
     replace H : (if (((((rd_T33 l0 0).f0) ++ (⟨#[32]⟩ : ByteArray)) ++ t153) ++ (⟨#[32]⟩ : ByteArray)).size + t155.size ≤ 9223372036854775807 then (some ((((((rd_T33 l0 0).f0) ++ (⟨#[32]⟩ : ByteArray)) ++ t153) ++ (⟨#[32]⟩ : ByteArray)) ++ t155)) else (none)) = some r := H
     have A7 := Aside0.mk A70
     clear A70
     by_cases c8 : (((((rd_T33 l0 0).f0) ++ (⟨#[32]⟩ : ByteArray)) ++ t153) ++ (⟨#[32]⟩ : ByteArray)).size + t155.size ≤ 9223372036854775807
     ·
      rw [if_pos c8] at H
      have c8b0 := eq_true c8
      have c8b1 : decide ((((((rd_T33 l0 0).f0) ++ (⟨#[32]⟩ : ByteArray)) ++ t153) ++ (⟨#[32]⟩ : ByteArray)).size + t155.size ≤ 9223372036854775807) = true := decide_eq_true c8
      try have c8b2 : (9223372036854775807 < (((((rd_T33 l0 0).f0) ++ (⟨#[32]⟩ : ByteArray)) ++ t153) ++ (⟨#[32]⟩ : ByteArray)).size + t155.size) = False := eq_false (Nat.not_lt.2 c8)
      have c8e : (((((rd_T33 l0 0).f0) ++ (⟨#[32]⟩ : ByteArray)) ++ t153) ++ (⟨#[32]⟩ : ByteArray)).size + t155.size = (((((rd_T33 l0 0).f0).size + 1) + t153.size) + 1) + t155.size := (by simp only [ByteArray.size_append]; rfl)
      have c8b6 : (9223372036854775807 < (((((rd_T33 l0 0).f0).size + 1) + t153.size) + 1) + t155.size) = False := (by rw [← c8e]; exact c8b2)
      have c8b7 : decide ((((((rd_T33 l0 0).f0).size + 1) + t153.size) + 1) + t155.size ≤ 9223372036854775807) = true := (by rw [← c8e]; exact c8b1)
      have c8b8 : ((((((rd_T33 l0 0).f0).size + 1) + t153.size) + 1) + t155.size ≤ 9223372036854775807) = True := (by rw [← c8e]; exact eq_true (of_decide_eq_true c8b1))
      clear c8e
      obtain rfl := Option.some.inj H
      go_enter Tryd.func64, Tryd.ntmps64
      try go_wp2
      have n0_ := Aside0.mk (below_drew1 HB.out)
      clear HB
      have HB := n0_
      clear n0_
      have p145 : 0 ≤ (0 : Int) := (by omega)
      have q145 : 0 < (l0.length : Int) := of_decide_eq_true (by first | (with_reducible assumption) | assumption)
      obtain ⟨ad145, A145_5, c145_5, e145, hx145_0, hx145_1, hx145_2, hx145_3, hx145_4, hx145_5, hl145_5, hi145_5⟩ := at_T33 HR0.out 0 p145 q145
      have hw145_5 := hx145_5
      (try rw [show ((0 : Int)).toNat = 0 from rfl] at hw145_5)
      (try rw [show 0 * 6 = 0 from rfl] at hw145_5)
      (try rw [Addr.add_zero'] at hw145_5)
      have hw145_4 := hx145_4
      (try rw [show ((0 : Int)).toNat = 0 from rfl] at hw145_4)
      (try rw [show 0 * 6 = 0 from rfl] at hw145_4)
      (try rw [Addr.add_zero'] at hw145_4)
      have hw145_3 := hx145_3
      (try rw [show ((0 : Int)).toNat = 0 from rfl] at hw145_3)
      (try rw [show 0 * 6 = 0 from rfl] at hw145_3)
      (try rw [Addr.add_zero'] at hw145_3)
      have hw145_2 := hx145_2
      (try rw [show ((0 : Int)).toNat = 0 from rfl] at hw145_2)
      (try rw [show 0 * 6 = 0 from rfl] at hw145_2)
      (try rw [Addr.add_zero'] at hw145_2)
      have hw145_1 := hx145_1
      (try rw [show ((0 : Int)).toNat = 0 from rfl] at hw145_1)
      (try rw [show 0 * 6 = 0 from rfl] at hw145_1)
      (try rw [Addr.add_zero'] at hw145_1)
      have hw145_0 := hx145_0
      (try rw [show ((0 : Int)).toNat = 0 from rfl] at hw145_0)
      (try rw [show 0 * 6 = 0 from rfl] at hw145_0)
      (try rw [Addr.add_zero'] at hw145_0)
      cases e145
      have qi145 : (0 < l0.length) = True := eq_true (by omega)
      (try rw [show ((0 : Int)).toNat = 0 from rfl] at hx145_0)
      (try rw [show 0 * 6 = 0 from rfl] at hx145_0)
      (try rw [Addr.add_zero'] at hx145_0)
      (try rw [show ((0 : Int)).toNat = 0 from rfl] at hx145_1)
      (try rw [show 0 * 6 = 0 from rfl] at hx145_1)
      (try rw [Addr.add_zero'] at hx145_1)
      (try rw [show ((0 : Int)).toNat = 0 from rfl] at hx145_2)
      (try rw [show 0 * 6 = 0 from rfl] at hx145_2)
      (try rw [Addr.add_zero'] at hx145_2)
      (try rw [show ((0 : Int)).toNat = 0 from rfl] at hx145_3)
      (try rw [show 0 * 6 = 0 from rfl] at hx145_3)
      (try rw [Addr.add_zero'] at hx145_3)
      (try rw [show ((0 : Int)).toNat = 0 from rfl] at hx145_4)
      (try rw [show 0 * 6 = 0 from rfl] at hx145_4)
      (try rw [Addr.add_zero'] at hx145_4)
      (try rw [show ((0 : Int)).toNat = 0 from rfl] at hx145_5)
      (try rw [show 0 * 6 = 0 from rfl] at hx145_5)
      (try rw [Addr.add_zero'] at hx145_5)
      replace hx145_0 := (HB.out.cell (World.block_lt_of_cell? w _ hx145_0)).trans hx145_0
      replace hx145_1 := (HB.out.cell (World.block_lt_of_cell? w _ hx145_1)).trans hx145_1
      replace hx145_2 := (HB.out.cell (World.block_lt_of_cell? w _ hx145_2)).trans hx145_2
      replace hx145_3 := (HB.out.cell (World.block_lt_of_cell? w _ hx145_3)).trans hx145_3
      replace hx145_4 := (HB.out.cell (World.block_lt_of_cell? w _ hx145_4)).trans hx145_4
      replace hx145_5 := (HB.out.cell (World.block_lt_of_cell? w _ hx145_5)).trans hx145_5
      have HR145_5 := Aside0.mk hi145_5
      have HC145_5 := Aside0.mk hl145_5
      clear hi145_5 hl145_5
      replace p145 := eq_true p145
      replace q145 := eq_true q145
      have p146 : 0 ≤ (0 : Int) := (by omega)
      have q146 : 0 < (l0.length : Int) := of_decide_eq_true (by first | (with_reducible assumption) | assumption)
      obtain ⟨ad146, A146_5, c146_5, e146, hx146_0, hx146_1, hx146_2, hx146_3, hx146_4, hx146_5, hl146_5, hi146_5⟩ := at_T33 HR0.out 0 p146 q146
      have hw146_5 := hx146_5
      (try rw [show ((0 : Int)).toNat = 0 from rfl] at hw146_5)
      (try rw [show 0 * 6 = 0 from rfl] at hw146_5)
      (try rw [Addr.add_zero'] at hw146_5)
      have hw146_4 := hx146_4
      (try rw [show ((0 : Int)).toNat = 0 from rfl] at hw146_4)
      (try rw [show 0 * 6 = 0 from rfl] at hw146_4)
      (try rw [Addr.add_zero'] at hw146_4)
      have hw146_3 := hx146_3
      (try rw [show ((0 : Int)).toNat = 0 from rfl] at hw146_3)
      (try rw [show 0 * 6 = 0 from rfl] at hw146_3)
      (try rw [Addr.add_zero'] at hw146_3)
      have hw146_2 := hx146_2
      (try rw [show ((0 : Int)).toNat = 0 from rfl] at hw146_2)
      (try rw [show 0 * 6 = 0 from rfl] at hw146_2)
      (try rw [Addr.add_zero'] at hw146_2)
      have hw146_1 := hx146_1
      (try rw [show ((0 : Int)).toNat = 0 from rfl] at hw146_1)
      (try rw [show 0 * 6 = 0 from rfl] at hw146_1)
      (try rw [Addr.add_zero'] at hw146_1)
      have hw146_0 := hx146_0
      (try rw [show ((0 : Int)).toNat = 0 from rfl] at hw146_0)
      (try rw [show 0 * 6 = 0 from rfl] at hw146_0)
      (try rw [Addr.add_zero'] at hw146_0)
      obtain rfl : ad145 = ad146 := (by injection e146)
      have qi146 : (0 < l0.length) = True := eq_true (by omega)
      (try rw [show ((0 : Int)).toNat = 0 from rfl] at hx146_0)
      (try rw [show 0 * 6 = 0 from rfl] at hx146_0)
      (try rw [Addr.add_zero'] at hx146_0)
      (try rw [show ((0 : Int)).toNat = 0 from rfl] at hx146_1)
      (try rw [show 0 * 6 = 0 from rfl] at hx146_1)
      (try rw [Addr.add_zero'] at hx146_1)
      (try rw [show ((0 : Int)).toNat = 0 from rfl] at hx146_2)
      (try rw [show 0 * 6 = 0 from rfl] at hx146_2)
      (try rw [Addr.add_zero'] at hx146_2)
      (try rw [show ((0 : Int)).toNat = 0 from rfl] at hx146_3)
      (try rw [show 0 * 6 = 0 from rfl] at hx146_3)
      (try rw [Addr.add_zero'] at hx146_3)
      (try rw [show ((0 : Int)).toNat = 0 from rfl] at hx146_4)
      (try rw [show 0 * 6 = 0 from rfl] at hx146_4)
      (try rw [Addr.add_zero'] at hx146_4)
      (try rw [show ((0 : Int)).toNat = 0 from rfl] at hx146_5)
      (try rw [show 0 * 6 = 0 from rfl] at hx146_5)
      (try rw [Addr.add_zero'] at hx146_5)
      replace hx146_0 := (HB.out.cell (World.block_lt_of_cell? w _ hx146_0)).trans hx146_0
      replace hx146_1 := (HB.out.cell (World.block_lt_of_cell? w _ hx146_1)).trans hx146_1
      replace hx146_2 := (HB.out.cell (World.block_lt_of_cell? w _ hx146_2)).trans hx146_2
      replace hx146_3 := (HB.out.cell (World.block_lt_of_cell? w _ hx146_3)).trans hx146_3
      replace hx146_4 := (HB.out.cell (World.block_lt_of_cell? w _ hx146_4)).trans hx146_4
      replace hx146_5 := (HB.out.cell (World.block_lt_of_cell? w _ hx146_5)).trans hx146_5
      have HR146_5 := Aside0.mk hi146_5
      have HC146_5 := Aside0.mk hl146_5
      clear hi146_5 hl146_5
      replace p146 := eq_true p146
      replace q146 := eq_true q146
      have ea_ := Option.some.inj (hx145_5.symm.trans hx146_5)
      injection ea_ with ea_ en_ ec_
      (try subst ea_)
      (try subst ec_)
      clear en_
      have p147 : 0 ≤ (0 : Int) := (by omega)
      have q147 : 0 < (l0.length : Int) := of_decide_eq_true (by first | (with_reducible assumption) | assumption)
      obtain ⟨ad147, A147_5, c147_5, e147, hx147_0, hx147_1, hx147_2, hx147_3, hx147_4, hx147_5, hl147_5, hi147_5⟩ := at_T33 HR0.out 0 p147 q147
      have hw147_5 := hx147_5
      (try rw [show ((0 : Int)).toNat = 0 from rfl] at hw147_5)
      (try rw [show 0 * 6 = 0 from rfl] at hw147_5)
      (try rw [Addr.add_zero'] at hw147_5)
      have hw147_4 := hx147_4
      (try rw [show ((0 : Int)).toNat = 0 from rfl] at hw147_4)
      (try rw [show 0 * 6 = 0 from rfl] at hw147_4)
      (try rw [Addr.add_zero'] at hw147_4)
      have hw147_3 := hx147_3
      (try rw [show ((0 : Int)).toNat = 0 from rfl] at hw147_3)
      (try rw [show 0 * 6 = 0 from rfl] at hw147_3)
      (try rw [Addr.add_zero'] at hw147_3)
      have hw147_2 := hx147_2
      (try rw [show ((0 : Int)).toNat = 0 from rfl] at hw147_2)
      (try rw [show 0 * 6 = 0 from rfl] at hw147_2)
      (try rw [Addr.add_zero'] at hw147_2)
      have hw147_1 := hx147_1
      (try rw [show ((0 : Int)).toNat = 0 from rfl] at hw147_1)
      (try rw [show 0 * 6 = 0 from rfl] at hw147_1)
      (try rw [Addr.add_zero'] at hw147_1)
      have hw147_0 := hx147_0
      (try rw [show ((0 : Int)).toNat = 0 from rfl] at hw147_0)
      (try rw [show 0 * 6 = 0 from rfl] at hw147_0)
      (try rw [Addr.add_zero'] at hw147_0)
      obtain rfl : ad145 = ad147 := (by injection e147)
      have qi147 : (0 < l0.length) = True := eq_true (by omega)
      (try rw [show ((0 : Int)).toNat = 0 from rfl] at hx147_0)
      (try rw [show 0 * 6 = 0 from rfl] at hx147_0)
      (try rw [Addr.add_zero'] at hx147_0)
      (try rw [show ((0 : Int)).toNat = 0 from rfl] at hx147_1)
      (try rw [show 0 * 6 = 0 from rfl] at hx147_1)
      (try rw [Addr.add_zero'] at hx147_1)
      (try rw [show ((0 : Int)).toNat = 0 from rfl] at hx147_2)
      (try rw [show 0 * 6 = 0 from rfl] at hx147_2)
      (try rw [Addr.add_zero'] at hx147_2)
      (try rw [show ((0 : Int)).toNat = 0 from rfl] at hx147_3)
      (try rw [show 0 * 6 = 0 from rfl] at hx147_3)
      (try rw [Addr.add_zero'] at hx147_3)
      (try rw [show ((0 : Int)).toNat = 0 from rfl] at hx147_4)
      (try rw [show 0 * 6 = 0 from rfl] at hx147_4)
      (try rw [Addr.add_zero'] at hx147_4)
      (try rw [show ((0 : Int)).toNat = 0 from rfl] at hx147_5)
      (try rw [show 0 * 6 = 0 from rfl] at hx147_5)
      (try rw [Addr.add_zero'] at hx147_5)
      replace hx147_0 := (HB.out.cell (World.block_lt_of_cell? w _ hx147_0)).trans hx147_0
      replace hx147_1 := (HB.out.cell (World.block_lt_of_cell? w _ hx147_1)).trans hx147_1
      replace hx147_2 := (HB.out.cell (World.block_lt_of_cell? w _ hx147_2)).trans hx147_2
      replace hx147_3 := (HB.out.cell (World.block_lt_of_cell? w _ hx147_3)).trans hx147_3
      replace hx147_4 := (HB.out.cell (World.block_lt_of_cell? w _ hx147_4)).trans hx147_4
      replace hx147_5 := (HB.out.cell (World.block_lt_of_cell? w _ hx147_5)).trans hx147_5
      have HR147_5 := Aside0.mk hi147_5
      have HC147_5 := Aside0.mk hl147_5
      clear hi147_5 hl147_5
      replace p147 := eq_true p147
      replace q147 := eq_true q147
      have ea_ := Option.some.inj (hx145_5.symm.trans hx147_5)
      injection ea_ with ea_ en_ ec_
      (try subst ea_)
      (try subst ec_)
      clear en_
      have p148 : 0 ≤ (0 : Int) := (by omega)
      have q148 : 0 < (l0.length : Int) := of_decide_eq_true (by first | (with_reducible assumption) | assumption)
      obtain ⟨ad148, A148_5, c148_5, e148, hx148_0, hx148_1, hx148_2, hx148_3, hx148_4, hx148_5, hl148_5, hi148_5⟩ := at_T33 HR0.out 0 p148 q148
      have hw148_5 := hx148_5
      (try rw [show ((0 : Int)).toNat = 0 from rfl] at hw148_5)
      (try rw [show 0 * 6 = 0 from rfl] at hw148_5)
      (try rw [Addr.add_zero'] at hw148_5)
      have hw148_4 := hx148_4
      (try rw [show ((0 : Int)).toNat = 0 from rfl] at hw148_4)
      (try rw [show 0 * 6 = 0 from rfl] at hw148_4)
      (try rw [Addr.add_zero'] at hw148_4)
      have hw148_3 := hx148_3
      (try rw [show ((0 : Int)).toNat = 0 from rfl] at hw148_3)
      (try rw [show 0 * 6 = 0 from rfl] at hw148_3)
      (try rw [Addr.add_zero'] at hw148_3)
      have hw148_2 := hx148_2
      (try rw [show ((0 : Int)).toNat = 0 from rfl] at hw148_2)
      (try rw [show 0 * 6 = 0 from rfl] at hw148_2)
      (try rw [Addr.add_zero'] at hw148_2)
      have hw148_1 := hx148_1
      (try rw [show ((0 : Int)).toNat = 0 from rfl] at hw148_1)
      (try rw [show 0 * 6 = 0 from rfl] at hw148_1)
      (try rw [Addr.add_zero'] at hw148_1)
      have hw148_0 := hx148_0
      (try rw [show ((0 : Int)).toNat = 0 from rfl] at hw148_0)
      (try rw [show 0 * 6 = 0 from rfl] at hw148_0)
      (try rw [Addr.add_zero'] at hw148_0)
      obtain rfl : ad145 = ad148 := (by injection e148)
      have qi148 : (0 < l0.length) = True := eq_true (by omega)
      (try rw [show ((0 : Int)).toNat = 0 from rfl] at hx148_0)
      (try rw [show 0 * 6 = 0 from rfl] at hx148_0)
      (try rw [Addr.add_zero'] at hx148_0)
      (try rw [show ((0 : Int)).toNat = 0 from rfl] at hx148_1)
      (try rw [show 0 * 6 = 0 from rfl] at hx148_1)
      (try rw [Addr.add_zero'] at hx148_1)
      (try rw [show ((0 : Int)).toNat = 0 from rfl] at hx148_2)
      (try rw [show 0 * 6 = 0 from rfl] at hx148_2)
      (try rw [Addr.add_zero'] at hx148_2)
      (try rw [show ((0 : Int)).toNat = 0 from rfl] at hx148_3)
      (try rw [show 0 * 6 = 0 from rfl] at hx148_3)
      (try rw [Addr.add_zero'] at hx148_3)
      (try rw [show ((0 : Int)).toNat = 0 from rfl] at hx148_4)
      (try rw [show 0 * 6 = 0 from rfl] at hx148_4)
      (try rw [Addr.add_zero'] at hx148_4)
      (try rw [show ((0 : Int)).toNat = 0 from rfl] at hx148_5)
      (try rw [show 0 * 6 = 0 from rfl] at hx148_5)
      (try rw [Addr.add_zero'] at hx148_5)
      replace hx148_0 := (HB.out.cell (World.block_lt_of_cell? w _ hx148_0)).trans hx148_0
      replace hx148_1 := (HB.out.cell (World.block_lt_of_cell? w _ hx148_1)).trans hx148_1
      replace hx148_2 := (HB.out.cell (World.block_lt_of_cell? w _ hx148_2)).trans hx148_2
      replace hx148_3 := (HB.out.cell (World.block_lt_of_cell? w _ hx148_3)).trans hx148_3
      replace hx148_4 := (HB.out.cell (World.block_lt_of_cell? w _ hx148_4)).trans hx148_4
      replace hx148_5 := (HB.out.cell (World.block_lt_of_cell? w _ hx148_5)).trans hx148_5
      have HR148_5 := Aside0.mk hi148_5
      have HC148_5 := Aside0.mk hl148_5
      clear hi148_5 hl148_5
      replace p148 := eq_true p148
      replace q148 := eq_true q148
      have ea_ := Option.some.inj (hx145_5.symm.trans hx148_5)
      injection ea_ with ea_ en_ ec_
      (try subst ea_)
      (try subst ec_)
      clear en_
      have p149 : 0 ≤ (0 : Int) := (by omega)
      have q149 : 0 < (l0.length : Int) := of_decide_eq_true (by first | (with_reducible assumption) | assumption)
      obtain ⟨ad149, A149_5, c149_5, e149, hx149_0, hx149_1, hx149_2, hx149_3, hx149_4, hx149_5, hl149_5, hi149_5⟩ := at_T33 HR0.out 0 p149 q149
      have hw149_5 := hx149_5
      (try rw [show ((0 : Int)).toNat = 0 from rfl] at hw149_5)
      (try rw [show 0 * 6 = 0 from rfl] at hw149_5)
      (try rw [Addr.add_zero'] at hw149_5)
      have hw149_4 := hx149_4
      (try rw [show ((0 : Int)).toNat = 0 from rfl] at hw149_4)
      (try rw [show 0 * 6 = 0 from rfl] at hw149_4)
      (try rw [Addr.add_zero'] at hw149_4)
      have hw149_3 := hx149_3
      (try rw [show ((0 : Int)).toNat = 0 from rfl] at hw149_3)
      (try rw [show 0 * 6 = 0 from rfl] at hw149_3)
      (try rw [Addr.add_zero'] at hw149_3)
      have hw149_2 := hx149_2
      (try rw [show ((0 : Int)).toNat = 0 from rfl] at hw149_2)
      (try rw [show 0 * 6 = 0 from rfl] at hw149_2)
      (try rw [Addr.add_zero'] at hw149_2)
      have hw149_1 := hx149_1
      (try rw [show ((0 : Int)).toNat = 0 from rfl] at hw149_1)
      (try rw [show 0 * 6 = 0 from rfl] at hw149_1)
      (try rw [Addr.add_zero'] at hw149_1)
      have hw149_0 := hx149_0
      (try rw [show ((0 : Int)).toNat = 0 from rfl] at hw149_0)
      (try rw [show 0 * 6 = 0 from rfl] at hw149_0)
      (try rw [Addr.add_zero'] at hw149_0)
      obtain rfl : ad145 = ad149 := (by injection e149)
      have qi149 : (0 < l0.length) = True := eq_true (by omega)
      (try rw [show ((0 : Int)).toNat = 0 from rfl] at hx149_0)
      (try rw [show 0 * 6 = 0 from rfl] at hx149_0)
      (try rw [Addr.add_zero'] at hx149_0)
      (try rw [show ((0 : Int)).toNat = 0 from rfl] at hx149_1)
      (try rw [show 0 * 6 = 0 from rfl] at hx149_1)
      (try rw [Addr.add_zero'] at hx149_1)
      (try rw [show ((0 : Int)).toNat = 0 from rfl] at hx149_2)
      (try rw [show 0 * 6 = 0 from rfl] at hx149_2)
      (try rw [Addr.add_zero'] at hx149_2)
      (try rw [show ((0 : Int)).toNat = 0 from rfl] at hx149_3)
      (try rw [show 0 * 6 = 0 from rfl] at hx149_3)
      (try rw [Addr.add_zero'] at hx149_3)
      (try rw [show ((0 : Int)).toNat = 0 from rfl] at hx149_4)
      (try rw [show 0 * 6 = 0 from rfl] at hx149_4)
      (try rw [Addr.add_zero'] at hx149_4)
      (try rw [show ((0 : Int)).toNat = 0 from rfl] at hx149_5)
      (try rw [show 0 * 6 = 0 from rfl] at hx149_5)
      (try rw [Addr.add_zero'] at hx149_5)
      replace hx149_0 := (HB.out.cell (World.block_lt_of_cell? w _ hx149_0)).trans hx149_0
      replace hx149_1 := (HB.out.cell (World.block_lt_of_cell? w _ hx149_1)).trans hx149_1
      replace hx149_2 := (HB.out.cell (World.block_lt_of_cell? w _ hx149_2)).trans hx149_2
      replace hx149_3 := (HB.out.cell (World.block_lt_of_cell? w _ hx149_3)).trans hx149_3
      replace hx149_4 := (HB.out.cell (World.block_lt_of_cell? w _ hx149_4)).trans hx149_4
      replace hx149_5 := (HB.out.cell (World.block_lt_of_cell? w _ hx149_5)).trans hx149_5
      have HR149_5 := Aside0.mk hi149_5
      have HC149_5 := Aside0.mk hl149_5
      clear hi149_5 hl149_5
      replace p149 := eq_true p149
      replace q149 := eq_true q149
      have ea_ := Option.some.inj (hx145_5.symm.trans hx149_5)
      injection ea_ with ea_ en_ ec_
      (try subst ea_)
      (try subst ec_)
      clear en_
      have p154 : 0 ≤ (0 : Int) := (by omega)
      have q154 : 0 < (l0.length : Int) := of_decide_eq_true (by first | (with_reducible assumption) | assumption)
      obtain ⟨ad154, A154_5, c154_5, e154, hx154_0, hx154_1, hx154_2, hx154_3, hx154_4, hx154_5, hl154_5, hi154_5⟩ := at_T33 HR0.out 0 p154 q154
      have hw154_5 := hx154_5
      (try rw [show ((0 : Int)).toNat = 0 from rfl] at hw154_5)
      (try rw [show 0 * 6 = 0 from rfl] at hw154_5)
      (try rw [Addr.add_zero'] at hw154_5)
      have hw154_4 := hx154_4
      (try rw [show ((0 : Int)).toNat = 0 from rfl] at hw154_4)
      (try rw [show 0 * 6 = 0 from rfl] at hw154_4)
      (try rw [Addr.add_zero'] at hw154_4)
      have hw154_3 := hx154_3
      (try rw [show ((0 : Int)).toNat = 0 from rfl] at hw154_3)
      (try rw [show 0 * 6 = 0 from rfl] at hw154_3)
      (try rw [Addr.add_zero'] at hw154_3)
      have hw154_2 := hx154_2
      (try rw [show ((0 : Int)).toNat = 0 from rfl] at hw154_2)
      (try rw [show 0 * 6 = 0 from rfl] at hw154_2)
      (try rw [Addr.add_zero'] at hw154_2)
      have hw154_1 := hx154_1
      (try rw [show ((0 : Int)).toNat = 0 from rfl] at hw154_1)
      (try rw [show 0 * 6 = 0 from rfl] at hw154_1)
      (try rw [Addr.add_zero'] at hw154_1)
      have hw154_0 := hx154_0
      (try rw [show ((0 : Int)).toNat = 0 from rfl] at hw154_0)
      (try rw [show 0 * 6 = 0 from rfl] at hw154_0)
      (try rw [Addr.add_zero'] at hw154_0)
      obtain rfl : ad145 = ad154 := (by injection e154)
      have qi154 : (0 < l0.length) = True := eq_true (by omega)
      (try rw [show ((0 : Int)).toNat = 0 from rfl] at hx154_0)
      (try rw [show 0 * 6 = 0 from rfl] at hx154_0)
      (try rw [Addr.add_zero'] at hx154_0)
      (try rw [show ((0 : Int)).toNat = 0 from rfl] at hx154_1)
      (try rw [show 0 * 6 = 0 from rfl] at hx154_1)
      (try rw [Addr.add_zero'] at hx154_1)
      (try rw [show ((0 : Int)).toNat = 0 from rfl] at hx154_2)
      (try rw [show 0 * 6 = 0 from rfl] at hx154_2)
      (try rw [Addr.add_zero'] at hx154_2)
      (try rw [show ((0 : Int)).toNat = 0 from rfl] at hx154_3)
      (try rw [show 0 * 6 = 0 from rfl] at hx154_3)
      (try rw [Addr.add_zero'] at hx154_3)
      (try rw [show ((0 : Int)).toNat = 0 from rfl] at hx154_4)
      (try rw [show 0 * 6 = 0 from rfl] at hx154_4)
      (try rw [Addr.add_zero'] at hx154_4)
      (try rw [show ((0 : Int)).toNat = 0 from rfl] at hx154_5)
      (try rw [show 0 * 6 = 0 from rfl] at hx154_5)
      (try rw [Addr.add_zero'] at hx154_5)
      replace hx154_0 := (HB.out.cell (World.block_lt_of_cell? w _ hx154_0)).trans hx154_0
      replace hx154_1 := (HB.out.cell (World.block_lt_of_cell? w _ hx154_1)).trans hx154_1
      replace hx154_2 := (HB.out.cell (World.block_lt_of_cell? w _ hx154_2)).trans hx154_2
      replace hx154_3 := (HB.out.cell (World.block_lt_of_cell? w _ hx154_3)).trans hx154_3
      replace hx154_4 := (HB.out.cell (World.block_lt_of_cell? w _ hx154_4)).trans hx154_4
      replace hx154_5 := (HB.out.cell (World.block_lt_of_cell? w _ hx154_5)).trans hx154_5
      have HR154_5 := Aside0.mk hi154_5
      have HC154_5 := Aside0.mk hl154_5
      clear hi154_5 hl154_5
      replace p154 := eq_true p154
      replace q154 := eq_true q154
      have ea_ := Option.some.inj (hx145_5.symm.trans hx154_5)
      injection ea_ with ea_ en_ ec_
      (try subst ea_)
      (try subst ec_)
      clear en_
      refine start_ (n := 32) (S := fun w' => w'.cell? ad145 = some (.string ((rd_T33 l0 0).f0)) ∧ w'.cell? ⟨ad145.block, ad145.off + 1, none⟩ = some (.int .i64 ((rd_T33 l0 0).f1)) ∧ w'.cell? ⟨ad145.block, ad145.off + 2, none⟩ = some (.int .i64 ((rd_T33 l0 0).f2)) ∧ w'.cell? ⟨ad145.block, ad145.off + 3, none⟩ = some (.int .i64 ((rd_T33 l0 0).f3)) ∧ w'.cell? ⟨ad145.block, ad145.off + 4, none⟩ = some (.int .i64 ((rd_T33 l0 0).f4)) ∧ w'.cell? ⟨ad145.block, ad145.off + 5, none⟩ = some (.slice A145_5 ((rd_T33 l0 0).f5).length c145_5) ∧ w'.cell? ad145 = some (.string ((rd_T33 l0 0).f0)) ∧ w'.cell? ⟨ad145.block, ad145.off + 1, none⟩ = some (.int .i64 ((rd_T33 l0 0).f1)) ∧ w'.cell? ⟨ad145.block, ad145.off + 2, none⟩ = some (.int .i64 ((rd_T33 l0 0).f2)) ∧ w'.cell? ⟨ad145.block, ad145.off + 3, none⟩ = some (.int .i64 ((rd_T33 l0 0).f3)) ∧ w'.cell? ⟨ad145.block, ad145.off + 4, none⟩ = some (.int .i64 ((rd_T33 l0 0).f4)) ∧ w'.cell? ⟨ad145.block, ad145.off + 5, none⟩ = some (.slice A145_5 ((rd_T33 l0 0).f5).length c145_5) ∧ w'.cell? ad145 = some (.string ((rd_T33 l0 0).f0)) ∧ w'.cell? ⟨ad145.block, ad145.off + 1, none⟩ = some (.int .i64 ((rd_T33 l0 0).f1)) ∧ w'.cell? ⟨ad145.block, ad145.off + 2, none⟩ = some (.int .i64 ((rd_T33 l0 0).f2)) ∧ w'.cell? ⟨ad145.block, ad145.off + 3, none⟩ = some (.int .i64 ((rd_T33 l0 0).f3)) ∧ w'.cell? ⟨ad145.block, ad145.off + 4, none⟩ = some (.int .i64 ((rd_T33 l0 0).f4)) ∧ w'.cell? ⟨ad145.block, ad145.off + 5, none⟩ = some (.slice A145_5 ((rd_T33 l0 0).f5).length c145_5) ∧ w'.cell? ad145 = some (.string ((rd_T33 l0 0).f0)) ∧ w'.cell? ⟨ad145.block, ad145.off + 1, none⟩ = some (.int .i64 ((rd_T33 l0 0).f1)) ∧ w'.cell? ⟨ad145.block, ad145.off + 2, none⟩ = some (.int .i64 ((rd_T33 l0 0).f2)) ∧ w'.cell? ⟨ad145.block, ad145.off + 3, none⟩ = some (.int .i64 ((rd_T33 l0 0).f3)) ∧ w'.cell? ⟨ad145.block, ad145.off + 4, none⟩ = some (.int .i64 ((rd_T33 l0 0).f4)) ∧ w'.cell? ⟨ad145.block, ad145.off + 5, none⟩ = some (.slice A145_5 ((rd_T33 l0 0).f5).length c145_5) ∧ w'.cell? ad145 = some (.string ((rd_T33 l0 0).f0)) ∧ w'.cell? ⟨ad145.block, ad145.off + 1, none⟩ = some (.int .i64 ((rd_T33 l0 0).f1)) ∧ w'.cell? ⟨ad145.block, ad145.off + 2, none⟩ = some (.int .i64 ((rd_T33 l0 0).f2)) ∧ w'.cell? ⟨ad145.block, ad145.off + 3, none⟩ = some (.int .i64 ((rd_T33 l0 0).f3)) ∧ w'.cell? ⟨ad145.block, ad145.off + 4, none⟩ = some (.int .i64 ((rd_T33 l0 0).f4)) ∧ w'.cell? ⟨ad145.block, ad145.off + 5, none⟩ = some (.slice A145_5 ((rd_T33 l0 0).f5).length c145_5) ∧ w'.cell? ad145 = some (.string ((rd_T33 l0 0).f0)) ∧ w'.cell? ⟨ad145.block, ad145.off + 1, none⟩ = some (.int .i64 ((rd_T33 l0 0).f1)) ∧ w'.cell? ⟨ad145.block, ad145.off + 2, none⟩ = some (.int .i64 ((rd_T33 l0 0).f2)) ∧ w'.cell? ⟨ad145.block, ad145.off + 3, none⟩ = some (.int .i64 ((rd_T33 l0 0).f3)) ∧ w'.cell? ⟨ad145.block, ad145.off + 4, none⟩ = some (.int .i64 ((rd_T33 l0 0).f4)) ∧ w'.cell? ⟨ad145.block, ad145.off + 5, none⟩ = some (.slice A145_5 ((rd_T33 l0 0).f5).length c145_5)) (ds := []) #[false, false, false, false, false, false, false, false, false, false, false, false, false, false, false, false, false, false, false, false, false, false, false, false, false, false, false, false, false, false, false, false] (by kernel_rfl) rfl rfl ⟨((HB.out.cell (World.block_lt_of_cell? w _ hw145_0)).trans hw145_0), ((HB.out.cell (World.block_lt_of_cell? w _ hw145_1)).trans hw145_1), ((HB.out.cell (World.block_lt_of_cell? w _ hw145_2)).trans hw145_2), ((HB.out.cell (World.block_lt_of_cell? w _ hw145_3)).trans hw145_3), ((HB.out.cell (World.block_lt_of_cell? w _ hw145_4)).trans hw145_4), ((HB.out.cell (World.block_lt_of_cell? w _ hw145_5)).trans hw145_5), ((HB.out.cell (World.block_lt_of_cell? w _ hw146_0)).trans hw146_0), ((HB.out.cell (World.block_lt_of_cell? w _ hw146_1)).trans hw146_1), ((HB.out.cell (World.block_lt_of_cell? w _ hw146_2)).trans hw146_2), ((HB.out.cell (World.block_lt_of_cell? w _ hw146_3)).trans hw146_3), ((HB.out.cell (World.block_lt_of_cell? w _ hw146_4)).trans hw146_4), ((HB.out.cell (World.block_lt_of_cell? w _ hw146_5)).trans hw146_5), ((HB.out.cell (World.block_lt_of_cell? w _ hw147_0)).trans hw147_0), ((HB.out.cell (World.block_lt_of_cell? w _ hw147_1)).trans hw147_1), ((HB.out.cell (World.block_lt_of_cell? w _ hw147_2)).trans hw147_2), ((HB.out.cell (World.block_lt_of_cell? w _ hw147_3)).trans hw147_3), ((HB.out.cell (World.block_lt_of_cell? w _ hw147_4)).trans hw147_4), ((HB.out.cell (World.block_lt_of_cell? w _ hw147_5)).trans hw147_5), ((HB.out.cell (World.block_lt_of_cell? w _ hw148_0)).trans hw148_0), ((HB.out.cell (World.block_lt_of_cell? w _ hw148_1)).trans hw148_1), ((HB.out.cell (World.block_lt_of_cell? w _ hw148_2)).trans hw148_2), ((HB.out.cell (World.block_lt_of_cell? w _ hw148_3)).trans hw148_3), ((HB.out.cell (World.block_lt_of_cell? w _ hw148_4)).trans hw148_4), ((HB.out.cell (World.block_lt_of_cell? w _ hw148_5)).trans hw148_5), ((HB.out.cell (World.block_lt_of_cell? w _ hw149_0)).trans hw149_0), ((HB.out.cell (World.block_lt_of_cell? w _ hw149_1)).trans hw149_1), ((HB.out.cell (World.block_lt_of_cell? w _ hw149_2)).trans hw149_2), ((HB.out.cell (World.block_lt_of_cell? w _ hw149_3)).trans hw149_3), ((HB.out.cell (World.block_lt_of_cell? w _ hw149_4)).trans hw149_4), ((HB.out.cell (World.block_lt_of_cell? w _ hw149_5)).trans hw149_5), ((HB.out.cell (World.block_lt_of_cell? w _ hw154_0)).trans hw154_0), ((HB.out.cell (World.block_lt_of_cell? w _ hw154_1)).trans hw154_1), ((HB.out.cell (World.block_lt_of_cell? w _ hw154_2)).trans hw154_2), ((HB.out.cell (World.block_lt_of_cell? w _ hw154_3)).trans hw154_3), ((HB.out.cell (World.block_lt_of_cell? w _ hw154_4)).trans hw154_4), ((HB.out.cell (World.block_lt_of_cell? w _ hw154_5)).trans hw154_5)⟩ (fun hHeld => ?_); refine with_tabW spec_l05Text.tab1 spec_l05Text.bits1 (fun HT_ HW_ => ?_)
      generalize w.drew = w9 at HB HR145_5 HR146_5 HR147_5 HR148_5 HR149_5 HR154_5 hx145_0 hx145_1 hx145_2 hx145_3 hx145_4 hx145_5 hx146_0 hx146_1 hx146_2 hx146_3 hx146_4 hx146_5 hx147_0 hx147_1 hx147_2 hx147_3 hx147_4 hx147_5 hx148_0 hx148_1 hx148_2 hx148_3 hx148_4 hx148_5 hx149_0 hx149_1 hx149_2 hx149_3 hx149_4 hx149_5 hx154_0 hx154_1 hx154_2 hx154_3 hx154_4 hx154_5 hHeld ⊢
      refine pure_ (i := 0) (N := some 3) (v := ?_) (a' := ?_) #[true, false, false, false, false, false, false, false, false, false, false, false, false, false, false, false, false, false, false, false, false, false, false, false, false, false, false, false, false, false, false, false] rfl rfl (any_of HT_.out (by kernel_rfl)) (fun _ _ _ h => h) (Or.inl ⟨by rfl, ?_⟩) ?_ ?_
      rotate_left
      ·
       intro w'
       go_simp
       with_reducible rfl
      rotate_left
      ·
       simp only [Act.put, List.setIfInBounds_toArray, List.set_cons_zero, List.set_cons_succ, i64_w, i32_w]
       rfl
      refine pure_ (i := 1) (N := some 4) (v := ?_) (a' := ?_) #[true, true, false, false, false, false, false, false, false, false, false, false, false, false, false, false, false, false, false, false, false, false, false, false, false, false, false, false, false, false, false, false] rfl rfl (any_of HT_.out (by kernel_rfl)) (fun _ _ _ h => h) (Or.inl ⟨by rfl, ?_⟩) ?_ ?_
      rotate_left
      ·
       intro w'
       go_simp
       with_reducible rfl
      rotate_left
      ·
       simp only [Act.put, List.setIfInBounds_toArray, List.set_cons_zero, List.set_cons_succ, i64_w, i32_w]
       rfl
      refine pure_ (i := 2) (N := some 5) (v := ?_) (a' := ?_) #[true, true, true, false, false, false, false, false, false, false, false, false, false, false, false, false, false, false, false, false, false, false, false, false, false, false, false, false, false, false, false, false] rfl rfl (any_of HT_.out (by kernel_rfl)) (fun _ _ _ h => h) (Or.inl ⟨by rfl, ?_⟩) ?_ ?_
      rotate_left
      ·
       intro w'
       go_simp
       with_reducible rfl
      rotate_left
      ·
       simp only [Act.put, List.setIfInBounds_toArray, List.set_cons_zero, List.set_cons_succ, i64_w, i32_w]
       rfl
      refine pure_ (i := 5) (N := some 8) (v := ?_) (a' := ?_) #[true, true, true, false, false, true, false, false, false, false, false, false, false, false, false, false, false, false, false, false, false, false, false, false, false, false, false, false, false, false, false, false] rfl rfl (any_of HT_.out (by kernel_rfl)) (fun _ _ _ h => h) (Or.inl ⟨by rfl, ?_⟩) ?_ ?_
      rotate_left
      ·
       intro w'
       go_simp
       with_reducible rfl
      rotate_left
      ·
       simp only [Act.put, List.setIfInBounds_toArray, List.set_cons_zero, List.set_cons_succ, i64_w, i32_w]
       rfl
      refine pure_ (i := 6) (N := some 9) (v := ?_) (a' := ?_) #[true, true, true, false, false, true, true, false, false, false, false, false, false, false, false, false, false, false, false, false, false, false, false, false, false, false, false, false, false, false, false, false] rfl rfl (any_of HT_.out (by kernel_rfl)) (fun _ _ _ h => h) (Or.inl ⟨by rfl, ?_⟩) ?_ ?_
      rotate_left
      ·
       intro w'
       go_simp
       with_reducible rfl
      rotate_left
      ·
       simp only [Act.put, List.setIfInBounds_toArray, List.set_cons_zero, List.set_cons_succ, i64_w, i32_w]
       rfl
      refine pure_ (i := 7) (N := some 10) (v := ?_) (a' := ?_) #[true, true, true, false, false, true, true, true, false, false, false, false, false, false, false, false, false, false, false, false, false, false, false, false, false, false, false, false, false, false, false, false] rfl rfl (any_of HT_.out (by kernel_rfl)) (fun _ _ _ h => h) (Or.inl ⟨by rfl, ?_⟩) ?_ ?_
      rotate_left
      ·
       intro w'
       go_simp
       with_reducible rfl
      rotate_left
      ·
       simp only [Act.put, List.setIfInBounds_toArray, List.set_cons_zero, List.set_cons_succ, i64_w, i32_w]
       rfl
      refine pure_ (i := 9) (N := some 12) (v := ?_) (a' := ?_) #[true, true, true, false, false, true, true, true, false, true, false, false, false, false, false, false, false, false, false, false, false, false, false, false, false, false, false, false, false, false, false, false] rfl rfl (any_of HT_.out (by kernel_rfl)) (fun _ _ _ h => h) (Or.inl ⟨by rfl, ?_⟩) ?_ ?_
      rotate_left
      ·
       intro w'
       go_simp
       with_reducible rfl
      rotate_left
      ·
       simp only [Act.put, List.setIfInBounds_toArray, List.set_cons_zero, List.set_cons_succ, i64_w, i32_w]
       rfl
      refine pure_ (i := 10) (N := some 13) (v := ?_) (a' := ?_) #[true, true, true, false, false, true, true, true, false, true, true, false, false, false, false, false, false, false, false, false, false, false, false, false, false, false, false, false, false, false, false, false] rfl rfl (any_of HT_.out (by kernel_rfl)) (fun _ _ _ h => h) (Or.inl ⟨by rfl, ?_⟩) ?_ ?_
      rotate_left
      ·
       intro w'
       go_simp
       with_reducible rfl
      rotate_left
      ·
       simp only [Act.put, List.setIfInBounds_toArray, List.set_cons_zero, List.set_cons_succ, i64_w, i32_w]
       rfl
      refine pure_ (i := 11) (N := some 14) (v := ?_) (a' := ?_) #[true, true, true, false, false, true, true, true, false, true, true, true, false, false, false, false, false, false, false, false, false, false, false, false, false, false, false, false, false, false, false, false] rfl rfl (any_of HT_.out (by kernel_rfl)) (fun _ _ _ h => h) (Or.inl ⟨by rfl, ?_⟩) ?_ ?_
      rotate_left
      ·
       intro w'
       go_simp
       with_reducible rfl
      rotate_left
      ·
       simp only [Act.put, List.setIfInBounds_toArray, List.set_cons_zero, List.set_cons_succ, i64_w, i32_w]
       rfl
      refine pure_ (i := 13) (N := some 16) (v := ?_) (a' := ?_) #[true, true, true, false, false, true, true, true, false, true, true, true, false, true, false, false, false, false, false, false, false, false, false, false, false, false, false, false, false, false, false, false] rfl rfl (any_of HT_.out (by kernel_rfl)) (fun _ _ _ h => h) (Or.inl ⟨by rfl, ?_⟩) ?_ ?_
      rotate_left
      ·
       intro w'
       go_simp
       with_reducible rfl
      rotate_left
      ·
       simp only [Act.put, List.setIfInBounds_toArray, List.set_cons_zero, List.set_cons_succ, i64_w, i32_w]
       rfl
      refine pure_ (i := 14) (N := some 17) (v := ?_) (a' := ?_) #[true, true, true, false, false, true, true, true, false, true, true, true, false, true, true, false, false, false, false, false, false, false, false, false, false, false, false, false, false, false, false, false] rfl rfl (any_of HT_.out (by kernel_rfl)) (fun _ _ _ h => h) (Or.inl ⟨by rfl, ?_⟩) ?_ ?_
      rotate_left
      ·
       intro w'
       go_simp
       with_reducible rfl
      rotate_left
      ·
       simp only [Act.put, List.setIfInBounds_toArray, List.set_cons_zero, List.set_cons_succ, i64_w, i32_w]
       rfl
      refine pure_ (i := 15) (N := some 18) (v := ?_) (a' := ?_) #[true, true, true, false, false, true, true, true, false, true, true, true, false, true, true, true, false, false, false, false, false, false, false, false, false, false, false, false, false, false, false, false] rfl rfl (any_of HT_.out (by kernel_rfl)) (fun _ _ _ h => h) (Or.inl ⟨by rfl, ?_⟩) ?_ ?_
      rotate_left
      ·
       intro w'
       go_simp
       with_reducible rfl
      rotate_left
      ·
       simp only [Act.put, List.setIfInBounds_toArray, List.set_cons_zero, List.set_cons_succ, i64_w, i32_w]
       rfl
      refine pure_ (i := 17) (N := some 20) (v := ?_) (a' := ?_) #[true, true, true, false, false, true, true, true, false, true, true, true, false, true, true, true, false, true, false, false, false, false, false, false, false, false, false, false, false, false, false, false] rfl rfl (any_of HT_.out (by kernel_rfl)) (fun _ _ _ h => h) (Or.inl ⟨by rfl, ?_⟩) ?_ ?_
      rotate_left
      ·
       intro w'
       go_simp
       with_reducible rfl
      rotate_left
      ·
       simp only [Act.put, List.setIfInBounds_toArray, List.set_cons_zero, List.set_cons_succ, i64_w, i32_w]
       rfl
      refine pure_ (i := 18) (N := some 21) (v := ?_) (a' := ?_) #[true, true, true, false, false, true, true, true, false, true, true, true, false, true, true, true, false, true, true, false, false, false, false, false, false, false, false, false, false, false, false, false] rfl rfl (any_of HT_.out (by kernel_rfl)) (fun _ _ _ h => h) (Or.inl ⟨by rfl, ?_⟩) ?_ ?_
      rotate_left
      ·
       intro w'
       go_simp
       with_reducible rfl
      rotate_left
      ·
       simp only [Act.put, List.setIfInBounds_toArray, List.set_cons_zero, List.set_cons_succ, i64_w, i32_w]
       rfl
      refine pure_ (i := 19) (N := some 22) (v := ?_) (a' := ?_) #[true, true, true, false, false, true, true, true, false, true, true, true, false, true, true, true, false, true, true, true, false, false, false, false, false, false, false, false, false, false, false, false] rfl rfl (any_of HT_.out (by kernel_rfl)) (fun _ _ _ h => h) (Or.inl ⟨by rfl, ?_⟩) ?_ ?_
      rotate_left
      ·
       intro w'
       go_simp
       with_reducible rfl
      rotate_left
      ·
       simp only [Act.put, List.setIfInBounds_toArray, List.set_cons_zero, List.set_cons_succ, i64_w, i32_w]
       rfl
      refine pure_ (i := 25) (N := some 28) (v := ?_) (a' := ?_) #[true, true, true, false, false, true, true, true, false, true, true, true, false, true, true, true, false, true, true, true, false, false, false, false, false, true, false, false, false, false, false, false] rfl rfl (any_of HT_.out (by kernel_rfl)) (fun _ _ _ h => h) (Or.inl ⟨by rfl, ?_⟩) ?_ ?_
      rotate_left
      ·
       intro w'
       go_simp
       with_reducible rfl
      rotate_left
      ·
       simp only [Act.put, List.setIfInBounds_toArray, List.set_cons_zero, List.set_cons_succ, i64_w, i32_w]
       rfl
      refine pure_ (i := 26) (N := some 29) (v := ?_) (a' := ?_) #[true, true, true, false, false, true, true, true, false, true, true, true, false, true, true, true, false, true, true, true, false, false, false, false, false, true, true, false, false, false, false, false] rfl rfl (any_of HT_.out (by kernel_rfl)) (fun _ _ _ h => h) (Or.inl ⟨by rfl, ?_⟩) ?_ ?_
      rotate_left
      ·
       intro w'
       go_simp
       with_reducible rfl
      rotate_left
      ·
       simp only [Act.put, List.setIfInBounds_toArray, List.set_cons_zero, List.set_cons_succ, i64_w, i32_w]
       rfl
      refine pure_ (i := 27) (N := some 30) (v := ?_) (a' := ?_) #[true, true, true, false, false, true, true, true, false, true, true, true, false, true, true, true, false, true, true, true, false, false, false, false, false, true, true, true, false, false, false, false] rfl rfl (any_of HT_.out (by kernel_rfl)) (fun _ _ _ h => h) (Or.inl ⟨by rfl, ?_⟩) ?_ ?_
      rotate_left
      ·
       intro w'
       go_simp
       with_reducible rfl
      rotate_left
      ·
       simp only [Act.put, List.setIfInBounds_toArray, List.set_cons_zero, List.set_cons_succ, i64_w, i32_w]
       rfl
      refine take_ (i := 3) (N := some 6) (v := ?_) (a' := ?_) #[true, true, true, true, false, true, true, true, false, true, true, true, false, true, true, true, false, true, true, true, false, false, false, false, false, true, true, true, false, false, false, false] rfl rfl (take_ofW HT_.out HW_.out (by kernel_rfl)) (fun _ _ _ h => h) (Or.inl ⟨by rfl, ?_⟩) hHeld ?_ ?_
      rotate_left
      ·
       rintro w' ⟨s0, s1, s2, s3, s4, s5, s6, s7, s8, s9, s10, s11, s12, s13, s14, s15, s16, s17, s18, s19, s20, s21, s22, s23, s24, s25, s26, s27, s28, s29, s30, s31, s32, s33, s34, s35⟩
       go_simp
       with_reducible rfl
      rotate_left
      ·
       simp only [Act.put, List.setIfInBounds_toArray, List.set_cons_zero, List.set_cons_succ, i64_w, i32_w]
       rfl
      refine pure_ (i := 4) (N := some 7) (v := ?_) (a' := ?_) #[true, true, true, true, true, true, true, true, false, true, true, true, false, true, true, true, false, true, true, true, false, false, false, false, false, true, true, true, false, false, false, false] rfl rfl (any_of HT_.out (by kernel_rfl)) (fun _ _ _ h => h) (Or.inl ⟨by rfl, ?_⟩) ?_ ?_
      rotate_left
      ·
       intro w'
       go_simp
       with_reducible rfl
      rotate_left
      ·
       simp only [Act.put, List.setIfInBounds_toArray, List.set_cons_zero, List.set_cons_succ, i64_w, i32_w]
       rfl
      refine take_ (i := 8) (N := some 11) (v := ?_) (a' := ?_) #[true, true, true, true, true, true, true, true, true, true, true, true, false, true, true, true, false, true, true, true, false, false, false, false, false, true, true, true, false, false, false, false] rfl rfl (take_ofW HT_.out HW_.out (by kernel_rfl)) (fun _ _ _ h => h) (Or.inl ⟨by rfl, ?_⟩) hHeld ?_ ?_
      rotate_left
      ·
       rintro w' ⟨s0, s1, s2, s3, s4, s5, s6, s7, s8, s9, s10, s11, s12, s13, s14, s15, s16, s17, s18, s19, s20, s21, s22, s23, s24, s25, s26, s27, s28, s29, s30, s31, s32, s33, s34, s35⟩
       go_simp
       with_reducible rfl
      rotate_left
      ·
       simp only [Act.put, List.setIfInBounds_toArray, List.set_cons_zero, List.set_cons_succ, i64_w, i32_w]
       rfl
      refine take_ (i := 12) (N := some 15) (v := ?_) (a' := ?_) #[true, true, true, true, true, true, true, true, true, true, true, true, true, true, true, true, false, true, true, true, false, false, false, false, false, true, true, true, false, false, false, false] rfl rfl (take_ofW HT_.out HW_.out (by kernel_rfl)) (fun _ _ _ h => h) (Or.inl ⟨by rfl, ?_⟩) hHeld ?_ ?_
      rotate_left
      ·
       rintro w' ⟨s0, s1, s2, s3, s4, s5, s6, s7, s8, s9, s10, s11, s12, s13, s14, s15, s16, s17, s18, s19, s20, s21, s22, s23, s24, s25, s26, s27, s28, s29, s30, s31, s32, s33, s34, s35⟩
       go_simp
       with_reducible rfl
      rotate_left
      ·
       simp only [Act.put, List.setIfInBounds_toArray, List.set_cons_zero, List.set_cons_succ, i64_w, i32_w]
       rfl
      refine take_ (i := 16) (N := some 19) (v := ?_) (a' := ?_) #[true, true, true, true, true, true, true, true, true, true, true, true, true, true, true, true, true, true, true, true, false, false, false, false, false, true, true, true, false, false, false, false] rfl rfl (take_ofW HT_.out HW_.out (by kernel_rfl)) (fun _ _ _ h => h) (Or.inl ⟨by rfl, ?_⟩) hHeld ?_ ?_
      rotate_left
      ·
       rintro w' ⟨s0, s1, s2, s3, s4, s5, s6, s7, s8, s9, s10, s11, s12, s13, s14, s15, s16, s17, s18, s19, s20, s21, s22, s23, s24, s25, s26, s27, s28, s29, s30, s31, s32, s33, s34, s35⟩
       go_simp
       with_reducible rfl
      rotate_left
      ·
       simp only [Act.put, List.setIfInBounds_toArray, List.set_cons_zero, List.set_cons_succ, i64_w, i32_w]
       rfl
      refine take_ (i := 20) (N := some 23) (v := ?_) (a' := ?_) #[true, true, true, true, true, true, true, true, true, true, true, true, true, true, true, true, true, true, true, true, true, false, false, false, false, true, true, true, false, false, false, false] rfl rfl (take_ofW HT_.out HW_.out (by kernel_rfl)) (fun _ _ _ h => h) (Or.inl ⟨by rfl, ?_⟩) hHeld ?_ ?_
      rotate_left
      ·
       rintro w' ⟨s0, s1, s2, s3, s4, s5, s6, s7, s8, s9, s10, s11, s12, s13, s14, s15, s16, s17, s18, s19, s20, s21, s22, s23, s24, s25, s26, s27, s28, s29, s30, s31, s32, s33, s34, s35⟩
       go_simp
       with_reducible rfl
      rotate_left
      ·
       simp only [Act.put, List.setIfInBounds_toArray, List.set_cons_zero, List.set_cons_succ, i64_w, i32_w]
       rfl
      refine take_ (i := 28) (N := some 31) (v := ?_) (a' := ?_) #[true, true, true, true, true, true, true, true, true, true, true, true, true, true, true, true, true, true, true, true, true, false, false, false, false, true, true, true, true, false, false, false] rfl rfl (take_ofW HT_.out HW_.out (by kernel_rfl)) (fun _ _ _ h => h) (Or.inl ⟨by rfl, ?_⟩) hHeld ?_ ?_
      rotate_left
      ·
       rintro w' ⟨s0, s1, s2, s3, s4, s5, s6, s7, s8, s9, s10, s11, s12, s13, s14, s15, s16, s17, s18, s19, s20, s21, s22, s23, s24, s25, s26, s27, s28, s29, s30, s31, s32, s33, s34, s35⟩
       go_simp
       with_reducible rfl
      rotate_left
      ·
       simp only [Act.put, List.setIfInBounds_toArray, List.set_cons_zero, List.set_cons_succ, i64_w, i32_w]
       rfl
      refine one_ (i := 21) (N := some 24) #[true, true, true, true, true, true, true, true, true, true, true, true, true, true, true, true, true, true, true, true, true, true, false, false, false, true, true, true, true, false, false, false] rfl rfl (one_of HT_.out (by kernel_rfl)) (by decide) (fun K hK => ?_)
      refine Kd.R_lit_step (Kd.int .i64) _ 2 ?hg (N := 24) ?hd (xs := ([(rd_T33 l0 0).f1, (rd_T33 l0 0).f2, (rd_T33 l0 0).f3, (rd_T33 l0 0).f4] : List Int)) (inner := [.int .i64 ((rd_T33 l0 0).f1), .int .i64 ((rd_T33 l0 0).f2), .int .i64 ((rd_T33 l0 0).f3), .int .i64 ((rd_T33 l0 0).f4)]) (ok := fun _ => True) (okp := fun _ => True) ?hr ?hp (fun _ hk => hk) trivial (Below.refl _ _) (Nat.le_refl _) (by simp) ?_; (case hd => rfl); (case hg => rfl); (case hr => first | (go_simp; done) | (go_simp; rfl)); (case hp => exact (Reps.one (show Kd.M (Kd.int .i64) _ _ _ ((rd_T33 l0 0).f1) [.int .i64 ((rd_T33 l0 0).f1)] from rfl) (Reps.one (show Kd.M (Kd.int .i64) _ _ _ ((rd_T33 l0 0).f2) [.int .i64 ((rd_T33 l0 0).f2)] from rfl) (Reps.one (show Kd.M (Kd.int .i64) _ _ _ ((rd_T33 l0 0).f3) [.int .i64 ((rd_T33 l0 0).f3)] from rfl) (Reps.one (show Kd.M (Kd.int .i64) _ _ _ ((rd_T33 l0 0).f4) [.int .i64 ((rd_T33 l0 0).f4)] from rfl) (Reps.none _ _))))))
      intro v151 w10 ho11 hb hg_ hnew_
      clear hg_ hnew_
      (first | rw [← Ny150.out] at ho11 | (simp only [Int.reduceToNat] at ho11; rw [← Ny150.out] at ho11))
      have n0_ := Aside0.mk (Kd.R_lower ho11 (below_size (by repeat (first | (with_reducible first | exact HB.out | apply below_alloc | apply pw_below_drewN | apply below_drew1) | exact HB.out))))
      have n1_ := Aside0.mk (below_step (by repeat (first | (with_reducible first | exact HB.out | apply below_alloc | apply pw_below_drewN | apply below_drew1) | exact HB.out)) hb)
      clear HB
      have HO152 := n0_
      have HB := n1_
      clear n0_ n1_
      clear hb ho11
      obtain ⟨Ao12, co12, eo12⟩ := Kd.R_slice HO152.out
      (first | subst eo12 | (injection eo12 with f1_ f2_ f3_; have f4_ := f1_.symm; have f5_ := f3_.symm; clear f1_ f2_ f3_; subst f4_; subst f5_))
      refine hK.out _ _ ⟨((HB.out.cell (World.block_lt_of_cell? w _ hw145_0)).trans hw145_0), ((HB.out.cell (World.block_lt_of_cell? w _ hw145_1)).trans hw145_1), ((HB.out.cell (World.block_lt_of_cell? w _ hw145_2)).trans hw145_2), ((HB.out.cell (World.block_lt_of_cell? w _ hw145_3)).trans hw145_3), ((HB.out.cell (World.block_lt_of_cell? w _ hw145_4)).trans hw145_4), ((HB.out.cell (World.block_lt_of_cell? w _ hw145_5)).trans hw145_5), ((HB.out.cell (World.block_lt_of_cell? w _ hw146_0)).trans hw146_0), ((HB.out.cell (World.block_lt_of_cell? w _ hw146_1)).trans hw146_1), ((HB.out.cell (World.block_lt_of_cell? w _ hw146_2)).trans hw146_2), ((HB.out.cell (World.block_lt_of_cell? w _ hw146_3)).trans hw146_3), ((HB.out.cell (World.block_lt_of_cell? w _ hw146_4)).trans hw146_4), ((HB.out.cell (World.block_lt_of_cell? w _ hw146_5)).trans hw146_5), ((HB.out.cell (World.block_lt_of_cell? w _ hw147_0)).trans hw147_0), ((HB.out.cell (World.block_lt_of_cell? w _ hw147_1)).trans hw147_1), ((HB.out.cell (World.block_lt_of_cell? w _ hw147_2)).trans hw147_2), ((HB.out.cell (World.block_lt_of_cell? w _ hw147_3)).trans hw147_3), ((HB.out.cell (World.block_lt_of_cell? w _ hw147_4)).trans hw147_4), ((HB.out.cell (World.block_lt_of_cell? w _ hw147_5)).trans hw147_5), ((HB.out.cell (World.block_lt_of_cell? w _ hw148_0)).trans hw148_0), ((HB.out.cell (World.block_lt_of_cell? w _ hw148_1)).trans hw148_1), ((HB.out.cell (World.block_lt_of_cell? w _ hw148_2)).trans hw148_2), ((HB.out.cell (World.block_lt_of_cell? w _ hw148_3)).trans hw148_3), ((HB.out.cell (World.block_lt_of_cell? w _ hw148_4)).trans hw148_4), ((HB.out.cell (World.block_lt_of_cell? w _ hw148_5)).trans hw148_5), ((HB.out.cell (World.block_lt_of_cell? w _ hw149_0)).trans hw149_0), ((HB.out.cell (World.block_lt_of_cell? w _ hw149_1)).trans hw149_1), ((HB.out.cell (World.block_lt_of_cell? w _ hw149_2)).trans hw149_2), ((HB.out.cell (World.block_lt_of_cell? w _ hw149_3)).trans hw149_3), ((HB.out.cell (World.block_lt_of_cell? w _ hw149_4)).trans hw149_4), ((HB.out.cell (World.block_lt_of_cell? w _ hw149_5)).trans hw149_5), ((HB.out.cell (World.block_lt_of_cell? w _ hw154_0)).trans hw154_0), ((HB.out.cell (World.block_lt_of_cell? w _ hw154_1)).trans hw154_1), ((HB.out.cell (World.block_lt_of_cell? w _ hw154_2)).trans hw154_2), ((HB.out.cell (World.block_lt_of_cell? w _ hw154_3)).trans hw154_3), ((HB.out.cell (World.block_lt_of_cell? w _ hw154_4)).trans hw154_4), ((HB.out.cell (World.block_lt_of_cell? w _ hw154_5)).trans hw154_5)⟩ (fun hHeld => ?_)
      clear hK K
      refine norm_ (a' := ?_) ?_ ?_
      rotate_left
      ·
       show Act.put _ (some 24) _ = _
       simp only [Act.put, List.setIfInBounds_toArray, List.set_cons_zero, List.set_cons_succ, i64_w, i32_w]
       rfl
      refine one_ (i := 22) (N := some 25) #[true, true, true, true, true, true, true, true, true, true, true, true, true, true, true, true, true, true, true, true, true, true, true, false, false, true, true, true, true, false, false, false] rfl rfl (one_of HT_.out (by kernel_rfl)) (by decide) (fun K hK => ?_)
      refine goes_ Tryd.func96 (by kernel_rfl) rfl #[.slice Ao12 y150.length co12] (by rfl) rfl rfl (by (try simp only [List.map_toArray, List.map_cons, List.map_nil]); first | done | rfl | (simp only [List.length_drop, List.length_take]; rfl)) ?_
      with_reducible refine (spec_l01List.calls k _ _ y150 t153 _ ?side1 ?side2 A4.out).mono ?_
      (case side1 => repeat (first | exact (Kd.R_reads' HO152.out).2.2 | (with_reducible refine Kd.C_alloc ?_ _) | (with_reducible refine Kd.C_drewN ?_ _) | (with_reducible refine Kd.C_drew ?_)))
      (case side2 => exact (Kd.R_reads' HO152.out).2.1)
      rintro e w13 ⟨rfl, hb⟩
      refine ⟨_, rfl, ?_⟩
      have n0_ := Aside0.mk (Kd.R_below (by (with_reducible repeat (first | apply Kd.R_alloc | apply Kd.R_drewN | apply Kd.R_drew)); exact HO152.out) hb)
      have n1_ := Aside0.mk (below_step (by repeat (first | (with_reducible first | exact HB.out | apply below_alloc | apply pw_below_drewN | apply below_drew1) | exact HB.out)) hb)
      clear HO152
      clear HB
      have HO152 := n0_
      have HB := n1_
      clear n0_ n1_
      (try clear hb)
      (try clear hb2)
      (try clear hk)
      (try clear hi)
      refine hK.out _ _ ⟨((HB.out.cell (World.block_lt_of_cell? w _ hw145_0)).trans hw145_0), ((HB.out.cell (World.block_lt_of_cell? w _ hw145_1)).trans hw145_1), ((HB.out.cell (World.block_lt_of_cell? w _ hw145_2)).trans hw145_2), ((HB.out.cell (World.block_lt_of_cell? w _ hw145_3)).trans hw145_3), ((HB.out.cell (World.block_lt_of_cell? w _ hw145_4)).trans hw145_4), ((HB.out.cell (World.block_lt_of_cell? w _ hw145_5)).trans hw145_5), ((HB.out.cell (World.block_lt_of_cell? w _ hw146_0)).trans hw146_0), ((HB.out.cell (World.block_lt_of_cell? w _ hw146_1)).trans hw146_1), ((HB.out.cell (World.block_lt_of_cell? w _ hw146_2)).trans hw146_2), ((HB.out.cell (World.block_lt_of_cell? w _ hw146_3)).trans hw146_3), ((HB.out.cell (World.block_lt_of_cell? w _ hw146_4)).trans hw146_4), ((HB.out.cell (World.block_lt_of_cell? w _ hw146_5)).trans hw146_5), ((HB.out.cell (World.block_lt_of_cell? w _ hw147_0)).trans hw147_0), ((HB.out.cell (World.block_lt_of_cell? w _ hw147_1)).trans hw147_1), ((HB.out.cell (World.block_lt_of_cell? w _ hw147_2)).trans hw147_2), ((HB.out.cell (World.block_lt_of_cell? w _ hw147_3)).trans hw147_3), ((HB.out.cell (World.block_lt_of_cell? w _ hw147_4)).trans hw147_4), ((HB.out.cell (World.block_lt_of_cell? w _ hw147_5)).trans hw147_5), ((HB.out.cell (World.block_lt_of_cell? w _ hw148_0)).trans hw148_0), ((HB.out.cell (World.block_lt_of_cell? w _ hw148_1)).trans hw148_1), ((HB.out.cell (World.block_lt_of_cell? w _ hw148_2)).trans hw148_2), ((HB.out.cell (World.block_lt_of_cell? w _ hw148_3)).trans hw148_3), ((HB.out.cell (World.block_lt_of_cell? w _ hw148_4)).trans hw148_4), ((HB.out.cell (World.block_lt_of_cell? w _ hw148_5)).trans hw148_5), ((HB.out.cell (World.block_lt_of_cell? w _ hw149_0)).trans hw149_0), ((HB.out.cell (World.block_lt_of_cell? w _ hw149_1)).trans hw149_1), ((HB.out.cell (World.block_lt_of_cell? w _ hw149_2)).trans hw149_2), ((HB.out.cell (World.block_lt_of_cell? w _ hw149_3)).trans hw149_3), ((HB.out.cell (World.block_lt_of_cell? w _ hw149_4)).trans hw149_4), ((HB.out.cell (World.block_lt_of_cell? w _ hw149_5)).trans hw149_5), ((HB.out.cell (World.block_lt_of_cell? w _ hw154_0)).trans hw154_0), ((HB.out.cell (World.block_lt_of_cell? w _ hw154_1)).trans hw154_1), ((HB.out.cell (World.block_lt_of_cell? w _ hw154_2)).trans hw154_2), ((HB.out.cell (World.block_lt_of_cell? w _ hw154_3)).trans hw154_3), ((HB.out.cell (World.block_lt_of_cell? w _ hw154_4)).trans hw154_4), ((HB.out.cell (World.block_lt_of_cell? w _ hw154_5)).trans hw154_5)⟩ (fun hHeld => ?_)
      clear hK K
      refine norm_ (a' := ?_) ?_ ?_
      rotate_left
      ·
       show Act.put _ (some 25) _ = _
       simp only [Act.put, List.setIfInBounds_toArray, List.set_cons_zero, List.set_cons_succ, i64_w, i32_w]
       rfl
      refine pure_ (i := 23) (N := some 26) (v := ?_) (a' := ?_) #[true, true, true, true, true, true, true, true, true, true, true, true, true, true, true, true, true, true, true, true, true, true, true, true, false, true, true, true, true, false, false, false] rfl rfl (any_of HT_.out (by kernel_rfl)) (fun _ _ _ h => h) (Or.inl ⟨by rfl, ?_⟩) ?_ ?_
      rotate_left
      ·
       intro w'
       go_simp
       with_reducible rfl
      rotate_left
      ·
       simp only [Act.put, List.setIfInBounds_toArray, List.set_cons_zero, List.set_cons_succ, i64_w, i32_w]
       rfl
      refine pure_ (i := 24) (N := some 27) (v := ?_) (a' := ?_) #[true, true, true, true, true, true, true, true, true, true, true, true, true, true, true, true, true, true, true, true, true, true, true, true, true, true, true, true, true, false, false, false] rfl rfl (any_of HT_.out (by kernel_rfl)) (fun _ _ _ h => h) (Or.inl ⟨by rfl, ?_⟩) ?_ ?_
      rotate_left
      ·
       intro w'
       go_simp
       with_reducible rfl
      rotate_left
      ·
       simp only [Act.put, List.setIfInBounds_toArray, List.set_cons_zero, List.set_cons_succ, i64_w, i32_w]
       rfl
      refine one_ (i := 29) (N := some 32) #[true, true, true, true, true, true, true, true, true, true, true, true, true, true, true, true, true, true, true, true, true, true, true, true, true, true, true, true, true, true, false, false] rfl rfl (one_of HT_.out (by kernel_rfl)) (by decide) (fun K hK => ?_)
      refine goes_ Tryd.func96 (by kernel_rfl) rfl #[.slice A145_5 ((rd_T33 l0 0).f5).length c145_5] (by rfl) rfl rfl (by (try simp only [List.map_toArray, List.map_cons, List.map_nil]); first | done | rfl | (simp only [List.length_drop, List.length_take]; rfl)) ?_
      with_reducible refine (spec_l01List.calls k _ _ ((rd_T33 l0 0).f5) t155 _ ?side1 ?side2 A7.out).mono ?_
      (case side1 => repeat (first | exact (Kd.C_below HR154_5.out HB.out) | (with_reducible refine Kd.C_alloc ?_ _) | (with_reducible refine Kd.C_drewN ?_ _) | (with_reducible refine Kd.C_drew ?_)))
      (case side2 => exact HC154_5.out)
      rintro e w14 ⟨rfl, hb⟩
      refine ⟨_, rfl, ?_⟩
      have n0_ := Aside0.mk (Kd.R_below (by (with_reducible repeat (first | apply Kd.R_alloc | apply Kd.R_drewN | apply Kd.R_drew)); exact HO152.out) hb)
      have n1_ := Aside0.mk (below_step (by repeat (first | (with_reducible first | exact HB.out | apply below_alloc | apply pw_below_drewN | apply below_drew1) | exact HB.out)) hb)
      clear HO152
      clear HB
      have HO152 := n0_
      have HB := n1_
      clear n0_ n1_
      (try clear hb)
      (try clear hb2)
      (try clear hk)
      (try clear hi)
      refine hK.out _ _ ⟨((HB.out.cell (World.block_lt_of_cell? w _ hw145_0)).trans hw145_0), ((HB.out.cell (World.block_lt_of_cell? w _ hw145_1)).trans hw145_1), ((HB.out.cell (World.block_lt_of_cell? w _ hw145_2)).trans hw145_2), ((HB.out.cell (World.block_lt_of_cell? w _ hw145_3)).trans hw145_3), ((HB.out.cell (World.block_lt_of_cell? w _ hw145_4)).trans hw145_4), ((HB.out.cell (World.block_lt_of_cell? w _ hw145_5)).trans hw145_5), ((HB.out.cell (World.block_lt_of_cell? w _ hw146_0)).trans hw146_0), ((HB.out.cell (World.block_lt_of_cell? w _ hw146_1)).trans hw146_1), ((HB.out.cell (World.block_lt_of_cell? w _ hw146_2)).trans hw146_2), ((HB.out.cell (World.block_lt_of_cell? w _ hw146_3)).trans hw146_3), ((HB.out.cell (World.block_lt_of_cell? w _ hw146_4)).trans hw146_4), ((HB.out.cell (World.block_lt_of_cell? w _ hw146_5)).trans hw146_5), ((HB.out.cell (World.block_lt_of_cell? w _ hw147_0)).trans hw147_0), ((HB.out.cell (World.block_lt_of_cell? w _ hw147_1)).trans hw147_1), ((HB.out.cell (World.block_lt_of_cell? w _ hw147_2)).trans hw147_2), ((HB.out.cell (World.block_lt_of_cell? w _ hw147_3)).trans hw147_3), ((HB.out.cell (World.block_lt_of_cell? w _ hw147_4)).trans hw147_4), ((HB.out.cell (World.block_lt_of_cell? w _ hw147_5)).trans hw147_5), ((HB.out.cell (World.block_lt_of_cell? w _ hw148_0)).trans hw148_0), ((HB.out.cell (World.block_lt_of_cell? w _ hw148_1)).trans hw148_1), ((HB.out.cell (World.block_lt_of_cell? w _ hw148_2)).trans hw148_2), ((HB.out.cell (World.block_lt_of_cell? w _ hw148_3)).trans hw148_3), ((HB.out.cell (World.block_lt_of_cell? w _ hw148_4)).trans hw148_4), ((HB.out.cell (World.block_lt_of_cell? w _ hw148_5)).trans hw148_5), ((HB.out.cell (World.block_lt_of_cell? w _ hw149_0)).trans hw149_0), ((HB.out.cell (World.block_lt_of_cell? w _ hw149_1)).trans hw149_1), ((HB.out.cell (World.block_lt_of_cell? w _ hw149_2)).trans hw149_2), ((HB.out.cell (World.block_lt_of_cell? w _ hw149_3)).trans hw149_3), ((HB.out.cell (World.block_lt_of_cell? w _ hw149_4)).trans hw149_4), ((HB.out.cell (World.block_lt_of_cell? w _ hw149_5)).trans hw149_5), ((HB.out.cell (World.block_lt_of_cell? w _ hw154_0)).trans hw154_0), ((HB.out.cell (World.block_lt_of_cell? w _ hw154_1)).trans hw154_1), ((HB.out.cell (World.block_lt_of_cell? w _ hw154_2)).trans hw154_2), ((HB.out.cell (World.block_lt_of_cell? w _ hw154_3)).trans hw154_3), ((HB.out.cell (World.block_lt_of_cell? w _ hw154_4)).trans hw154_4), ((HB.out.cell (World.block_lt_of_cell? w _ hw154_5)).trans hw154_5)⟩ (fun hHeld => ?_)
      clear hK K
      refine norm_ (a' := ?_) ?_ ?_
      rotate_left
      ·
       show Act.put _ (some 32) _ = _
       simp only [Act.put, List.setIfInBounds_toArray, List.set_cons_zero, List.set_cons_succ, i64_w, i32_w]
       rfl
      refine pure_ (i := 30) (N := some 33) (v := ?_) (a' := ?_) #[true, true, true, true, true, true, true, true, true, true, true, true, true, true, true, true, true, true, true, true, true, true, true, true, true, true, true, true, true, true, true, false] rfl rfl (any_of HT_.out (by kernel_rfl)) (fun _ _ _ h => h) (Or.inl ⟨by rfl, ?_⟩) ?_ ?_
      rotate_left
      ·
       intro w'
       go_simp
       with_reducible rfl
      rotate_left
      ·
       simp only [Act.put, List.setIfInBounds_toArray, List.set_cons_zero, List.set_cons_succ, i64_w, i32_w]
       rfl
      refine pure_ (i := 31) (N := some 2) (v := ?_) (a' := ?_) #[true, true, true, true, true, true, true, true, true, true, true, true, true, true, true, true, true, true, true, true, true, true, true, true, true, true, true, true, true, true, true, true] rfl rfl (any_of HT_.out (by kernel_rfl)) (fun _ _ _ h => h) (Or.inl ⟨by rfl, ?_⟩) ?_ ?_
      rotate_left
      ·
       intro w'
       go_simp
       with_reducible rfl
      rotate_left
      ·
       simp only [Act.put, List.setIfInBounds_toArray, List.set_cons_zero, List.set_cons_succ, i64_w, i32_w]
       rfl
      refine done_ (done_of HT_.out (by kernel_rfl)) ?_
      try go_wp2
      go_ret
      exact ⟨by first | rfl | (simp [errW_none, errW_some] <;> rfl) | (simp [*, errW_none, errW_some] <;> rfl), by repeat (first | (with_reducible first | exact HB.out | apply below_alloc | apply pw_below_drewN | apply below_drew1) | exact HB.out)⟩
     ·
      rw [if_neg c8] at H
      exact absurd H (by simp)
    ·
     rw [if_neg c6] at H
     exact absurd H (by simp)
   ·
    rw [if_neg c5] at H
    exact absurd H (by simp)
  ·
   rw [if_neg c3] at H
   exact absurd H (by simp)
 ·
  rw [if_neg c2] at H
  exact absurd H (by simp)

/-! ### spec_BuildingText: function 20 -/
def spec_BuildingText.f (k : Nat) (a0_0 : ByteArray) (a0_1 : Int) (a0_2 : Int) (a0_3 : Int) (a0_4 : Int) (l0_5 : List Int) : Option (ByteArray) := (spec_l05One.f k [(⟨a0_0, a0_1, a0_2, a0_3, a0_4, l0_5⟩ : S33)]).bind fun t158 => (if t158 = true then ((spec_l05Text.f k [(⟨a0_0, a0_1, a0_2, a0_3, a0_4, l0_5⟩ : S33)]).bind fun t160 => (some t160)) else (some (⟨#[]⟩ : ByteArray)))
theorem spec_BuildingText.mono : ∀ a0 a1 a2 a3 a4 a5 k, LeO (spec_BuildingText.f k a0 a1 a2 a3 a4 a5) (spec_BuildingText.f (k + 1) a0 a1 a2 a3 a4 a5) := by
 intro a0 a1 a2 a3 a4 a5 k
 unfold spec_BuildingText.f
 repeat' first
   | (with_reducible exact spec_l05One.mono _ _)
   | (with_reducible exact spec_l05Text.mono _ _)
   | (with_reducible exact LeO.refl _)
   | (with_reducible exact LeO.none _)
   | (with_reducible refine LeO.ite ?_ ?_)
   | (with_reducible refine LeO.bind ?_ (fun _ => ?_))
   | exact spec_l05One.mono _ _
   | exact spec_l05Text.mono _ _
   | exact LeO.none _
   | refine LeO.ite ?_ ?_
   | refine LeO.bind ?_ (fun _ => ?_)
set_option maxHeartbeats 8000000 in
set_option maxRecDepth 100000 in
theorem spec_BuildingText.calls (k : Nat) (a0_0 : ByteArray) (a0_1 : Int) (a0_2 : Int) (a0_3 : Int) (a0_4 : Int) (A0_5 : Option Addr) (c0_5 : Nat) (l0_5 : List Int) (r : ByteArray) (w : World) (hr0_5 : Kd.C (Kd.int .i64) w A0_5 l0_5.length l0_5) (hc0_5 : l0_5.length ≤ c0_5) (h : spec_BuildingText.f k a0_0 a0_1 a0_2 a0_3 a0_4 l0_5 = some r) :
  Calls Tryd.prog 20 #[.agg #[.string a0_0, .int .i64 a0_1, .int .i64 a0_2, .int .i64 a0_3, .int .i64 a0_4, .slice A0_5 l0_5.length c0_5]] w fun e w' => e = .returned (.string r) ∧ Below w.heap.size w w' := by
 have hu33 := Tryd.underlying33
 have HR0_5 := Aside0.mk hr0_5
 have HC0_5 := Aside0.mk hc0_5
 clear hr0_5 hc0_5
 have HB := Aside0.mk (Below.refl w.heap.size w)
 have H : ((spec_l05One.f k [(⟨a0_0, a0_1, a0_2, a0_3, a0_4, l0_5⟩ : S33)]).bind fun t158 => (if t158 = true then ((spec_l05Text.f k [(⟨a0_0, a0_1, a0_2, a0_3, a0_4, l0_5⟩ : S33)]).bind fun t160 => (some t160)) else (some (⟨#[]⟩ : ByteArray)))) = some r := h
 clear h
 replace H := Option.bind_eq_some_iff.mp H
 obtain ⟨t158, A20, H⟩ := H
 replace H : (if t158 = true then ((spec_l05Text.f k [(⟨a0_0, a0_1, a0_2, a0_3, a0_4, l0_5⟩ : S33)]).bind fun t160 => (some t160)) else (some (⟨#[]⟩ : ByteArray))) = some r := H
 have A2 := Aside0.mk A20
 clear A20
 by_cases c3 : t158 = true
 ·
  subst c3
  have H1 : ((spec_l05Text.f k [(⟨a0_0, a0_1, a0_2, a0_3, a0_4, l0_5⟩ : S33)]).bind fun t160 => (some t160)) = some r := by rw [if_pos rfl] at H; exact H
  clear H
  have H := H1
  clear H1
  replace H := Option.bind_eq_some_iff.mp H
  obtain ⟨t160, A40, H⟩ := H
  replace H : (some t160) = some r := H
  have A4 := Aside0.mk A40
  clear A40
  obtain rfl := Option.some.inj H
  go_enter Tryd.func20, Tryd.ntmps20
  go_wp2_with (first | ((with_reducible refine gate_dst (N := 1) rfl ?_); refine box_event ?hg (N := 1) ?hd (cs := #[.string a0_0, .int .i64 a0_1, .int .i64 a0_2, .int .i64 a0_3, .int .i64 a0_4, .slice A0_5 l0_5.length c0_5]) (t := 33) ?hr ?_; (case hd => rfl); (case hg => rfl); (case hr => first | (go_simp; done) | (go_simp; rfl)); intro gb156 hg w5 hbox hb; have n0_ := Aside0.mk (below_step (by repeat (first | (with_reducible first | exact HB.out | apply below_alloc | apply pw_below_drewN | apply below_drew1) | exact HB.out)) hb); have n1_ := Aside0.mk (hbox); have n2_ := Aside0.mk ((by rw [hg]; exact (below_size (by repeat (first | (with_reducible first | exact HB.out | apply below_alloc | apply pw_below_drewN | apply below_drew1) | exact HB.out))) : w.heap.size ≤ gb156)); have n3_ := Aside0.mk ((by rw [hg]; exact (below_size (by repeat (first | (with_reducible first | exact HB.out | apply below_alloc | apply pw_below_drewN | apply below_drew1) | exact HB.out))) : w.heap.size ≤ gb156)); clear HB; have HB := n0_; have BK156 := n1_; have GW156 := n2_; have GE156 := n3_; clear n0_ n1_ n2_ n3_; clear hb hbox hg) | ((with_reducible refine gate_callee (f := 63) rfl ?_); refine goesL_ (some 3) rfl rfl Tryd.func63 (by kernel_rfl) rfl #[.pointer (some ⟨gb156, 0, none⟩)] rfl (by (try simp only [List.map_toArray, List.map_cons, List.map_nil]); first | done | rfl | (simp only [List.length_drop, List.length_take]; rfl)) ?_; (with_reducible refine (spec_l05One.calls k _ 1 [(⟨a0_0, a0_1, a0_2, a0_3, a0_4, l0_5⟩ : S33)] true _ ?side1 ?side2 A2.out).mono ?_); (case side1 => refine box_C (t := 33) _ (k33_mk _ _ HC0_5.out (Kd.C_below HR0_5.out (by repeat (first | (with_reducible first | exact HB.out | apply below_alloc | apply pw_below_drewN | apply below_drew1) | exact HB.out)))) ?_; (with_reducible repeat (first | refine blk_drewN ?_ _ | refine blk_drew ?_ | refine blk_alloc ?_ _)); exact BK156.out); (case side2 => exact Nat.le_refl _); rintro e w' ⟨rfl, ⟨nd, rfl⟩⟩; refine ⟨_, rfl, ?_⟩) | ((with_reducible refine gate_callee (f := 64) rfl ?_); refine goesL_ (some 5) rfl rfl Tryd.func64 (by kernel_rfl) rfl #[.pointer (some ⟨gb156, 0, none⟩)] rfl (by (try simp only [List.map_toArray, List.map_cons, List.map_nil]); first | done | rfl | (simp only [List.length_drop, List.length_take]; rfl)) ?_; (with_reducible refine (spec_l05Text.calls k _ 1 [(⟨a0_0, a0_1, a0_2, a0_3, a0_4, l0_5⟩ : S33)] t160 _ ?side1 ?side2 A4.out).mono ?_); (case side1 => refine box_C (t := 33) _ (k33_mk _ _ HC0_5.out (Kd.C_below HR0_5.out (by repeat (first | (with_reducible first | exact HB.out | apply below_alloc | apply pw_below_drewN | apply below_drew1) | exact HB.out)))) ?_; (with_reducible repeat (first | refine blk_drewN ?_ _ | refine blk_drew ?_ | refine blk_alloc ?_ _)); exact BK156.out); (case side2 => exact Nat.le_refl _); rintro e w6 ⟨rfl, hb⟩; refine ⟨_, rfl, ?_⟩; have n0_ := Aside0.mk (blk_below (g := gb156) (o := .cells #[.string a0_0, .int .i64 a0_1, .int .i64 a0_2, .int .i64 a0_3, .int .i64 a0_4, .slice A0_5 l0_5.length c0_5] 33 (0, 0)) (by (with_reducible repeat (first | refine blk_drewN ?_ _ | refine blk_drew ?_ | refine blk_alloc ?_ _)); exact BK156.out) hb); have n1_ := Aside0.mk (below_step (by repeat (first | (with_reducible first | exact HB.out | apply below_alloc | apply pw_below_drewN | apply below_drew1 | refine below_set ?_ GE156.out) | exact HB.out)) hb); clear BK156; clear HB; have BK156 := n0_; have HB := n1_; clear n0_ n1_; (try clear hb); (try clear hb2); (try clear hk); (try clear hi)))
  go_ret
  exact ⟨by first | rfl | (simp [errW_none, errW_some] <;> rfl) | (simp [*, errW_none, errW_some] <;> rfl), by repeat (first | (with_reducible first | exact HB.out | apply below_alloc | apply pw_below_drewN | apply below_drew1 | refine below_set ?_ GE156.out) | exact HB.out)⟩
 ·
  replace c3 := Bool.eq_false_iff.mpr c3
  subst c3
  have H1 : (some (⟨#[]⟩ : ByteArray)) = some r := by rw [if_neg (show ¬ (false = true) by decide)] at H; exact H
  clear H
  have H := H1
  clear H1
  obtain rfl := Option.some.inj H
  go_enter Tryd.func20, Tryd.ntmps20
  go_wp2_with (first | ((with_reducible refine gate_dst (N := 1) rfl ?_); refine box_event ?hg (N := 1) ?hd (cs := #[.string a0_0, .int .i64 a0_1, .int .i64 a0_2, .int .i64 a0_3, .int .i64 a0_4, .slice A0_5 l0_5.length c0_5]) (t := 33) ?hr ?_; (case hd => rfl); (case hg => rfl); (case hr => first | (go_simp; done) | (go_simp; rfl)); intro gb156 hg w7 hbox hb; have n0_ := Aside0.mk (below_step (by repeat (first | (with_reducible first | exact HB.out | apply below_alloc | apply pw_below_drewN | apply below_drew1) | exact HB.out)) hb); have n1_ := Aside0.mk (hbox); have n2_ := Aside0.mk ((by rw [hg]; exact (below_size (by repeat (first | (with_reducible first | exact HB.out | apply below_alloc | apply pw_below_drewN | apply below_drew1) | exact HB.out))) : w.heap.size ≤ gb156)); have n3_ := Aside0.mk ((by rw [hg]; exact (below_size (by repeat (first | (with_reducible first | exact HB.out | apply below_alloc | apply pw_below_drewN | apply below_drew1) | exact HB.out))) : w.heap.size ≤ gb156)); clear HB; have HB := n0_; have BK156 := n1_; have GW156 := n2_; have GE156 := n3_; clear n0_ n1_ n2_ n3_; clear hb hbox hg) | ((with_reducible refine gate_callee (f := 63) rfl ?_); refine goesL_ (some 3) rfl rfl Tryd.func63 (by kernel_rfl) rfl #[.pointer (some ⟨gb156, 0, none⟩)] rfl (by (try simp only [List.map_toArray, List.map_cons, List.map_nil]); first | done | rfl | (simp only [List.length_drop, List.length_take]; rfl)) ?_; (with_reducible refine (spec_l05One.calls k _ 1 [(⟨a0_0, a0_1, a0_2, a0_3, a0_4, l0_5⟩ : S33)] false _ ?side1 ?side2 A2.out).mono ?_); (case side1 => refine box_C (t := 33) _ (k33_mk _ _ HC0_5.out (Kd.C_below HR0_5.out (by repeat (first | (with_reducible first | exact HB.out | apply below_alloc | apply pw_below_drewN | apply below_drew1) | exact HB.out)))) ?_; (with_reducible repeat (first | refine blk_drewN ?_ _ | refine blk_drew ?_ | refine blk_alloc ?_ _)); exact BK156.out); (case side2 => exact Nat.le_refl _); rintro e w' ⟨rfl, ⟨nd, rfl⟩⟩; refine ⟨_, rfl, ?_⟩))
  go_ret
  exact ⟨by first | rfl | (simp [errW_none, errW_some] <;> rfl) | (simp [*, errW_none, errW_some] <;> rfl), by repeat (first | (with_reducible first | exact HB.out | apply below_alloc | apply pw_below_drewN | apply below_drew1 | refine below_set ?_ GE156.out) | exact HB.out)⟩

end Go.Proofs.YtdbocilpcknlhaaDoor.PFnExactBuildingText
