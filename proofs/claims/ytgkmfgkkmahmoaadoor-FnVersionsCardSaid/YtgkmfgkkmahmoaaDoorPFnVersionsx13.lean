-- PRINTED by print.py (a twelfth state) out of the translation. Not trusted: Lean checks it.
import Derived.Test.YtgkmfgkkmahmoaaDoorPFnVersionsx0
import Derived.Test.YtgkmfgkkmahmoaaDoorPFnVersionsx4
import Derived.Test.YtgkmfgkkmahmoaaDoorPFnVersionsx5
import Derived.Test.YtgkmfgkkmahmoaaDoorPFnVersionsx8
import Derived.Test.YtgkmfgkkmahmoaaDoorPFnVersionsx9
namespace Go.Proofs.YtgkmfgkkmahmoaaDoor.PFnVersions
open Go.RowKit Go.Proofs.YtgkmfgkkmahmoaaDoorW.PrintWords Go.Proofs.YtgkmfgkkmahmoaaDoorW.PrintLast Go.Proofs.YtgkmfgkkmahmoaaDoorW.PrintMore
attribute [local go_sem] max2_int min2_int max_two min_two max_three min_three max_four min_four   -- for this text's walks alone
set_option linter.unusedVariables false
set_option linter.unusedSimpArgs false

/-! ### impl_VersionText: function 22 -/
mutual
def impl_VersionText.j0 : Nat → Bool → Int → Int → ByteArray → List (S96) → Option (ByteArray)
 | 0, _, _, _, _, _ => none
 | k + 1, x30, x381000, x381001, x381002, x381003 => if x30 = true then (some (⟨#[]⟩ : ByteArray)) else ((impl_Decimal.f x381000).bind fun t385 => (if t385.size + 1 ≤ 9223372036854775807 then ((impl_Decimal.f x381001).bind fun t386 => (if (t385 ++ (⟨#[60]⟩ : ByteArray)).size + t386.size ≤ 9223372036854775807 then (impl_VersionText.l0 k ((t385 ++ (⟨#[60]⟩ : ByteArray)) ++ t386) x381003 (x381003.length : Int) 0 x381000 x381001 x381002 x381003) else (none))) else (none)))
def impl_VersionText.l0 : Nat → ByteArray → List (S96) → Int → Int → Int → Int → ByteArray → List (S96) → Option (ByteArray)
 | 0, _, _, _, _, _, _, _, _ => none
 | k + 1, x3, x40, x41, x42, x381000, x381001, x381002, x381003 => if x42 < x41 then (if 0 ≤ x42 then (if x42 < (x40.length : Int) then (if 1 + ((rd_T96 x40 x42).f0).size ≤ 9223372036854775807 then (if ((⟨#[32]⟩ : ByteArray) ++ ((rd_T96 x40 x42).f0)).size + 1 ≤ 9223372036854775807 then ((impl_Decimal.f ((rd_T96 x40 x42).f1)).bind fun t389 => (if (((⟨#[32]⟩ : ByteArray) ++ ((rd_T96 x40 x42).f0)) ++ (⟨#[61]⟩ : ByteArray)).size + t389.size ≤ 9223372036854775807 then (if x3.size + ((((⟨#[32]⟩ : ByteArray) ++ ((rd_T96 x40 x42).f0)) ++ (⟨#[61]⟩ : ByteArray)) ++ t389).size ≤ 9223372036854775807 then (impl_VersionText.l0 k (x3 ++ ((((⟨#[32]⟩ : ByteArray) ++ ((rd_T96 x40 x42).f0)) ++ (⟨#[61]⟩ : ByteArray)) ++ t389)) x40 x41 (wrap64 (x42 + 1)) x381000 x381001 x381002 x381003) else (none)) else (none))) else (none)) else (none)) else (none)) else (none)) else (if x381002.toList = ([] : List UInt8) then (some x3) else (if 3 + x381002.size ≤ 9223372036854775807 then (if x3.size + ((⟨#[32, 35, 32]⟩ : ByteArray) ++ x381002).size ≤ 9223372036854775807 then (some (x3 ++ ((⟨#[32, 35, 32]⟩ : ByteArray) ++ x381002))) else (none)) else (none)))
end
def impl_VersionText.f (k : Nat) (a0_0 : Int) (a0_1 : Int) (a0_2 : ByteArray) (l0_3 : List (S96)) : Option (ByteArray) := (impl_within.f a0_0 1 32).bind fun t381 => (if t381 = true then ((impl_within.f a0_1 0 (wrap64 (a0_0 - 1))).bind fun t382 => (if t382 = true then ((impl_memoValid.f k a0_2).bind fun t383 => (if t383 = true then ((impl_ValidState.f k l0_3).bind fun t384 => (impl_VersionText.j0 k (!t384) a0_0 a0_1 a0_2 l0_3)) else (impl_VersionText.j0 k true a0_0 a0_1 a0_2 l0_3))) else (impl_VersionText.j0 k true a0_0 a0_1 a0_2 l0_3))) else (impl_VersionText.j0 k true a0_0 a0_1 a0_2 l0_3))
theorem impl_VersionText.mono_l : ∀ k, (∀ y0 y1 y2 y3 y4, LeO (impl_VersionText.j0 k y0 y1 y2 y3 y4) (impl_VersionText.j0 (k + 1) y0 y1 y2 y3 y4)) ∧ (∀ y0 y1 y2 y3 y4 y5 y6 y7, LeO (impl_VersionText.l0 k y0 y1 y2 y3 y4 y5 y6 y7) (impl_VersionText.l0 (k + 1) y0 y1 y2 y3 y4 y5 y6 y7))
 | 0 => ⟨fun _ _ _ _ _ r h => by simp [impl_VersionText.j0] at h, fun _ _ _ _ _ _ _ _ r h => by simp [impl_VersionText.l0] at h⟩
 | k + 1 => by
  obtain ⟨ih0, ih1⟩ := impl_VersionText.mono_l k
  refine ⟨?_, ?_⟩
  ·
   intro y0 y1 y2 y3 y4
   unfold impl_VersionText.j0
   repeat' first
   | (with_reducible exact ih0 _ _ _ _ _)
   | (with_reducible exact ih1 _ _ _ _ _ _ _ _)
   | (with_reducible exact impl_ValidState.mono _ _)
   | (with_reducible exact impl_memoValid.mono _ _)
   | (with_reducible exact LeO.refl _)
   | (with_reducible exact LeO.none _)
   | (with_reducible refine LeO.ite ?_ ?_)
   | (with_reducible refine LeO.bind ?_ (fun _ => ?_))
   | exact ih0 _ _ _ _ _
   | exact ih1 _ _ _ _ _ _ _ _
   | exact impl_ValidState.mono _ _
   | exact impl_memoValid.mono _ _
   | exact LeO.none _
   | refine LeO.ite ?_ ?_
   | refine LeO.bind ?_ (fun _ => ?_)
  ·
   intro y0 y1 y2 y3 y4 y5 y6 y7
   unfold impl_VersionText.l0
   repeat' first
   | (with_reducible exact ih0 _ _ _ _ _)
   | (with_reducible exact ih1 _ _ _ _ _ _ _ _)
   | (with_reducible exact impl_ValidState.mono _ _)
   | (with_reducible exact impl_memoValid.mono _ _)
   | (with_reducible exact LeO.refl _)
   | (with_reducible exact LeO.none _)
   | (with_reducible refine LeO.ite ?_ ?_)
   | (with_reducible refine LeO.bind ?_ (fun _ => ?_))
   | exact ih0 _ _ _ _ _
   | exact ih1 _ _ _ _ _ _ _ _
   | exact impl_ValidState.mono _ _
   | exact impl_memoValid.mono _ _
   | exact LeO.none _
   | refine LeO.ite ?_ ?_
   | refine LeO.bind ?_ (fun _ => ?_)
theorem impl_VersionText.mono : ∀ a0 a1 a2 a3 k, LeO (impl_VersionText.f k a0 a1 a2 a3) (impl_VersionText.f (k + 1) a0 a1 a2 a3) := by
 intro a0 a1 a2 a3 k
 obtain ⟨ih0, ih1⟩ := impl_VersionText.mono_l k
 unfold impl_VersionText.f
 repeat' first
   | (with_reducible exact ih0 _ _ _ _ _)
   | (with_reducible exact ih1 _ _ _ _ _ _ _ _)
   | (with_reducible exact impl_ValidState.mono _ _)
   | (with_reducible exact impl_memoValid.mono _ _)
   | (with_reducible exact LeO.refl _)
   | (with_reducible exact LeO.none _)
   | (with_reducible refine LeO.ite ?_ ?_)
   | (with_reducible refine LeO.bind ?_ (fun _ => ?_))
   | exact ih0 _ _ _ _ _
   | exact ih1 _ _ _ _ _ _ _ _
   | exact impl_ValidState.mono _ _
   | exact impl_memoValid.mono _ _
   | exact LeO.none _
   | refine LeO.ite ?_ ?_
   | refine LeO.bind ?_ (fun _ => ?_)
def impl_VersionText.T3 : Bool × List (List Nat × List Nat) := (true, [([], []), ([0], [0]), ([1], [1]), ([2], [2]), ([], []), ([4], [4]), ([5, 2], [5]), ([3, 6], [3, 6]), ([7, 6, 0, 1, 2, 3, 4, 5, 6, 7], [7])])
def impl_VersionText.B3 : List Nat := [0, 1, 3, 7, 0, 16, 55, 127, 255]
theorem impl_VersionText.tab3 : rtab .any (opsOf Tryd.f22 3) = impl_VersionText.T3 := by kernel_rfl
theorem impl_VersionText.bits3 : waitsOk impl_VersionText.T3.2 impl_VersionText.B3 = true := by kernel_rfl
def impl_VersionText.T7 : Bool × List (List Nat × List Nat) := (true, [([], []), ([], []), ([1], [1]), ([2], [2]), ([3], [3]), ([], []), ([5], [5]), ([6], [6]), ([4, 7], [4, 7]), ([0, 8], [0, 8]), ([9, 7, 0, 1, 2, 3, 4, 5, 6, 7, 8, 9], [0, 9])])
def impl_VersionText.B7 : List Nat := [0, 0, 2, 6, 14, 0, 32, 96, 254, 511, 1023]
theorem impl_VersionText.tab7 : rtab .any (opsOf Tryd.f22 7) = impl_VersionText.T7 := by kernel_rfl
theorem impl_VersionText.bits7 : waitsOk impl_VersionText.T7.2 impl_VersionText.B7 = true := by kernel_rfl
set_option maxHeartbeats 8000000 in
set_option maxRecDepth 100000 in
theorem impl_VersionText.calls (k : Nat) (a0_0 : Int) (a0_1 : Int) (a0_2 : ByteArray) (A0_3 : Option Addr) (c0_3 : Nat) (l0_3 : List (S96)) (r : ByteArray) (w : World) (hr0_3 : Kd.C k96 w A0_3 l0_3.length l0_3) (hc0_3 : l0_3.length ≤ c0_3) (ht_ : WOK w) (h : impl_VersionText.f k a0_0 a0_1 a0_2 l0_3 = some r) :
  Calls Tryd.prog 22 #[.agg #[.int .i64 a0_0, .int .i64 a0_1, .string a0_2, .slice A0_3 l0_3.length c0_3]] w fun e w' => e = .returned (.string r) ∧ Below w.heap.size w w' := by
 have HWOK_ := Aside0.mk ht_
 clear ht_
 have hu48 := Tryd.underlying48
 have hu96 := Tryd.underlying96
 have HR0_3 := Aside0.mk hr0_3
 have HC0_3 := Aside0.mk hc0_3
 clear hr0_3 hc0_3
 have HB := Aside0.mk (Below.refl w.heap.size w)
 have H : ((impl_within.f a0_0 1 32).bind fun t381 => (if t381 = true then ((impl_within.f a0_1 0 (wrap64 (a0_0 - 1))).bind fun t382 => (if t382 = true then ((impl_memoValid.f k a0_2).bind fun t383 => (if t383 = true then ((impl_ValidState.f k l0_3).bind fun t384 => (impl_VersionText.j0 k (!t384) a0_0 a0_1 a0_2 l0_3)) else (impl_VersionText.j0 k true a0_0 a0_1 a0_2 l0_3))) else (impl_VersionText.j0 k true a0_0 a0_1 a0_2 l0_3))) else (impl_VersionText.j0 k true a0_0 a0_1 a0_2 l0_3))) = some r := h
 clear h
 have HC2 := Aside0.mk H
 clear H
 go_enter Tryd.func22, Tryd.ntmps22
 go_upto_region 1 with (first | ((with_reducible refine gate_dst (N := 1) rfl ?_); refine box_event ?hg (N := 1) ?hd (cs := #[.int .i64 a0_0, .int .i64 a0_1, .string a0_2, .slice A0_3 l0_3.length c0_3]) (t := 48) ?hr ?_; (case hd => rfl); (case hg => rfl); (case hr => first | (go_simp; done) | (go_simp; rfl)); intro gb380 hg w3 hbox hb; have n0_ := Aside0.mk (below_step bB_ hb); have n1_ := Aside0.mk (hbox); have n2_ := Aside0.mk ((by rw [hg]; exact (below_size bB_) : w.heap.size ≤ gb380)); have n3_ := Aside0.mk ((by rw [hg]; exact (below_size bB_) : w.heap.size ≤ gb380)); clear HB; have HB := n0_; have BK380 := n1_; have GW380 := n2_; have GE380 := n3_; clear n0_ n1_ n2_ n3_; clear hb hbox hg))
 (try simp only [Act.put, List.setIfInBounds_toArray, List.set_cons_zero, List.set_cons_succ])
 go_cut [30] (fun v30 wc => ∃ (kq : Nat) (x30_1 : Bool), v30 = .bool x30_1 ∧ Aside0 (impl_VersionText.j0 kq x30_1 a0_0 a0_1 a0_2 l0_3 = some r) ∧ Aside0 (kq ≤ k) ∧ Aside0 (wc.heap[gb380]? = some (.cells #[.int .i64 a0_0, .int .i64 a0_1, .string a0_2, (.slice A0_3 l0_3.length c0_3)] 48 (0, 0))) ∧ Aside0 (Below w.heap.size w wc))
 case first =>
  have H := HC2.out
  clear HC2
  replace H := Option.bind_eq_some_iff.mp H
  obtain ⟨t381, A40, H⟩ := H
  replace H : (if t381 = true then ((impl_within.f a0_1 0 (wrap64 (a0_0 - 1))).bind fun t382 => (if t382 = true then ((impl_memoValid.f k a0_2).bind fun t383 => (if t383 = true then ((impl_ValidState.f k l0_3).bind fun t384 => (impl_VersionText.j0 k (!t384) a0_0 a0_1 a0_2 l0_3)) else (impl_VersionText.j0 k true a0_0 a0_1 a0_2 l0_3))) else (impl_VersionText.j0 k true a0_0 a0_1 a0_2 l0_3))) else (impl_VersionText.j0 k true a0_0 a0_1 a0_2 l0_3)) = some r := H
  have A4 := Aside0.mk A40
  clear A40
  by_cases c5 : t381 = true
  ·
   subst c5
   have H1 : ((impl_within.f a0_1 0 (wrap64 (a0_0 - 1))).bind fun t382 => (if t382 = true then ((impl_memoValid.f k a0_2).bind fun t383 => (if t383 = true then ((impl_ValidState.f k l0_3).bind fun t384 => (impl_VersionText.j0 k (!t384) a0_0 a0_1 a0_2 l0_3)) else (impl_VersionText.j0 k true a0_0 a0_1 a0_2 l0_3))) else (impl_VersionText.j0 k true a0_0 a0_1 a0_2 l0_3))) = some r := by rw [if_pos rfl] at H; exact H
   clear H
   have H := H1
   clear H1
   replace H := Option.bind_eq_some_iff.mp H
   obtain ⟨t382, A60, H⟩ := H
   replace H : (if t382 = true then ((impl_memoValid.f k a0_2).bind fun t383 => (if t383 = true then ((impl_ValidState.f k l0_3).bind fun t384 => (impl_VersionText.j0 k (!t384) a0_0 a0_1 a0_2 l0_3)) else (impl_VersionText.j0 k true a0_0 a0_1 a0_2 l0_3))) else (impl_VersionText.j0 k true a0_0 a0_1 a0_2 l0_3)) = some r := H
   have A6 := Aside0.mk A60
   clear A60
   by_cases c7 : t382 = true
   ·
    subst c7
    have H1 : ((impl_memoValid.f k a0_2).bind fun t383 => (if t383 = true then ((impl_ValidState.f k l0_3).bind fun t384 => (impl_VersionText.j0 k (!t384) a0_0 a0_1 a0_2 l0_3)) else (impl_VersionText.j0 k true a0_0 a0_1 a0_2 l0_3))) = some r := by rw [if_pos rfl] at H; exact H
    clear H
    have H := H1
    clear H1
    replace H := Option.bind_eq_some_iff.mp H
    obtain ⟨t383, A80, H⟩ := H
    replace H : (if t383 = true then ((impl_ValidState.f k l0_3).bind fun t384 => (impl_VersionText.j0 k (!t384) a0_0 a0_1 a0_2 l0_3)) else (impl_VersionText.j0 k true a0_0 a0_1 a0_2 l0_3)) = some r := H
    have A8 := Aside0.mk A80
    clear A80
    by_cases c9 : t383 = true
    ·
     subst c9
     have H1 : ((impl_ValidState.f k l0_3).bind fun t384 => (impl_VersionText.j0 k (!t384) a0_0 a0_1 a0_2 l0_3)) = some r := by rw [if_pos rfl] at H; exact H
     clear H
     have H := H1
     clear H1
     replace H := Option.bind_eq_some_iff.mp H
     obtain ⟨t384, A100, H⟩ := H
     replace H : (impl_VersionText.j0 k (!t384) a0_0 a0_1 a0_2 l0_3) = some r := H
     have A10 := Aside0.mk A100
     clear A100
     have H' := Aside0.mk H
     clear H
     have hcz11_0 : w3.cell? ⟨gb380, 0, none⟩ = some (.int .i64 a0_0) := (blk_cell BK380.out 0).trans rfl
     have hcz11_1 : w3.cell? ⟨gb380, 1, none⟩ = some (.int .i64 a0_1) := (blk_cell BK380.out 1).trans rfl
     have hcz11_2 : w3.cell? ⟨gb380, 2, none⟩ = some (.string a0_2) := (blk_cell BK380.out 2).trans rfl
     have hcz11_3 : w3.cell? ⟨gb380, 3, none⟩ = some (.slice A0_3 l0_3.length c0_3) := (blk_cell BK380.out 3).trans rfl
     have hfz11_0 := blk_frozen BK380.out 0
     have hfz11_1 := blk_frozen BK380.out 1
     have hfz11_2 := blk_frozen BK380.out 2
     have hfz11_3 := blk_frozen BK380.out 3
     go_wp2_with (first | ((with_reducible refine gate_callee (f := 63) rfl ?_); refine goesL_ (some 8) rfl rfl Tryd.func63 (by kernel_rfl) rfl #[.int .i64 a0_0, .int .i64 1, .int .i64 32] rfl mT_ ?_; (with_reducible refine (impl_within.calls a0_0 1 32 true _ A4.out).mono ?_); rintro e w' ⟨rfl, ⟨nd, rfl⟩⟩; refine ⟨_, rfl, ?_⟩) | (go_at_call 63; (with_reducible refine (impl_within.calls a0_1 0 (wrap64 (a0_0 - 1)) true _ A6.out).mono ?_); rintro e w' ⟨rfl, ⟨nd, rfl⟩⟩) | (go_at_call 62; (with_reducible refine (impl_memoValid.calls k a0_2 true _ A8.out).mono ?_); rintro e w' ⟨rfl, ⟨nd, rfl⟩⟩) | (go_at_call 50; (with_reducible refine (impl_ValidState.calls k _ _ l0_3 t384 _ ?side1 ?side2 A10.out).mono ?_); (case side1 => exact cA_ (Kd.C_below HR0_3.out (bC_ GE380.out))); (case side2 => exact HC0_3.out); rintro e w12 ⟨rfl, hb⟩; have n0_ := Aside0.mk (blk_below (g := gb380) (o := .cells #[.int .i64 a0_0, .int .i64 a0_1, .string a0_2, .slice A0_3 l0_3.length c0_3] 48 (0, 0)) (bK_ BK380.out) hb); have n1_ := Aside0.mk (below_step (bC_ GE380.out) hb); clear BK380; clear HB; have BK380 := n0_; have HB := n1_; clear n0_ n1_; (try clear hb); (try clear hb2); (try clear hk); (try clear hi)))
     go_meet
     case rel => exact ⟨_, (!t384), rs_, H', ⟨by first | omega | exact Nat.le_refl _⟩, ⟨bK_ BK380.out⟩, ⟨bC_ GE380.out⟩⟩
    ·
     replace c9 := Bool.eq_false_iff.mpr c9
     subst c9
     have H1 : (impl_VersionText.j0 k true a0_0 a0_1 a0_2 l0_3) = some r := by rw [if_neg (show ¬ (false = true) by decide)] at H; exact H
     clear H
     have H := H1
     clear H1
     have H' := Aside0.mk H
     clear H
     have hcz13_0 : w3.cell? ⟨gb380, 0, none⟩ = some (.int .i64 a0_0) := (blk_cell BK380.out 0).trans rfl
     have hcz13_1 : w3.cell? ⟨gb380, 1, none⟩ = some (.int .i64 a0_1) := (blk_cell BK380.out 1).trans rfl
     have hcz13_2 : w3.cell? ⟨gb380, 2, none⟩ = some (.string a0_2) := (blk_cell BK380.out 2).trans rfl
     have hcz13_3 : w3.cell? ⟨gb380, 3, none⟩ = some (.slice A0_3 l0_3.length c0_3) := (blk_cell BK380.out 3).trans rfl
     have hfz13_0 := blk_frozen BK380.out 0
     have hfz13_1 := blk_frozen BK380.out 1
     have hfz13_2 := blk_frozen BK380.out 2
     have hfz13_3 := blk_frozen BK380.out 3
     go_wp2_with (first | ((with_reducible refine gate_callee (f := 63) rfl ?_); refine goesL_ (some 8) rfl rfl Tryd.func63 (by kernel_rfl) rfl #[.int .i64 a0_0, .int .i64 1, .int .i64 32] rfl mT_ ?_; (with_reducible refine (impl_within.calls a0_0 1 32 true _ A4.out).mono ?_); rintro e w' ⟨rfl, ⟨nd, rfl⟩⟩; refine ⟨_, rfl, ?_⟩) | (go_at_call 63; (with_reducible refine (impl_within.calls a0_1 0 (wrap64 (a0_0 - 1)) true _ A6.out).mono ?_); rintro e w' ⟨rfl, ⟨nd, rfl⟩⟩) | (go_at_call 62; (with_reducible refine (impl_memoValid.calls k a0_2 false _ A8.out).mono ?_); rintro e w' ⟨rfl, ⟨nd, rfl⟩⟩))
     go_meet
     case rel => exact ⟨_, (true), rs_, H', ⟨by first | omega | exact Nat.le_refl _⟩, ⟨bK_ BK380.out⟩, ⟨bC_ GE380.out⟩⟩
   ·
    replace c7 := Bool.eq_false_iff.mpr c7
    subst c7
    have H1 : (impl_VersionText.j0 k true a0_0 a0_1 a0_2 l0_3) = some r := by rw [if_neg (show ¬ (false = true) by decide)] at H; exact H
    clear H
    have H := H1
    clear H1
    have H' := Aside0.mk H
    clear H
    have hcz14_0 : w3.cell? ⟨gb380, 0, none⟩ = some (.int .i64 a0_0) := (blk_cell BK380.out 0).trans rfl
    have hcz14_1 : w3.cell? ⟨gb380, 1, none⟩ = some (.int .i64 a0_1) := (blk_cell BK380.out 1).trans rfl
    have hcz14_2 : w3.cell? ⟨gb380, 2, none⟩ = some (.string a0_2) := (blk_cell BK380.out 2).trans rfl
    have hcz14_3 : w3.cell? ⟨gb380, 3, none⟩ = some (.slice A0_3 l0_3.length c0_3) := (blk_cell BK380.out 3).trans rfl
    have hfz14_0 := blk_frozen BK380.out 0
    have hfz14_1 := blk_frozen BK380.out 1
    have hfz14_2 := blk_frozen BK380.out 2
    have hfz14_3 := blk_frozen BK380.out 3
    go_wp2_with (first | ((with_reducible refine gate_callee (f := 63) rfl ?_); refine goesL_ (some 8) rfl rfl Tryd.func63 (by kernel_rfl) rfl #[.int .i64 a0_0, .int .i64 1, .int .i64 32] rfl mT_ ?_; (with_reducible refine (impl_within.calls a0_0 1 32 true _ A4.out).mono ?_); rintro e w' ⟨rfl, ⟨nd, rfl⟩⟩; refine ⟨_, rfl, ?_⟩) | (go_at_call 63; (with_reducible refine (impl_within.calls a0_1 0 (wrap64 (a0_0 - 1)) false _ A6.out).mono ?_); rintro e w' ⟨rfl, ⟨nd, rfl⟩⟩))
    go_meet
    case rel => exact ⟨_, (true), rs_, H', ⟨by first | omega | exact Nat.le_refl _⟩, ⟨bK_ BK380.out⟩, ⟨bC_ GE380.out⟩⟩
  ·
   replace c5 := Bool.eq_false_iff.mpr c5
   subst c5
   have H1 : (impl_VersionText.j0 k true a0_0 a0_1 a0_2 l0_3) = some r := by rw [if_neg (show ¬ (false = true) by decide)] at H; exact H
   clear H
   have H := H1
   clear H1
   have H' := Aside0.mk H
   clear H
   have hcz15_0 : w3.cell? ⟨gb380, 0, none⟩ = some (.int .i64 a0_0) := (blk_cell BK380.out 0).trans rfl
   have hcz15_1 : w3.cell? ⟨gb380, 1, none⟩ = some (.int .i64 a0_1) := (blk_cell BK380.out 1).trans rfl
   have hcz15_2 : w3.cell? ⟨gb380, 2, none⟩ = some (.string a0_2) := (blk_cell BK380.out 2).trans rfl
   have hcz15_3 : w3.cell? ⟨gb380, 3, none⟩ = some (.slice A0_3 l0_3.length c0_3) := (blk_cell BK380.out 3).trans rfl
   have hfz15_0 := blk_frozen BK380.out 0
   have hfz15_1 := blk_frozen BK380.out 1
   have hfz15_2 := blk_frozen BK380.out 2
   have hfz15_3 := blk_frozen BK380.out 3
   go_wp2_with (first | ((with_reducible refine gate_callee (f := 63) rfl ?_); refine goesL_ (some 8) rfl rfl Tryd.func63 (by kernel_rfl) rfl #[.int .i64 a0_0, .int .i64 1, .int .i64 32] rfl mT_ ?_; (with_reducible refine (impl_within.calls a0_0 1 32 false _ A4.out).mono ?_); rintro e w' ⟨rfl, ⟨nd, rfl⟩⟩; refine ⟨_, rfl, ?_⟩))
   go_meet
   case rel => exact ⟨_, (true), rs_, H', ⟨by first | omega | exact Nat.le_refl _⟩, ⟨bK_ BK380.out⟩, ⟨bC_ GE380.out⟩⟩
 case rest =>
  clear HC2
  try clear c2
  try clear p2
  try clear c5
  try clear c6
  try clear p6
  try clear c7
  try clear c9
  try clear hcz11_0
  try clear hcz11_1
  try clear hcz11_2
  try clear hcz11_3
  try clear hcz13_0
  try clear hcz13_1
  try clear hcz13_2
  try clear hcz13_3
  try clear hcz14_0
  try clear hcz14_1
  try clear hcz14_2
  try clear hcz14_3
  try clear hcz15_0
  try clear hcz15_1
  try clear hcz15_2
  try clear hcz15_3
  try clear hfz11_0
  try clear hfz11_1
  try clear hfz11_2
  try clear hfz11_3
  try clear hfz13_0
  try clear hfz13_1
  try clear hfz13_2
  try clear hfz13_3
  try clear hfz14_0
  try clear hfz14_1
  try clear hfz14_2
  try clear hfz14_3
  try clear hfz15_0
  try clear hfz15_1
  try clear hfz15_2
  try clear hfz15_3
  obtain ⟨kq, x30_1, rfl, HA, HJ1, BK380, HB⟩ := hcut
  cases kq with
  | zero => exact absurd HA.out (by simp [impl_VersionText.j0])
  | succ kj1 =>
   have H := HA.out
   clear HA
   simp only [impl_VersionText.j0] at H
   by_cases c16 : x30_1 = true
   ·
    subst c16
    have H1 : (some (⟨#[]⟩ : ByteArray)) = some r := by rw [if_pos rfl] at H; exact H
    clear H
    have H := H1
    clear H1
    obtain rfl := Option.some.inj H
    go_wp2
    go_ret
    exact ⟨er_, bC_ GE380.out⟩
   ·
    replace c16 := Bool.eq_false_iff.mpr c16
    subst c16
    have H1 : ((impl_Decimal.f a0_0).bind fun t385 => (if t385.size + 1 ≤ 9223372036854775807 then ((impl_Decimal.f a0_1).bind fun t386 => (if (t385 ++ (⟨#[60]⟩ : ByteArray)).size + t386.size ≤ 9223372036854775807 then (impl_VersionText.l0 kj1 ((t385 ++ (⟨#[60]⟩ : ByteArray)) ++ t386) l0_3 (l0_3.length : Int) 0 a0_0 a0_1 a0_2 l0_3) else (none))) else (none))) = some r := by rw [if_neg (show ¬ (false = true) by decide)] at H; exact H
    clear H
    have H := H1
    clear H1
    replace H := Option.bind_eq_some_iff.mp H
    obtain ⟨t385, A170, H⟩ := H
    replace H : (if t385.size + 1 ≤ 9223372036854775807 then ((impl_Decimal.f a0_1).bind fun t386 => (if (t385 ++ (⟨#[60]⟩ : ByteArray)).size + t386.size ≤ 9223372036854775807 then (impl_VersionText.l0 kj1 ((t385 ++ (⟨#[60]⟩ : ByteArray)) ++ t386) l0_3 (l0_3.length : Int) 0 a0_0 a0_1 a0_2 l0_3) else (none))) else (none)) = some r := H
    have A17 := Aside0.mk A170
    clear A170
    by_cases c18 : t385.size + 1 ≤ 9223372036854775807
    ·
     rw [if_pos c18] at H
     have c18b0 := eq_true c18
     have c18b1 : decide (t385.size + 1 ≤ 9223372036854775807) = true := decide_eq_true c18
     try have c18b2 : (9223372036854775807 < t385.size + 1) = False := eq_false (Nat.not_lt.2 c18)
     replace H := Option.bind_eq_some_iff.mp H
     obtain ⟨t386, A190, H⟩ := H
     replace H : (if (t385 ++ (⟨#[60]⟩ : ByteArray)).size + t386.size ≤ 9223372036854775807 then (impl_VersionText.l0 kj1 ((t385 ++ (⟨#[60]⟩ : ByteArray)) ++ t386) l0_3 (l0_3.length : Int) 0 a0_0 a0_1 a0_2 l0_3) else (none)) = some r := H
     have A19 := Aside0.mk A190
     clear A190
     by_cases c20 : (t385 ++ (⟨#[60]⟩ : ByteArray)).size + t386.size ≤ 9223372036854775807
     ·
      rw [if_pos c20] at H
      have c20b0 := eq_true c20
      have c20b1 : decide ((t385 ++ (⟨#[60]⟩ : ByteArray)).size + t386.size ≤ 9223372036854775807) = true := decide_eq_true c20
      try have c20b2 : (9223372036854775807 < (t385 ++ (⟨#[60]⟩ : ByteArray)).size + t386.size) = False := eq_false (Nat.not_lt.2 c20)
      have c20e : (t385 ++ (⟨#[60]⟩ : ByteArray)).size + t386.size = (t385.size + 1) + t386.size := (by simp only [ByteArray.size_append]; rfl)
      have c20b6 : (9223372036854775807 < (t385.size + 1) + t386.size) = False := (by rw [← c20e]; exact c20b2)
      have c20b7 : decide ((t385.size + 1) + t386.size ≤ 9223372036854775807) = true := (by rw [← c20e]; exact c20b1)
      have c20b8 : ((t385.size + 1) + t386.size ≤ 9223372036854775807) = True := (by rw [← c20e]; exact eq_true (of_decide_eq_true c20b1))
      clear c20e
      try have c20b3 : (9223372036854775807 < ((t385).size + 1) + (t386).size) = False := eq_false (Nat.not_lt.2 (by have h_ := c20; simp only [ByteArray.size_append] at h_; exact h_))
      have H' := Aside0.mk H
      clear H
      try go_wp2
      have n0_ := Aside0.mk (blk_drew BK380.out)
      have n1_ := Aside0.mk (below_drew1 HB.out)
      clear BK380
      clear HB
      have BK380 := n0_
      have HB := n1_
      clear n0_ n1_
      refine start_ (n := 9) (S := fun w' => w'.cell? ⟨gb380, 0, none⟩ = some (.int .i64 a0_0) ∧ w'.cell? ⟨gb380, 1, none⟩ = some (.int .i64 a0_1) ∧ w'.cell? ⟨gb380, 2, none⟩ = some (.string a0_2) ∧ w'.cell? ⟨gb380, 3, none⟩ = some (.slice A0_3 l0_3.length c0_3)) (ds := []) #[false, false, false, false, false, false, false, false, false] (by kernel_rfl) rfl rfl ⟨(blk_cell BK380.out 0).trans rfl, (blk_cell BK380.out 1).trans rfl, (blk_cell BK380.out 2).trans rfl, (blk_cell BK380.out 3).trans rfl⟩ (fun hHeld => ?_); refine with_tabW impl_VersionText.tab3 impl_VersionText.bits3 (fun HT_ HW_ => ?_)
      generalize wc.drew = w21 at BK380 HB hHeld ⊢
      refine pure_ (i := 0) (N := some 31) (v := ?_) (a' := ?_) #[true, false, false, false, false, false, false, false, false] rfl rfl (any_of HT_.out (by kernel_rfl)) (fun _ _ _ h => h) (Or.inl ⟨by rfl, ?_⟩) ?_ ?_
      rotate_left
      ·
       intro w'
       go_simp
       with_reducible rfl
      rotate_left
      ·
       simp only [Act.put, q1_, q2_, q3_, i64_w, i32_w]
       rfl
      refine pure_ (i := 4) (N := some 35) (v := ?_) (a' := ?_) #[true, false, false, false, true, false, false, false, false] rfl rfl (any_of HT_.out (by kernel_rfl)) (fun _ _ _ h => h) (Or.inl ⟨by rfl, ?_⟩) ?_ ?_
      rotate_left
      ·
       intro w'
       go_simp
       with_reducible rfl
      rotate_left
      ·
       simp only [Act.put, q1_, q2_, q3_, i64_w, i32_w]
       rfl
      refine take_ (i := 1) (N := some 32) (v := ?_) (a' := ?_) #[true, true, false, false, true, false, false, false, false] rfl rfl (take_ofW HT_.out HW_.out (by kernel_rfl)) (fun _ _ _ h => h) (Or.inl ⟨by rfl, ?_⟩) hHeld ?_ ?_
      rotate_left
      ·
       rintro w' ⟨s0, s1, s2, s3⟩
       go_simp
       with_reducible rfl
      rotate_left
      ·
       simp only [Act.put, q1_, q2_, q3_, i64_w, i32_w]
       rfl
      refine take_ (i := 5) (N := some 36) (v := ?_) (a' := ?_) #[true, true, false, false, true, true, false, false, false] rfl rfl (take_ofW HT_.out HW_.out (by kernel_rfl)) (fun _ _ _ h => h) (Or.inl ⟨by rfl, ?_⟩) hHeld ?_ ?_
      rotate_left
      ·
       rintro w' ⟨s0, s1, s2, s3⟩
       go_simp
       with_reducible rfl
      rotate_left
      ·
       simp only [Act.put, q1_, q2_, q3_, i64_w, i32_w]
       rfl
      refine one_ (i := 2) (N := some 33) #[true, true, true, false, true, true, false, false, false] rfl rfl (one_of HT_.out (by kernel_rfl)) (by decide) (fun K hK => ?_)
      refine goes_ Tryd.func66 (by kernel_rfl) rfl #[.int .i64 a0_0] (by rfl) rfl rfl mT_ ?_
      with_reducible refine (impl_Decimal.calls a0_0 t385 _ ?side1 A17.out).mono ?_
      (case side1 => exact wok_ HWOK_.out (bC_ GE380.out))
      rintro e w22 ⟨rfl, hb⟩
      refine ⟨_, rfl, ?_⟩
      have n0_ := Aside0.mk (blk_below (g := gb380) (o := .cells #[.int .i64 a0_0, .int .i64 a0_1, .string a0_2, .slice A0_3 l0_3.length c0_3] 48 (0, 0)) (bK_ BK380.out) hb)
      have n1_ := Aside0.mk (below_step (bC_ GE380.out) hb)
      clear BK380
      clear HB
      have BK380 := n0_
      have HB := n1_
      clear n0_ n1_
      (try clear hb)
      (try clear hb2)
      (try clear hk)
      (try clear hi)
      refine hK.out _ _ ⟨(blk_cell BK380.out 0).trans rfl, (blk_cell BK380.out 1).trans rfl, (blk_cell BK380.out 2).trans rfl, (blk_cell BK380.out 3).trans rfl⟩ (fun hHeld => ?_)
      clear hK K
      refine norm_ (a' := ?_) ?_ ?_
      rotate_left
      ·
       show Act.put _ (some 33) _ = _
       simp only [Act.put, q1_, q2_, q3_, i64_w, i32_w]
       rfl
      refine pure_ (i := 3) (N := some 34) (v := ?_) (a' := ?_) #[true, true, true, true, true, true, false, false, false] rfl rfl (any_of HT_.out (by kernel_rfl)) (fun _ _ _ h => h) (Or.inl ⟨by rfl, ?_⟩) ?_ ?_
      rotate_left
      ·
       intro w'
       go_simp
       with_reducible rfl
      rotate_left
      ·
       simp only [Act.put, q1_, q2_, q3_, i64_w, i32_w]
       rfl
      refine one_ (i := 6) (N := some 37) #[true, true, true, true, true, true, true, false, false] rfl rfl (one_of HT_.out (by kernel_rfl)) (by decide) (fun K hK => ?_)
      refine goes_ Tryd.func66 (by kernel_rfl) rfl #[.int .i64 a0_1] (by rfl) rfl rfl mT_ ?_
      with_reducible refine (impl_Decimal.calls a0_1 t386 _ ?side1 A19.out).mono ?_
      (case side1 => exact wok_ HWOK_.out (bC_ GE380.out))
      rintro e w23 ⟨rfl, hb⟩
      refine ⟨_, rfl, ?_⟩
      have n0_ := Aside0.mk (blk_below (g := gb380) (o := .cells #[.int .i64 a0_0, .int .i64 a0_1, .string a0_2, .slice A0_3 l0_3.length c0_3] 48 (0, 0)) (bK_ BK380.out) hb)
      have n1_ := Aside0.mk (below_step (bC_ GE380.out) hb)
      clear BK380
      clear HB
      have BK380 := n0_
      have HB := n1_
      clear n0_ n1_
      (try clear hb)
      (try clear hb2)
      (try clear hk)
      (try clear hi)
      refine hK.out _ _ ⟨(blk_cell BK380.out 0).trans rfl, (blk_cell BK380.out 1).trans rfl, (blk_cell BK380.out 2).trans rfl, (blk_cell BK380.out 3).trans rfl⟩ (fun hHeld => ?_)
      clear hK K
      refine norm_ (a' := ?_) ?_ ?_
      rotate_left
      ·
       show Act.put _ (some 37) _ = _
       simp only [Act.put, q1_, q2_, q3_, i64_w, i32_w]
       rfl
      refine pure_ (i := 7) (N := some 38) (v := ?_) (a' := ?_) #[true, true, true, true, true, true, true, true, false] rfl rfl (any_of HT_.out (by kernel_rfl)) (fun _ _ _ h => h) (Or.inl ⟨by rfl, ?_⟩) ?_ ?_
      rotate_left
      ·
       intro w'
       go_simp
       with_reducible rfl
      rotate_left
      ·
       simp only [Act.put, q1_, q2_, q3_, i64_w, i32_w]
       rfl
      refine pure_ (i := 8) (N := some 3) (v := ?_) (a' := ?_) #[true, true, true, true, true, true, true, true, true] rfl rfl (any_of HT_.out (by kernel_rfl)) (fun _ _ _ h => h) (Or.inl ⟨by rfl, ?_⟩) ?_ ?_
      rotate_left
      ·
       intro w'
       go_simp
       with_reducible rfl
      rotate_left
      ·
       simp only [Act.put, q1_, q2_, q3_, i64_w, i32_w]
       rfl
      refine done_ (done_of HT_.out (by kernel_rfl)) ?_
      have hcz24_0 : w23.cell? ⟨gb380, 0, none⟩ = some (.int .i64 a0_0) := (blk_cell BK380.out 0).trans rfl
      have hcz24_1 : w23.cell? ⟨gb380, 1, none⟩ = some (.int .i64 a0_1) := (blk_cell BK380.out 1).trans rfl
      have hcz24_2 : w23.cell? ⟨gb380, 2, none⟩ = some (.string a0_2) := (blk_cell BK380.out 2).trans rfl
      have hcz24_3 : w23.cell? ⟨gb380, 3, none⟩ = some (.slice A0_3 l0_3.length c0_3) := (blk_cell BK380.out 3).trans rfl
      have hfz24_0 := blk_frozen BK380.out 0
      have hfz24_1 := blk_frozen BK380.out 1
      have hfz24_2 := blk_frozen BK380.out 2
      have hfz24_3 := blk_frozen BK380.out 3
      try go_wp2
      go_loopg [3, 42] kj1 (fun kq v3 v42 w' => ∃ (x3_2 : ByteArray) (x42_2 : Int), v3 = .string x3_2 ∧ v42 = .int .i64 x42_2 ∧ Aside0 (impl_VersionText.l0 kq x3_2 l0_3 (l0_3.length : Int) x42_2 a0_0 a0_1 a0_2 l0_3 = some r) ∧ Aside0 (kq ≤ kj1) ∧ Aside0 (w'.heap[gb380]? = some (.cells #[.int .i64 a0_0, .int .i64 a0_1, .string a0_2, (.slice A0_3 l0_3.length c0_3)] 48 (0, 0))) ∧ Aside0 (Below w.heap.size w w'))
      case atStart => exact ⟨((t385 ++ (⟨#[60]⟩ : ByteArray)) ++ t386), (0), rs_, rs_, H', ⟨Nat.le_refl _⟩, ⟨bK_ BK380.out⟩, ⟨bC_ GE380.out⟩⟩
      case round =>
       clear H'
       try clear c1
       try clear c2
       try clear p2
       try clear c5
       try clear c6
       try clear p6
       try clear c7
       try clear c9
       try clear c16
       try clear c18
       try clear c18b0
       try clear c18b1
       try clear c18b2
       try clear c20
       try clear c20b0
       try clear c20b1
       try clear c20b2
       try clear c22
       try clear hcz11_0
       try clear hcz11_1
       try clear hcz11_2
       try clear hcz11_3
       try clear hcz13_0
       try clear hcz13_1
       try clear hcz13_2
       try clear hcz13_3
       try clear hcz14_0
       try clear hcz14_1
       try clear hcz14_2
       try clear hcz14_3
       try clear hcz15_0
       try clear hcz15_1
       try clear hcz15_2
       try clear hcz15_3
       try clear hcz24_0
       try clear hcz24_1
       try clear hcz24_2
       try clear hcz24_3
       try clear hfz11_0
       try clear hfz11_1
       try clear hfz11_2
       try clear hfz11_3
       try clear hfz13_0
       try clear hfz13_1
       try clear hfz13_2
       try clear hfz13_3
       try clear hfz14_0
       try clear hfz14_1
       try clear hfz14_2
       try clear hfz14_3
       try clear hfz15_0
       try clear hfz15_1
       try clear hfz15_2
       try clear hfz15_3
       try clear hfz24_0
       try clear hfz24_1
       try clear hfz24_2
       try clear hfz24_3
       try clear p2
       try clear p6
       obtain ⟨x3_2, x42_2, rfl, rfl, HA, HK2, BK380, HB⟩ := hrel
       cases gk with
       | zero => exact absurd HA.out (by simp [impl_VersionText.l0])
       | succ k2 =>
        have H := HA.out
        clear HA
        simp only [impl_VersionText.l0] at H
        by_cases c25 : x42_2 < (l0_3.length : Int)
        ·
         rw [if_pos c25] at H
         have c25b0 : decide (x42_2 < (l0_3.length : Int)) = true := decide_eq_true c25
         clear c25
         by_cases c26 : 0 ≤ x42_2
         ·
          rw [if_pos c26] at H
          have c26b0 : decide (0 ≤ x42_2) = true := decide_eq_true c26
          clear c26
          by_cases c27 : x42_2 < (l0_3.length : Int)
          ·
           rw [if_pos c27] at H
           have c27b0 : decide (x42_2 < (l0_3.length : Int)) = true := decide_eq_true c27
           clear c27
           by_cases c28 : 1 + ((rd_T96 l0_3 x42_2).f0).size ≤ 9223372036854775807
           ·
            rw [if_pos c28] at H
            have c28b0 := eq_true c28
            have c28b1 : decide (1 + ((rd_T96 l0_3 x42_2).f0).size ≤ 9223372036854775807) = true := decide_eq_true c28
            try have c28b2 : (9223372036854775807 < 1 + ((rd_T96 l0_3 x42_2).f0).size) = False := eq_false (Nat.not_lt.2 c28)
            by_cases c29 : ((⟨#[32]⟩ : ByteArray) ++ ((rd_T96 l0_3 x42_2).f0)).size + 1 ≤ 9223372036854775807
            ·
             rw [if_pos c29] at H
             have c29b0 := eq_true c29
             have c29b1 : decide (((⟨#[32]⟩ : ByteArray) ++ ((rd_T96 l0_3 x42_2).f0)).size + 1 ≤ 9223372036854775807) = true := decide_eq_true c29
             try have c29b2 : (9223372036854775807 < ((⟨#[32]⟩ : ByteArray) ++ ((rd_T96 l0_3 x42_2).f0)).size + 1) = False := eq_false (Nat.not_lt.2 c29)
             try have c29b3 : (9223372036854775807 < (1 + ((rd_T96 l0_3 x42_2).f0).size) + 1) = False := eq_false (Nat.not_lt.2 (by have h_ := c29; simp only [ByteArray.size_append] at h_; exact h_))
             replace H := Option.bind_eq_some_iff.mp H
             obtain ⟨t389, A300, H⟩ := H
             replace H : (if (((⟨#[32]⟩ : ByteArray) ++ ((rd_T96 l0_3 x42_2).f0)) ++ (⟨#[61]⟩ : ByteArray)).size + t389.size ≤ 9223372036854775807 then (if x3_2.size + ((((⟨#[32]⟩ : ByteArray) ++ ((rd_T96 l0_3 x42_2).f0)) ++ (⟨#[61]⟩ : ByteArray)) ++ t389).size ≤ 9223372036854775807 then (impl_VersionText.l0 k2 (x3_2 ++ ((((⟨#[32]⟩ : ByteArray) ++ ((rd_T96 l0_3 x42_2).f0)) ++ (⟨#[61]⟩ : ByteArray)) ++ t389)) l0_3 (l0_3.length : Int) (wrap64 (x42_2 + 1)) a0_0 a0_1 a0_2 l0_3) else (none)) else (none)) = some r := H
             have A30 := Aside0.mk A300
             clear A300
             by_cases c31 : (((⟨#[32]⟩ : ByteArray) ++ ((rd_T96 l0_3 x42_2).f0)) ++ (⟨#[61]⟩ : ByteArray)).size + t389.size ≤ 9223372036854775807
             ·
              rw [if_pos c31] at H
              have c31b0 := eq_true c31
              have c31b1 : decide ((((⟨#[32]⟩ : ByteArray) ++ ((rd_T96 l0_3 x42_2).f0)) ++ (⟨#[61]⟩ : ByteArray)).size + t389.size ≤ 9223372036854775807) = true := decide_eq_true c31
              try have c31b2 : (9223372036854775807 < (((⟨#[32]⟩ : ByteArray) ++ ((rd_T96 l0_3 x42_2).f0)) ++ (⟨#[61]⟩ : ByteArray)).size + t389.size) = False := eq_false (Nat.not_lt.2 c31)
              have c31e : (((⟨#[32]⟩ : ByteArray) ++ ((rd_T96 l0_3 x42_2).f0)) ++ (⟨#[61]⟩ : ByteArray)).size + t389.size = ((1 + ((rd_T96 l0_3 x42_2).f0).size) + 1) + t389.size := (by simp only [ByteArray.size_append]; rfl)
              have c31b6 : (9223372036854775807 < ((1 + ((rd_T96 l0_3 x42_2).f0).size) + 1) + t389.size) = False := (by rw [← c31e]; exact c31b2)
              have c31b7 : decide (((1 + ((rd_T96 l0_3 x42_2).f0).size) + 1) + t389.size ≤ 9223372036854775807) = true := (by rw [← c31e]; exact c31b1)
              have c31b8 : (((1 + ((rd_T96 l0_3 x42_2).f0).size) + 1) + t389.size ≤ 9223372036854775807) = True := (by rw [← c31e]; exact eq_true (of_decide_eq_true c31b1))
              clear c31e
              try have c31b3 : (9223372036854775807 < ((1 + ((rd_T96 l0_3 x42_2).f0).size) + 1) + (t389).size) = False := eq_false (Nat.not_lt.2 (by have h_ := c31; simp only [ByteArray.size_append] at h_; exact h_))
              by_cases c32 : x3_2.size + ((((⟨#[32]⟩ : ByteArray) ++ ((rd_T96 l0_3 x42_2).f0)) ++ (⟨#[61]⟩ : ByteArray)) ++ t389).size ≤ 9223372036854775807
              ·
               rw [if_pos c32] at H
               have c32b0 := eq_true c32
               have c32b1 : decide (x3_2.size + ((((⟨#[32]⟩ : ByteArray) ++ ((rd_T96 l0_3 x42_2).f0)) ++ (⟨#[61]⟩ : ByteArray)) ++ t389).size ≤ 9223372036854775807) = true := decide_eq_true c32
               try have c32b2 : (9223372036854775807 < x3_2.size + ((((⟨#[32]⟩ : ByteArray) ++ ((rd_T96 l0_3 x42_2).f0)) ++ (⟨#[61]⟩ : ByteArray)) ++ t389).size) = False := eq_false (Nat.not_lt.2 c32)
               have c32e : x3_2.size + ((((⟨#[32]⟩ : ByteArray) ++ ((rd_T96 l0_3 x42_2).f0)) ++ (⟨#[61]⟩ : ByteArray)) ++ t389).size = x3_2.size + (((1 + ((rd_T96 l0_3 x42_2).f0).size) + 1) + t389.size) := (by simp only [ByteArray.size_append]; rfl)
               have c32b6 : (9223372036854775807 < x3_2.size + (((1 + ((rd_T96 l0_3 x42_2).f0).size) + 1) + t389.size)) = False := (by rw [← c32e]; exact c32b2)
               have c32b7 : decide (x3_2.size + (((1 + ((rd_T96 l0_3 x42_2).f0).size) + 1) + t389.size) ≤ 9223372036854775807) = true := (by rw [← c32e]; exact c32b1)
               have c32b8 : (x3_2.size + (((1 + ((rd_T96 l0_3 x42_2).f0).size) + 1) + t389.size) ≤ 9223372036854775807) = True := (by rw [← c32e]; exact eq_true (of_decide_eq_true c32b1))
               clear c32e
               try have c32b3 : (9223372036854775807 < (x3_2).size + (((1 + ((rd_T96 l0_3 x42_2).f0).size) + 1) + (t389).size)) = False := eq_false (Nat.not_lt.2 (by have h_ := c32; simp only [ByteArray.size_append] at h_; exact h_))
               have H' := Aside0.mk H
               clear H
               have p387 : 0 ≤ (x42_2 : Int) := of_decide_eq_true as_
               have q387 : x42_2 < (l0_3.length : Int) := of_decide_eq_true as_
               obtain ⟨ad387, e387, hx387_0, hx387_1⟩ := at_T96 HR0_3.out x42_2 p387 q387
               cases e387
               replace hx387_0 := cl_ HB hx387_0
               replace hx387_1 := cl_ HB hx387_1
               replace p387 := eq_true p387
               replace q387 := eq_true q387
               try go_wp2_with (first | ((with_reducible refine gate_dst (N := 5) rfl ?_); refine box_event ?hg (N := 5) ?hd (cs := #[.string (⟨#[]⟩ : ByteArray), .int .i64 0]) (t := 96) ?hr ?_; (case hd => rfl); (case hg => rfl); (case hr => first | (go_simp; done) | (go_simp; rfl)); intro gb388 hg w33 hbox hb; have n0_ := Aside0.mk (blk_below (g := gb380) (o := .cells #[.int .i64 a0_0, .int .i64 a0_1, .string a0_2, .slice (some ad387) l0_3.length c0_3] 48 (0, 0)) (bK_ BK380.out) hb); have n1_ := Aside0.mk (below_step (bC_ GE380.out) hb); have n2_ := Aside0.mk (hbox); have n3_ := Aside0.mk ((by rw [hg]; exact (below_size (bC_ GE380.out)) : w.heap.size ≤ gb388)); have n4_ := Aside0.mk ((by rw [hg]; exact (below_size (bC_ GE380.out)) : w.heap.size ≤ gb388)); have n5_ := Aside0.mk ((by rw [hg]; exact Nat.ne_of_lt (blk_lt (g := gb380) (o := .cells #[.int .i64 a0_0, .int .i64 a0_1, .string a0_2, .slice (some ad387) l0_3.length c0_3] 48 (0, 0)) (bK_ BK380.out)) : gb380 ≠ gb388)); have n6_ := Aside0.mk ((by rw [hg]; exact Nat.ne_of_gt (blk_lt (g := gb380) (o := .cells #[.int .i64 a0_0, .int .i64 a0_1, .string a0_2, .slice (some ad387) l0_3.length c0_3] 48 (0, 0)) (bK_ BK380.out)) : gb388 ≠ gb380)); clear BK380; clear HB; have BK380 := n0_; have HB := n1_; have BK388 := n2_; have GW388 := n3_; have GE388 := n4_; have NB380_388 := n5_; have NB388_380 := n6_; clear n0_ n1_ n2_ n3_ n4_ n5_ n6_; clear hb hbox hg; have hnb34 := NB388_380.out; have hnc34 := NB380_388.out; have hcz35_0 : w33.cell? ⟨gb388, 0, none⟩ = some (.string (⟨#[]⟩ : ByteArray)) := (blk_cell BK388.out 0).trans rfl; have hcz35_1 : w33.cell? ⟨gb388, 1, none⟩ = some (.int .i64 0) := (blk_cell BK388.out 1).trans rfl; have hfz35_0 := blk_frozen BK388.out 0; have hfz35_1 := blk_frozen BK388.out 1))
               have n0_ : Aside0 (((w33.setCell ⟨gb388, 0, none⟩ (.string ((rd_T96 l0_3 x42_2).f0))).setCell ⟨gb388, 1, none⟩ (.int .i64 ((rd_T96 l0_3 x42_2).f1))).heap[gb380]? = some (.cells #[.int .i64 a0_0, .int .i64 a0_1, .string a0_2, .slice (some ad387) l0_3.length c0_3] 48 (0, 0))) := ⟨by (with_reducible repeat (first | refine blk_drewN ?_ _ | refine blk_drew ?_ | refine blk_alloc ?_ _)); refine blk_far ?_ NB380_388.out _; (with_reducible repeat (first | refine blk_drewN ?_ _ | refine blk_drew ?_ | refine blk_alloc ?_ _)); refine blk_far ?_ NB380_388.out _; (with_reducible repeat (first | refine blk_drewN ?_ _ | refine blk_drew ?_ | refine blk_alloc ?_ _)); exact BK380.out⟩
               have n1_ : Aside0 (((w33.setCell ⟨gb388, 0, none⟩ (.string ((rd_T96 l0_3 x42_2).f0))).setCell ⟨gb388, 1, none⟩ (.int .i64 ((rd_T96 l0_3 x42_2).f1))).heap[gb388]? = some (.cells #[.string ((rd_T96 l0_3 x42_2).f0), .int .i64 ((rd_T96 l0_3 x42_2).f1)] 96 (0, 0))) := ⟨by (with_reducible repeat (first | refine blk_drewN ?_ _ | refine blk_drew ?_ | refine blk_alloc ?_ _)); refine blk_put (cs := #[.string ((rd_T96 l0_3 x42_2).f0), .int .i64 0]) ?_ 1 _ rfl; (with_reducible repeat (first | refine blk_drewN ?_ _ | refine blk_drew ?_ | refine blk_alloc ?_ _)); refine blk_put (cs := #[.string (⟨#[]⟩ : ByteArray), .int .i64 0]) ?_ 0 _ rfl; (with_reducible repeat (first | refine blk_drewN ?_ _ | refine blk_drew ?_ | refine blk_alloc ?_ _)); exact BK388.out⟩
               have n2_ : Aside0 (Below w.heap.size w ((w33.setCell ⟨gb388, 0, none⟩ (.string ((rd_T96 l0_3 x42_2).f0))).setCell ⟨gb388, 1, none⟩ (.int .i64 ((rd_T96 l0_3 x42_2).f1)))) := ⟨bD_ GE380.out GE388.out⟩
               (try clear BK380)
               (try clear BK388)
               (try clear HB)
               generalize ((w33.setCell ⟨gb388, 0, none⟩ (.string ((rd_T96 l0_3 x42_2).f0))).setCell ⟨gb388, 1, none⟩ (.int .i64 ((rd_T96 l0_3 x42_2).f1))) = w36 at n0_ n1_ n2_ ⊢
               have BK380 := n0_
               have BK388 := n1_
               have HB := n2_
               clear n0_ n1_ n2_
               have n0_ := Aside0.mk (blk_drew BK380.out)
               have n1_ := Aside0.mk (blk_drew BK388.out)
               have n2_ := Aside0.mk (below_drew1 HB.out)
               clear BK380
               clear BK388
               clear HB
               have BK380 := n0_
               have BK388 := n1_
               have HB := n2_
               clear n0_ n1_ n2_
               refine start_ (n := 11) (S := fun w' => w'.cell? ⟨gb388, 0, none⟩ = some (.string ((rd_T96 l0_3 x42_2).f0)) ∧ w'.cell? ⟨gb388, 1, none⟩ = some (.int .i64 ((rd_T96 l0_3 x42_2).f1))) (ds := []) #[false, false, false, false, false, false, false, false, false, false, false] (by kernel_rfl) rfl rfl ⟨(blk_cell BK388.out 0).trans rfl, (blk_cell BK388.out 1).trans rfl⟩ (fun hHeld => ?_); refine with_tabW impl_VersionText.tab7 impl_VersionText.bits7 (fun HT_ HW_ => ?_)
               generalize w36.drew = w37 at BK380 BK388 HB hHeld ⊢
               refine pure_ (i := 0) (N := some 46) (v := ?_) (a' := ?_) #[true, false, false, false, false, false, false, false, false, false, false] rfl rfl (any_of HT_.out (by kernel_rfl)) (fun _ _ _ h => h) (Or.inl ⟨by rfl, ?_⟩) ?_ ?_
               rotate_left
               ·
                intro w'
                go_simp
                with_reducible rfl
               rotate_left
               ·
                simp only [Act.put, q1_, q2_, q3_, i64_w, i32_w]
                rfl
               refine pure_ (i := 1) (N := some 47) (v := ?_) (a' := ?_) #[true, true, false, false, false, false, false, false, false, false, false] rfl rfl (any_of HT_.out (by kernel_rfl)) (fun _ _ _ h => h) (Or.inl ⟨by rfl, ?_⟩) ?_ ?_
               rotate_left
               ·
                intro w'
                go_simp
                with_reducible rfl
               rotate_left
               ·
                simp only [Act.put, q1_, q2_, q3_, i64_w, i32_w]
                rfl
               refine pure_ (i := 5) (N := some 51) (v := ?_) (a' := ?_) #[true, true, false, false, false, true, false, false, false, false, false] rfl rfl (any_of HT_.out (by kernel_rfl)) (fun _ _ _ h => h) (Or.inl ⟨by rfl, ?_⟩) ?_ ?_
               rotate_left
               ·
                intro w'
                go_simp
                with_reducible rfl
               rotate_left
               ·
                simp only [Act.put, q1_, q2_, q3_, i64_w, i32_w]
                rfl
               refine take_ (i := 2) (N := some 48) (v := ?_) (a' := ?_) #[true, true, true, false, false, true, false, false, false, false, false] rfl rfl (take_ofW HT_.out HW_.out (by kernel_rfl)) (fun _ _ _ h => h) (Or.inl ⟨by rfl, ?_⟩) hHeld ?_ ?_
               rotate_left
               ·
                rintro w' ⟨s0, s1⟩
                go_simp
                with_reducible rfl
               rotate_left
               ·
                simp only [Act.put, q1_, q2_, q3_, i64_w, i32_w]
                rfl
               refine pure_ (i := 3) (N := some 49) (v := ?_) (a' := ?_) #[true, true, true, true, false, true, false, false, false, false, false] rfl rfl (any_of HT_.out (by kernel_rfl)) (fun _ _ _ h => h) (Or.inl ⟨by rfl, ?_⟩) ?_ ?_
               rotate_left
               ·
                intro w'
                go_simp
                with_reducible rfl
               rotate_left
               ·
                simp only [Act.put, q1_, q2_, q3_, i64_w, i32_w]
                rfl
               refine pure_ (i := 4) (N := some 50) (v := ?_) (a' := ?_) #[true, true, true, true, true, true, false, false, false, false, false] rfl rfl (any_of HT_.out (by kernel_rfl)) (fun _ _ _ h => h) (Or.inl ⟨by rfl, ?_⟩) ?_ ?_
               rotate_left
               ·
                intro w'
                go_simp
                with_reducible rfl
               rotate_left
               ·
                simp only [Act.put, q1_, q2_, q3_, i64_w, i32_w]
                rfl
               refine take_ (i := 6) (N := some 52) (v := ?_) (a' := ?_) #[true, true, true, true, true, true, true, false, false, false, false] rfl rfl (take_ofW HT_.out HW_.out (by kernel_rfl)) (fun _ _ _ h => h) (Or.inl ⟨by rfl, ?_⟩) hHeld ?_ ?_
               rotate_left
               ·
                rintro w' ⟨s0, s1⟩
                go_simp
                with_reducible rfl
               rotate_left
               ·
                simp only [Act.put, q1_, q2_, q3_, i64_w, i32_w]
                rfl
               refine one_ (i := 7) (N := some 53) #[true, true, true, true, true, true, true, true, false, false, false] rfl rfl (one_of HT_.out (by kernel_rfl)) (by decide) (fun K hK => ?_)
               refine goes_ Tryd.func66 (by kernel_rfl) rfl #[.int .i64 ((rd_T96 l0_3 x42_2).f1)] (by rfl) rfl rfl mT_ ?_
               with_reducible refine (impl_Decimal.calls ((rd_T96 l0_3 x42_2).f1) t389 _ ?side1 A30.out).mono ?_
               (case side1 => exact wok_ HWOK_.out (bD_ GE380.out GE388.out))
               rintro e w38 ⟨rfl, hb⟩
               refine ⟨_, rfl, ?_⟩
               have n0_ := Aside0.mk (blk_below (g := gb380) (o := .cells #[.int .i64 a0_0, .int .i64 a0_1, .string a0_2, .slice (some ad387) l0_3.length c0_3] 48 (0, 0)) (bK_ BK380.out) hb)
               have n1_ := Aside0.mk (blk_below (g := gb388) (o := .cells #[.string ((rd_T96 l0_3 x42_2).f0), .int .i64 ((rd_T96 l0_3 x42_2).f1)] 96 (0, 0)) (bK_ BK388.out) hb)
               have n2_ := Aside0.mk (below_step (bD_ GE380.out GE388.out) hb)
               clear BK380
               clear BK388
               clear HB
               have BK380 := n0_
               have BK388 := n1_
               have HB := n2_
               clear n0_ n1_ n2_
               (try clear hb)
               (try clear hb2)
               (try clear hk)
               (try clear hi)
               refine hK.out _ _ ⟨(blk_cell BK388.out 0).trans rfl, (blk_cell BK388.out 1).trans rfl⟩ (fun hHeld => ?_)
               clear hK K
               refine norm_ (a' := ?_) ?_ ?_
               rotate_left
               ·
                show Act.put _ (some 53) _ = _
                simp only [Act.put, q1_, q2_, q3_, i64_w, i32_w]
                rfl
               refine pure_ (i := 8) (N := some 54) (v := ?_) (a' := ?_) #[true, true, true, true, true, true, true, true, true, false, false] rfl rfl (any_of HT_.out (by kernel_rfl)) (fun _ _ _ h => h) (Or.inl ⟨by rfl, ?_⟩) ?_ ?_
               rotate_left
               ·
                intro w'
                go_simp
                with_reducible rfl
               rotate_left
               ·
                simp only [Act.put, q1_, q2_, q3_, i64_w, i32_w]
                rfl
               refine pure_ (i := 9) (N := some 55) (v := ?_) (a' := ?_) #[true, true, true, true, true, true, true, true, true, true, false] rfl rfl (any_of HT_.out (by kernel_rfl)) (fun _ _ _ h => h) (Or.inl ⟨by rfl, ?_⟩) ?_ ?_
               rotate_left
               ·
                intro w'
                go_simp
                with_reducible rfl
               rotate_left
               ·
                simp only [Act.put, q1_, q2_, q3_, i64_w, i32_w]
                rfl
               refine pure_ (i := 10) (N := some 3) (v := ?_) (a' := ?_) #[true, true, true, true, true, true, true, true, true, true, true] rfl rfl (any_of HT_.out (by kernel_rfl)) (fun _ _ _ h => h) (Or.inl ⟨by rfl, ?_⟩) ?_ ?_
               rotate_left
               ·
                intro w'
                go_simp
                with_reducible rfl
               rotate_left
               ·
                simp only [Act.put, q1_, q2_, q3_, i64_w, i32_w]
                rfl
               refine done_ (done_of HT_.out (by kernel_rfl)) ?_
               try go_wp2
               go_roundg k2
               case measure => have := HJ1.out; have := HK2.out; omega
               case rel => exact ⟨(x3_2 ++ ((((⟨#[32]⟩ : ByteArray) ++ ((rd_T96 l0_3 x42_2).f0)) ++ (⟨#[61]⟩ : ByteArray)) ++ t389)), (wrap64 (x42_2 + 1)), rs_, rs_, H', ⟨by have := HJ1.out; have := HK2.out; omega⟩, ⟨bK_ BK380.out⟩, ⟨bD_ GE380.out GE388.out⟩⟩
              ·
               rw [if_neg c32] at H
               exact absurd H (by simp)
             ·
              rw [if_neg c31] at H
              exact absurd H (by simp)
            ·
             rw [if_neg c29] at H
             exact absurd H (by simp)
           ·
            rw [if_neg c28] at H
            exact absurd H (by simp)
          ·
           rw [if_neg c27] at H
           exact absurd H (by simp)
         ·
          rw [if_neg c26] at H
          exact absurd H (by simp)
        ·
         rw [if_neg c25] at H
         have c25b0 : decide (x42_2 < (l0_3.length : Int)) = false := decide_eq_false c25
         clear c25
         by_cases c39 : a0_2.toList = ([] : List UInt8)
         ·
          rw [if_pos c39] at H
          have c39b0 : (a0_2.toList == ([] : List UInt8)) = true := beq_iff_eq.mpr c39
          have c39b1 : (a0_2.toList != ([] : List UInt8)) = false := bne_eq_false_iff_eq.mpr c39
          clear c39
          obtain rfl := Option.some.inj H
          have hcz40_0 : wr.cell? ⟨gb380, 0, none⟩ = some (.int .i64 a0_0) := (blk_cell BK380.out 0).trans rfl
          have hcz40_1 : wr.cell? ⟨gb380, 1, none⟩ = some (.int .i64 a0_1) := (blk_cell BK380.out 1).trans rfl
          have hcz40_2 : wr.cell? ⟨gb380, 2, none⟩ = some (.string a0_2) := (blk_cell BK380.out 2).trans rfl
          have hcz40_3 : wr.cell? ⟨gb380, 3, none⟩ = some (.slice A0_3 l0_3.length c0_3) := (blk_cell BK380.out 3).trans rfl
          have hfz40_0 := blk_frozen BK380.out 0
          have hfz40_1 := blk_frozen BK380.out 1
          have hfz40_2 := blk_frozen BK380.out 2
          have hfz40_3 := blk_frozen BK380.out 3
          go_wp2
          go_ret
          exact ⟨er_, bC_ GE380.out⟩
         ·
          rw [if_neg c39] at H
          have c39b0 : (a0_2.toList == ([] : List UInt8)) = false := beq_eq_false_iff_ne.mpr c39
          have c39b1 : (a0_2.toList != ([] : List UInt8)) = true := bne_iff_ne.mpr c39
          by_cases c41 : 3 + a0_2.size ≤ 9223372036854775807
          ·
           rw [if_pos c41] at H
           have c41b0 := eq_true c41
           have c41b1 : decide (3 + a0_2.size ≤ 9223372036854775807) = true := decide_eq_true c41
           try have c41b2 : (9223372036854775807 < 3 + a0_2.size) = False := eq_false (Nat.not_lt.2 c41)
           by_cases c42 : x3_2.size + ((⟨#[32, 35, 32]⟩ : ByteArray) ++ a0_2).size ≤ 9223372036854775807
           ·
            rw [if_pos c42] at H
            have c42b0 := eq_true c42
            have c42b1 : decide (x3_2.size + ((⟨#[32, 35, 32]⟩ : ByteArray) ++ a0_2).size ≤ 9223372036854775807) = true := decide_eq_true c42
            try have c42b2 : (9223372036854775807 < x3_2.size + ((⟨#[32, 35, 32]⟩ : ByteArray) ++ a0_2).size) = False := eq_false (Nat.not_lt.2 c42)
            try have c42b3 : (9223372036854775807 < (x3_2).size + (3 + (a0_2).size)) = False := eq_false (Nat.not_lt.2 (by have h_ := c42; simp only [ByteArray.size_append] at h_; exact h_))
            obtain rfl := Option.some.inj H
            have hcz43_0 : wr.cell? ⟨gb380, 0, none⟩ = some (.int .i64 a0_0) := (blk_cell BK380.out 0).trans rfl
            have hcz43_1 : wr.cell? ⟨gb380, 1, none⟩ = some (.int .i64 a0_1) := (blk_cell BK380.out 1).trans rfl
            have hcz43_2 : wr.cell? ⟨gb380, 2, none⟩ = some (.string a0_2) := (blk_cell BK380.out 2).trans rfl
            have hcz43_3 : wr.cell? ⟨gb380, 3, none⟩ = some (.slice A0_3 l0_3.length c0_3) := (blk_cell BK380.out 3).trans rfl
            have hfz43_0 := blk_frozen BK380.out 0
            have hfz43_1 := blk_frozen BK380.out 1
            have hfz43_2 := blk_frozen BK380.out 2
            have hfz43_3 := blk_frozen BK380.out 3
            go_wp2
            go_ret
            exact ⟨er_, bC_ GE380.out⟩
           ·
            rw [if_neg c42] at H
            exact absurd H (by simp)
          ·
           rw [if_neg c41] at H
           exact absurd H (by simp)
     ·
      rw [if_neg c20] at H
      exact absurd H (by simp)
    ·
     rw [if_neg c18] at H
     exact absurd H (by simp)

end Go.Proofs.YtgkmfgkkmahmoaaDoor.PFnVersions
