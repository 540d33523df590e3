-- PRINTED by print.py (a twelfth state) out of the translation. Not trusted: Lean checks it.
import Derived.Test.YtenjhbkpcelidaaPFnMergesx0
import Derived.Test.YtenjhbkpcelidaaPFnMergesx10
namespace Go.Proofs.Ytenjhbkpcelidaa.PFnMerges
open Go.RowKit Go.Proofs.YtenjhbkpcelidaaW.PrintWords Go.Proofs.YtenjhbkpcelidaaW.PrintLast Go.Proofs.YtenjhbkpcelidaaW.PrintMore
attribute [local go_sem] max2_int min2_int max_two min_two max_three min_three max_four min_four   -- for this text's walks alone
set_option linter.unusedVariables false
set_option linter.unusedSimpArgs false

/-! ### spec_l00Src_pick: function 111 -/
def spec_l00Src_pick.f (s0_0 : List Int) (s0_1 : Int) (s0_2 : Int) (a1 : Int) : Option (Int × Int × Int) := if a1 ≤ 1 then (some (0, s0_1, s0_2)) else ((spec_l00Src_next.f s0_0 s0_1 s0_2).bind fun bt208 => (if a1 > 200 then ((spec_l00Src_next.f s0_0 bt208.2.1 bt208.2.2).bind fun bt211 => (if a1 = 0 then (none) else (some (Int.tmod (wrap64 ((wrap64 (bt208.1 * 256)) + bt211.1)) a1, bt211.2.1, bt211.2.2)))) else (if a1 = 0 then (none) else (some (Int.tmod bt208.1 a1, bt208.2.1, bt208.2.2)))))
set_option maxHeartbeats 8000000 in
set_option maxRecDepth 100000 in
theorem spec_l00Src_pick.calls (g : Nat) (s0_0 : List Int) (s0_1 : Int) (s0_2 : Int) (a1 : Int) (r1 : Int) (r2 : Int) (r3 : Int) (w0 w : World) (hI : IsS135 w0 w g s0_0 s0_1 s0_2) (hB : Below w0.heap.size w0 w) (h : spec_l00Src_pick.f s0_0 s0_1 s0_2 a1 = some (r1, r2, r3)) :
  Calls Try.prog 111 #[.pointer (some ⟨g, 0, none⟩), .int .i64 a1] w fun e w' => e = .returned (.int .i64 r1) ∧ IsS135 w0 w' g s0_0 r2 r3 ∧ Below w0.heap.size w0 w' ∧ KeepBut w w' g none := by
 have HI0 := Aside0.mk hI
 have HK := Aside0.mk (KeepBut.refl w g none)
 have HL := Aside0.mk hB.size
 clear hI
 have HW0 := Aside0.mk hB.size
 have HB := Aside0.mk hB
 clear hB
 have H : (if a1 ≤ 1 then (some (0, s0_1, s0_2)) else ((spec_l00Src_next.f s0_0 s0_1 s0_2).bind fun bt208 => (if a1 > 200 then ((spec_l00Src_next.f s0_0 bt208.2.1 bt208.2.2).bind fun bt211 => (if a1 = 0 then (none) else (some (Int.tmod (wrap64 ((wrap64 (bt208.1 * 256)) + bt211.1)) a1, bt211.2.1, bt211.2.2)))) else (if a1 = 0 then (none) else (some (Int.tmod bt208.1 a1, bt208.2.1, bt208.2.2)))))) = some (r1, r2, r3) := h
 clear h
 by_cases c3 : a1 ≤ 1
 ·
  rw [if_pos c3] at H
  have c3b0 : decide (a1 ≤ 1) = true := decide_eq_true c3
  clear c3
  simp only [Option.some.injEq, Prod.mk.injEq] at H
  obtain ⟨rfl, rfl, rfl⟩ := H
  go_enter Try.func111, Try.ntmps111
  go_wp2
  go_ret
  exact ⟨er_, by (try simp only [Int.add_zero]); repeat (first | (with_reducible first | exact HI0.out | apply IsS135.alloc | apply IsS135.drewN | apply IsS135.drew | apply IsS135.set_1 | apply IsS135.set_2) | exact HI0.out), by repeat (first | (with_reducible first | exact HB.out | apply below_alloc | apply pw_below_drewN | apply below_drew1 | refine below_set ?_ (IsS135.ge HI0.out)) | exact HB.out), by repeat (first | (with_reducible first | exact HK.out | apply KeepBut.set_ | apply keep_drewN | apply keep_drew | apply keep_alloc) | exact HK.out)⟩
 ·
  rw [if_neg c3] at H
  have c3b0 : decide (a1 ≤ 1) = false := decide_eq_false c3
  clear c3
  replace H := Option.bind_eq_some_iff.mp H
  obtain ⟨⟨t208, t209, t210⟩, A40, H⟩ := H
  replace H : (if a1 > 200 then ((spec_l00Src_next.f s0_0 t209 t210).bind fun bt211 => (if a1 = 0 then (none) else (some (Int.tmod (wrap64 ((wrap64 (t208 * 256)) + bt211.1)) a1, bt211.2.1, bt211.2.2)))) else (if a1 = 0 then (none) else (some (Int.tmod t208 a1, t209, t210)))) = some (r1, r2, r3) := H
  have A4 := Aside0.mk A40
  clear A40
  by_cases c5 : a1 > 200
  ·
   rw [if_pos c5] at H
   have c5b0 : decide (200 < a1) = true := decide_eq_true c5
   clear c5
   replace H := Option.bind_eq_some_iff.mp H
   obtain ⟨⟨t211, t212, t213⟩, A60, H⟩ := H
   replace H : (if a1 = 0 then (none) else (some (Int.tmod (wrap64 ((wrap64 (t208 * 256)) + t211)) a1, t212, t213))) = some (r1, r2, r3) := H
   have A6 := Aside0.mk A60
   clear A60
   by_cases c7 : a1 = 0
   ·
    rw [if_pos c7] at H
    exact absurd H (by simp)
   ·
    rw [if_neg c7] at H
    have c7b0 : (a1 == 0) = false := beq_eq_false_iff_ne.mpr c7
    have c7b1 : (a1 != 0) = true := bne_iff_ne.mpr c7
    simp only [Option.some.injEq, Prod.mk.injEq] at H
    obtain ⟨rfl, rfl, rfl⟩ := H
    go_enter Try.func111, Try.ntmps111
    go_wp2_with (first | ((with_reducible refine gate_callee (f := 123) rfl ?_); refine goesL_ (some 9) rfl rfl Try.func123 (by kernel_rfl) rfl #[.pointer (some ⟨g, 0, none⟩)] rfl mT_ ?_; (with_reducible refine (spec_l00Src_next.calls g s0_0 s0_1 s0_2 t208 t209 t210 w0 _ ?side1 ?side2 A4.out).mono ?_); (case side1 => repeat (first | (with_reducible first | exact HI0.out | apply IsS135.alloc | apply IsS135.drewN | apply IsS135.drew | apply IsS135.set_1 | apply IsS135.set_2) | exact HI0.out)); (case side2 => repeat (first | (with_reducible first | exact HB.out | apply below_alloc | apply pw_below_drewN | apply below_drew1 | refine below_set ?_ (IsS135.ge HI0.out)) | exact HB.out)); rintro e w8 ⟨rfl, hi, hb, hk⟩; refine ⟨_, rfl, ?_⟩; have n0_ := Aside0.mk (KeepBut.trans (by repeat (first | (with_reducible first | exact HK.out | apply KeepBut.set_ | apply keep_drewN | apply keep_drew | apply keep_alloc) | exact HK.out)) hk (.inl rfl)); have n1_ := Aside0.mk (hb); have n2_ := Aside0.mk (hi); clear HK; clear HB; clear HI0; have HK := n0_; have HB := n1_; have HI0 := n2_; clear n0_ n1_ n2_; (try clear hb); (try clear hb2); (try clear hk); (try clear hi)) | ((with_reducible refine gate_callee (f := 123) rfl ?_); refine goesL_ (some 15) rfl rfl Try.func123 (by kernel_rfl) rfl #[.pointer (some ⟨g, 0, none⟩)] rfl mT_ ?_; (with_reducible refine (spec_l00Src_next.calls g s0_0 t209 t210 t211 t212 t213 w0 _ ?side1 ?side2 A6.out).mono ?_); (case side1 => repeat (first | (with_reducible first | exact HI0.out | apply IsS135.alloc | apply IsS135.drewN | apply IsS135.drew | apply IsS135.set_1 | apply IsS135.set_2) | exact HI0.out)); (case side2 => repeat (first | (with_reducible first | exact HB.out | apply below_alloc | apply pw_below_drewN | apply below_drew1 | refine below_set ?_ (IsS135.ge HI0.out)) | exact HB.out)); rintro e w9 ⟨rfl, hi, hb, hk⟩; refine ⟨_, rfl, ?_⟩; have n0_ := Aside0.mk (KeepBut.trans (by repeat (first | (with_reducible first | exact HK.out | apply KeepBut.set_ | apply keep_drewN | apply keep_drew | apply keep_alloc) | exact HK.out)) hk (.inl rfl)); have n1_ := Aside0.mk (hb); have n2_ := Aside0.mk (hi); clear HK; clear HB; clear HI0; have HK := n0_; have HB := n1_; have HI0 := n2_; clear n0_ n1_ n2_; (try clear hb); (try clear hb2); (try clear hk); (try clear hi)))
    go_ret
    exact ⟨er_, by (try simp only [Int.add_zero]); repeat (first | (with_reducible first | exact HI0.out | apply IsS135.alloc | apply IsS135.drewN | apply IsS135.drew | apply IsS135.set_1 | apply IsS135.set_2) | exact HI0.out), by repeat (first | (with_reducible first | exact HB.out | apply below_alloc | apply pw_below_drewN | apply below_drew1 | refine below_set ?_ (IsS135.ge HI0.out)) | exact HB.out), by repeat (first | (with_reducible first | exact HK.out | apply KeepBut.set_ | apply keep_drewN | apply keep_drew | apply keep_alloc) | exact HK.out)⟩
  ·
   rw [if_neg c5] at H
   have c5b0 : decide (200 < a1) = false := decide_eq_false c5
   clear c5
   by_cases c10 : a1 = 0
   ·
    rw [if_pos c10] at H
    exact absurd H (by simp)
   ·
    rw [if_neg c10] at H
    have c10b0 : (a1 == 0) = false := beq_eq_false_iff_ne.mpr c10
    have c10b1 : (a1 != 0) = true := bne_iff_ne.mpr c10
    simp only [Option.some.injEq, Prod.mk.injEq] at H
    obtain ⟨rfl, rfl, rfl⟩ := H
    go_enter Try.func111, Try.ntmps111
    go_wp2_with (first | ((with_reducible refine gate_callee (f := 123) rfl ?_); refine goesL_ (some 9) rfl rfl Try.func123 (by kernel_rfl) rfl #[.pointer (some ⟨g, 0, none⟩)] rfl mT_ ?_; (with_reducible refine (spec_l00Src_next.calls g s0_0 s0_1 s0_2 t208 t209 t210 w0 _ ?side1 ?side2 A4.out).mono ?_); (case side1 => repeat (first | (with_reducible first | exact HI0.out | apply IsS135.alloc | apply IsS135.drewN | apply IsS135.drew | apply IsS135.set_1 | apply IsS135.set_2) | exact HI0.out)); (case side2 => repeat (first | (with_reducible first | exact HB.out | apply below_alloc | apply pw_below_drewN | apply below_drew1 | refine below_set ?_ (IsS135.ge HI0.out)) | exact HB.out)); rintro e w11 ⟨rfl, hi, hb, hk⟩; refine ⟨_, rfl, ?_⟩; have n0_ := Aside0.mk (KeepBut.trans (by repeat (first | (with_reducible first | exact HK.out | apply KeepBut.set_ | apply keep_drewN | apply keep_drew | apply keep_alloc) | exact HK.out)) hk (.inl rfl)); have n1_ := Aside0.mk (hb); have n2_ := Aside0.mk (hi); clear HK; clear HB; clear HI0; have HK := n0_; have HB := n1_; have HI0 := n2_; clear n0_ n1_ n2_; (try clear hb); (try clear hb2); (try clear hk); (try clear hi)))
    go_ret
    exact ⟨er_, by (try simp only [Int.add_zero]); repeat (first | (with_reducible first | exact HI0.out | apply IsS135.alloc | apply IsS135.drewN | apply IsS135.drew | apply IsS135.set_1 | apply IsS135.set_2) | exact HI0.out), by repeat (first | (with_reducible first | exact HB.out | apply below_alloc | apply pw_below_drewN | apply below_drew1 | refine below_set ?_ (IsS135.ge HI0.out)) | exact HB.out), by repeat (first | (with_reducible first | exact HK.out | apply KeepBut.set_ | apply keep_drewN | apply keep_drew | apply keep_alloc) | exact HK.out)⟩

/-! ### spec_l00Src_one: function 110 -/
def spec_l00Src_one.f (s0_0 : List Int) (s0_1 : Int) (s0_2 : Int) (a1 : Int) : Option (Bool × Int × Int) := (spec_l00Src_pick.f s0_0 s0_1 s0_2 a1).bind fun bt214 => (some ((bt214.1 == 0), bt214.2.1, bt214.2.2))
set_option maxHeartbeats 8000000 in
set_option maxRecDepth 100000 in
theorem spec_l00Src_one.calls (g : Nat) (s0_0 : List Int) (s0_1 : Int) (s0_2 : Int) (a1 : Int) (r1 : Bool) (r2 : Int) (r3 : Int) (w0 w : World) (hI : IsS135 w0 w g s0_0 s0_1 s0_2) (hB : Below w0.heap.size w0 w) (h : spec_l00Src_one.f s0_0 s0_1 s0_2 a1 = some (r1, r2, r3)) :
  Calls Try.prog 110 #[.pointer (some ⟨g, 0, none⟩), .int .i64 a1] w fun e w' => e = .returned (.bool r1) ∧ IsS135 w0 w' g s0_0 r2 r3 ∧ Below w0.heap.size w0 w' ∧ KeepBut w w' g none := by
 have HI0 := Aside0.mk hI
 have HK := Aside0.mk (KeepBut.refl w g none)
 have HL := Aside0.mk hB.size
 clear hI
 have HW0 := Aside0.mk hB.size
 have HB := Aside0.mk hB
 clear hB
 have H : ((spec_l00Src_pick.f s0_0 s0_1 s0_2 a1).bind fun bt214 => (some ((bt214.1 == 0), bt214.2.1, bt214.2.2))) = some (r1, r2, r3) := h
 clear h
 replace H := Option.bind_eq_some_iff.mp H
 obtain ⟨⟨t214, t215, t216⟩, A30, H⟩ := H
 replace H : (some ((t214 == 0), t215, t216)) = some (r1, r2, r3) := H
 have A3 := Aside0.mk A30
 clear A30
 simp only [Option.some.injEq, Prod.mk.injEq] at H
 obtain ⟨rfl, rfl, rfl⟩ := H
 go_enter Try.func110, Try.ntmps110
 go_wp2_with (first | ((with_reducible refine gate_callee (f := 111) rfl ?_); refine goesL_ (some 7) rfl rfl Try.func111 (by kernel_rfl) rfl #[.pointer (some ⟨g, 0, none⟩), .int .i64 a1] rfl mT_ ?_; (with_reducible refine (spec_l00Src_pick.calls g s0_0 s0_1 s0_2 a1 t214 t215 t216 w0 _ ?side1 ?side2 A3.out).mono ?_); (case side1 => repeat (first | (with_reducible first | exact HI0.out | apply IsS135.alloc | apply IsS135.drewN | apply IsS135.drew | apply IsS135.set_1 | apply IsS135.set_2) | exact HI0.out)); (case side2 => repeat (first | (with_reducible first | exact HB.out | apply below_alloc | apply pw_below_drewN | apply below_drew1 | refine below_set ?_ (IsS135.ge HI0.out)) | exact HB.out)); rintro e w4 ⟨rfl, hi, hb, hk⟩; refine ⟨_, rfl, ?_⟩; have n0_ := Aside0.mk (KeepBut.trans (by repeat (first | (with_reducible first | exact HK.out | apply KeepBut.set_ | apply keep_drewN | apply keep_drew | apply keep_alloc) | exact HK.out)) hk (.inl rfl)); have n1_ := Aside0.mk (hb); have n2_ := Aside0.mk (hi); clear HK; clear HB; clear HI0; have HK := n0_; have HB := n1_; have HI0 := n2_; clear n0_ n1_ n2_; (try clear hb); (try clear hb2); (try clear hk); (try clear hi)))
 go_ret
 exact ⟨er_, by (try simp only [Int.add_zero]); repeat (first | (with_reducible first | exact HI0.out | apply IsS135.alloc | apply IsS135.drewN | apply IsS135.drew | apply IsS135.set_1 | apply IsS135.set_2) | exact HI0.out), by repeat (first | (with_reducible first | exact HB.out | apply below_alloc | apply pw_below_drewN | apply below_drew1 | refine below_set ?_ (IsS135.ge HI0.out)) | exact HB.out), by repeat (first | (with_reducible first | exact HK.out | apply KeepBut.set_ | apply keep_drewN | apply keep_drew | apply keep_alloc) | exact HK.out)⟩

/-! ### spec_l27DrawState: function 82 -/
def spec_l27DrawState.l0 : Nat → List ByteArray → List (S71) → Int → List Int → Int → Int → Option ((List (S71)) × Int × Int)
 | 0, _, _, _, _, _, _ => none
 | k + 1, x3, x4, x5, x1000, x1001, x1002 => if x5 < 5 then ((spec_l00Src_one.f x1000 x1001 x1002 2).bind fun bt223 => (if bt223.1 = true then (if 0 ≤ x5 then (if x5 < (x3.length : Int) then ((spec_l00Src_pick.f x1000 bt223.2.1 bt223.2.2 1001).bind fun bt227 => (if x4.length < 5864062014805 then (spec_l27DrawState.l0 k x3 (x4 ++ [(⟨rdOf ByteArray.empty x3 x5, bt227.1⟩ : S71)]) (wrap64 (x5 + 1)) x1000 bt227.2.1 bt227.2.2) else (none))) else (none)) else (none)) else (spec_l27DrawState.l0 k x3 x4 (wrap64 (x5 + 1)) x1000 bt223.2.1 bt223.2.2))) else (some (x4, x1001, x1002))
def spec_l27DrawState.f (k : Nat) (s0_0 : List Int) (s0_1 : Int) (s0_2 : Int) : Option ((List (S71)) × Int × Int) := spec_l27DrawState.l0 k (([(⟨#[97]⟩ : ByteArray), (⟨#[98]⟩ : ByteArray), (⟨#[99]⟩ : ByteArray), (⟨#[100]⟩ : ByteArray), (⟨#[101]⟩ : ByteArray)] : List ByteArray)) (([] : List (S71))) 0 s0_0 s0_1 s0_2
theorem spec_l27DrawState.mono_l : ∀ k, (∀ y0 y1 y2 y3 y4 y5, LeO (spec_l27DrawState.l0 k y0 y1 y2 y3 y4 y5) (spec_l27DrawState.l0 (k + 1) y0 y1 y2 y3 y4 y5))
 | 0 => fun _ _ _ _ _ _ r h => by simp [spec_l27DrawState.l0] at h
 | k + 1 => by
  have ih0 := spec_l27DrawState.mono_l k
  ·
   intro y0 y1 y2 y3 y4 y5
   unfold spec_l27DrawState.l0
   repeat' first
   | (with_reducible exact ih0 _ _ _ _ _ _)
   | (with_reducible exact LeO.refl _)
   | (with_reducible exact LeO.none _)
   | (with_reducible refine LeO.ite ?_ ?_)
   | (with_reducible refine LeO.bind ?_ (fun _ => ?_))
   | exact ih0 _ _ _ _ _ _
   | exact LeO.none _
   | refine LeO.ite ?_ ?_
   | refine LeO.bind ?_ (fun _ => ?_)
theorem spec_l27DrawState.mono : ∀ a0 a1 a2 k, LeO (spec_l27DrawState.f k a0 a1 a2) (spec_l27DrawState.f (k + 1) a0 a1 a2) := by
 intro a0 a1 a2 k
 have ih0 := spec_l27DrawState.mono_l k
 unfold spec_l27DrawState.f
 repeat' first
   | (with_reducible exact ih0 _ _ _ _ _ _)
   | (with_reducible exact LeO.refl _)
   | (with_reducible exact LeO.none _)
   | (with_reducible refine LeO.ite ?_ ?_)
   | (with_reducible refine LeO.bind ?_ (fun _ => ?_))
   | exact ih0 _ _ _ _ _ _
   | exact LeO.none _
   | refine LeO.ite ?_ ?_
   | refine LeO.bind ?_ (fun _ => ?_)
def spec_l27DrawState.T7 : Bool × List (List Nat × List Nat) := (true, [([], []), ([], []), ([], []), ([1, 2], [1, 2]), ([3], [3]), ([], []), ([5], [5]), ([4, 6], [4, 6]), ([7], [7]), ([0, 8, 6], [0, 8]), ([9, 9, 0, 1, 2, 3, 4, 5, 6, 7, 8, 9], [0, 9])])
def spec_l27DrawState.B7 : List Nat := [0, 0, 0, 6, 14, 0, 32, 126, 254, 511, 1023]
theorem spec_l27DrawState.tab7 : rtab .any (opsOf Try.f82 7) = spec_l27DrawState.T7 := by kernel_rfl
theorem spec_l27DrawState.bits7 : waitsOk spec_l27DrawState.T7.2 spec_l27DrawState.B7 = true := by kernel_rfl
set_option maxHeartbeats 8000000 in
set_option maxRecDepth 100000 in
theorem spec_l27DrawState.calls (k : Nat) (g : Nat) (s0_0 : List Int) (s0_1 : Int) (s0_2 : Int) (r1 : List (S71)) (r2 : Int) (r3 : Int) (w0 w : World) (hI : IsS135 w0 w g s0_0 s0_1 s0_2) (hB : Below w0.heap.size w0 w) (h : spec_l27DrawState.f k s0_0 s0_1 s0_2 = some (r1, r2, r3)) :
  Calls Try.prog 82 #[.pointer (some ⟨g, 0, none⟩)] w fun e w' => ∃ v0_ : Value, e = .returned (v0_) ∧ Kd.R k71 71 w' w.heap.size (fun _ => True) v0_ r1 ∧ IsS135 w0 w' g s0_0 r2 r3 ∧ Below w0.heap.size w0 w' ∧ KeepBut w w' g none := by
 have hu71 := Try.underlying71
 have HI0 := Aside0.mk hI
 have HK := Aside0.mk (KeepBut.refl w g none)
 have HL := Aside0.mk hB.size
 clear hI
 have HW0 := Aside0.mk hB.size
 have HB := Aside0.mk hB
 clear hB
 have H : (spec_l27DrawState.l0 k (([(⟨#[97]⟩ : ByteArray), (⟨#[98]⟩ : ByteArray), (⟨#[99]⟩ : ByteArray), (⟨#[100]⟩ : ByteArray), (⟨#[101]⟩ : ByteArray)] : List ByteArray)) (([] : List (S71))) 0 s0_0 s0_1 s0_2) = some (r1, r2, r3) := h
 clear h
 obtain ⟨y217, hy217⟩ : ∃ y_ : List ByteArray, y_ = (([(⟨#[97]⟩ : ByteArray), (⟨#[98]⟩ : ByteArray), (⟨#[99]⟩ : ByteArray), (⟨#[100]⟩ : ByteArray), (⟨#[101]⟩ : ByteArray)] : List ByteArray)) := ⟨_, rfl⟩
 replace H : (spec_l27DrawState.l0 k y217 (([] : List (S71))) 0 s0_0 s0_1 s0_2) = some (r1, r2, r3) := by first | (rw [hy217]; with_reducible exact H) | (have H2_ := (Option.bind_some _ _).symm.trans H; rw [hy217]; with_reducible exact H2_) | (have H2_ := (Option.bind_some _ _).symm.trans H; with_reducible exact H2_) | with_reducible exact H | (rw [hy217]; exact H) | exact H
 have Ny217 := Aside0.mk hy217
 clear hy217
 obtain ⟨y220, hy220⟩ : ∃ y_ : List (S71), y_ = (([] : List (S71))) := ⟨_, rfl⟩
 replace H : (spec_l27DrawState.l0 k y217 y220 0 s0_0 s0_1 s0_2) = some (r1, r2, r3) := by first | (rw [hy220]; with_reducible exact H) | (have H2_ := (Option.bind_some _ _).symm.trans H; rw [hy220]; with_reducible exact H2_) | (have H2_ := (Option.bind_some _ _).symm.trans H; with_reducible exact H2_) | with_reducible exact H | (rw [hy220]; exact H) | exact H
 have Ny220 := Aside0.mk hy220
 clear hy220
 have H' := Aside0.mk H
 clear H
 go_enter Try.func82, Try.ntmps82
 go_wp2_with (first | ((with_reducible refine gate_dst (N := 6) rfl ?_); refine Kd.R_lit Kd.string _ 9 ?hg (N := 6) ?hd (xs := ([(⟨#[97]⟩ : ByteArray), (⟨#[98]⟩ : ByteArray), (⟨#[99]⟩ : ByteArray), (⟨#[100]⟩ : ByteArray), (⟨#[101]⟩ : ByteArray)] : List ByteArray)) (inner := [.string (⟨#[97]⟩ : ByteArray), .string (⟨#[98]⟩ : ByteArray), .string (⟨#[99]⟩ : ByteArray), .string (⟨#[100]⟩ : ByteArray), .string (⟨#[101]⟩ : ByteArray)]) (ok := fun _ => True) (okp := fun _ => True) ?hr ?hp (fun _ hk => hk) trivial (Below.refl _ _) (Nat.le_refl _) (by simp) ?_; (case hd => rfl); (case hg => rfl); (case hr => first | (go_simp; done) | (go_simp; rfl)); (case hp => exact (Reps.one (show Kd.M Kd.string _ _ _ (⟨#[97]⟩ : ByteArray) [.string (⟨#[97]⟩ : ByteArray)] from rfl) (Reps.one (show Kd.M Kd.string _ _ _ (⟨#[98]⟩ : ByteArray) [.string (⟨#[98]⟩ : ByteArray)] from rfl) (Reps.one (show Kd.M Kd.string _ _ _ (⟨#[99]⟩ : ByteArray) [.string (⟨#[99]⟩ : ByteArray)] from rfl) (Reps.one (show Kd.M Kd.string _ _ _ (⟨#[100]⟩ : ByteArray) [.string (⟨#[100]⟩ : ByteArray)] from rfl) (Reps.one (show Kd.M Kd.string _ _ _ (⟨#[101]⟩ : ByteArray) [.string (⟨#[101]⟩ : ByteArray)] from rfl) (Reps.none _ _))))))); intro v218 w2 ho3 hb hg_ hnew_; clear hg_ hnew_; (first | rw [← Ny217.out] at ho3 | (simp only [Int.reduceToNat] at ho3; rw [← Ny217.out] at ho3)); have n0_ := Aside0.mk (Kd.R_lower ho3 (keep_size (w := w) (g := g) (row := none) (by repeat (first | (with_reducible first | exact HK.out | apply KeepBut.set_ | apply keep_drewN | apply keep_drew | apply keep_alloc) | exact HK.out)))); have n1_ := Aside0.mk (IsS135.below (by repeat (first | (with_reducible first | exact HI0.out | apply IsS135.alloc | apply IsS135.drewN | apply IsS135.drew | apply IsS135.set_1 | apply IsS135.set_2) | exact HI0.out)) hb); have n2_ := Aside0.mk (KeepBut.trans (by repeat (first | (with_reducible first | exact HK.out | apply KeepBut.set_ | apply keep_drewN | apply keep_drew | apply keep_alloc) | exact HK.out)) (KeepBut.of_below hb g none) (.inl rfl)); have n3_ := Aside0.mk (below_step (by repeat (first | (with_reducible first | exact HB.out | apply below_alloc | apply pw_below_drewN | apply below_drew1 | refine below_set ?_ (IsS135.ge HI0.out)) | exact HB.out)) hb); clear HI0; clear HK; clear HB; have HO219 := n0_; have HI0 := n1_; have HK := n2_; have HB := n3_; clear n0_ n1_ n2_ n3_; clear hb ho3) | ((with_reducible refine gate_dst (N := 7) rfl ?_); refine Kd.R_lit k71 _ 71 ?hg (N := 7) ?hd (xs := ([] : List (S71))) (inner := []) (ok := fun _ => True) (okp := fun _ => True) ?hr ?hp (fun _ hk => hk) trivial (Below.refl _ _) (Nat.le_refl _) (by simp) ?_; (case hd => rfl); (case hg => rfl); (case hr => first | (go_simp; done) | (go_simp; rfl)); (case hp => exact (Reps.none _ _)); intro v221 w4 ho5 hb hg_ hnew_; clear hg_ hnew_; (first | rw [← Ny220.out] at ho5 | (simp only [Int.reduceToNat] at ho5; rw [← Ny220.out] at ho5)); have n0_ := Aside0.mk (Kd.R_below (rA_ HO219.out) hb); have n1_ := Aside0.mk (Kd.R_lower ho5 (keep_size (w := w) (g := g) (row := none) (by repeat (first | (with_reducible first | exact HK.out | apply KeepBut.set_ | apply keep_drewN | apply keep_drew | apply keep_alloc) | exact HK.out)))); have n2_ := Aside0.mk (IsS135.below (by repeat (first | (with_reducible first | exact HI0.out | apply IsS135.alloc | apply IsS135.drewN | apply IsS135.drew | apply IsS135.set_1 | apply IsS135.set_2) | exact HI0.out)) hb); have n3_ := Aside0.mk (KeepBut.trans (by repeat (first | (with_reducible first | exact HK.out | apply KeepBut.set_ | apply keep_drewN | apply keep_drew | apply keep_alloc) | exact HK.out)) (KeepBut.of_below hb g none) (.inl rfl)); have n4_ := Aside0.mk (below_step (by repeat (first | (with_reducible first | exact HB.out | apply below_alloc | apply pw_below_drewN | apply below_drew1 | refine below_set ?_ (IsS135.ge HI0.out)) | exact HB.out)) hb); clear HO219; clear HI0; clear HK; clear HB; have HO219 := n0_; have HO222 := n1_; have HI0 := n2_; have HK := n3_; have HB := n4_; clear n0_ n1_ n2_ n3_ n4_; clear hb ho5))
 go_loopg [4, 5] k (fun kq v4 v5 w' => ∃ (x4_1 : List (S71)) (x5_1 : Int) (x1001_1 : Int) (x1002_1 : Int), v5 = .int .i64 x5_1 ∧ Aside0 (spec_l27DrawState.l0 kq y217 x4_1 x5_1 s0_0 x1001_1 x1002_1 = some (r1, r2, r3)) ∧ Aside0 (kq ≤ k) ∧ Aside0 (Kd.R Kd.string 9 w' w.heap.size (fun _ => True) v218 y217) ∧ Aside0 (Kd.R k71 71 w' w.heap.size (fun _ => True) v4 x4_1) ∧ Aside0 (IsS135 w0 w' g s0_0 x1001_1 x1002_1) ∧ Aside0 (KeepBut w w' g none) ∧ Aside0 (Below w0.heap.size w0 w'))
 case atStart => exact ⟨(y220), (0), (s0_1), (s0_2), rs_, H', ⟨Nat.le_refl _⟩, ⟨rA_ HO219.out⟩, ⟨rA_ HO222.out⟩, ⟨by repeat (first | (with_reducible first | exact HI0.out | apply IsS135.alloc | apply IsS135.drewN | apply IsS135.drew | apply IsS135.set_1 | apply IsS135.set_2) | exact HI0.out)⟩, ⟨by repeat (first | (with_reducible first | exact HK.out | apply KeepBut.set_ | apply keep_drewN | apply keep_drew | apply keep_alloc) | exact HK.out)⟩, ⟨by repeat (first | (with_reducible first | exact HB.out | apply below_alloc | apply pw_below_drewN | apply below_drew1 | refine below_set ?_ (IsS135.ge HI0.out)) | exact HB.out)⟩⟩
 case round =>
  clear H'
  try clear p2
  obtain ⟨x4_1, x5_1, x1001_1, x1002_1, rfl, HA, HK1, HO_3, HO_4, HI0, HK, HB⟩ := hrel
  cases gk with
  | zero => exact absurd HA.out (by simp [spec_l27DrawState.l0])
  | succ k1 =>
   have H := HA.out
   clear HA
   simp only [spec_l27DrawState.l0] at H
   by_cases c6 : x5_1 < 5
   ·
    rw [if_pos c6] at H
    have c6b0 : decide (x5_1 < 5) = true := decide_eq_true c6
    clear c6
    replace H := Option.bind_eq_some_iff.mp H
    obtain ⟨⟨t223, t224, t225⟩, A70, H⟩ := H
    replace H : (if t223 = true then (if 0 ≤ x5_1 then (if x5_1 < (y217.length : Int) then ((spec_l00Src_pick.f s0_0 t224 t225 1001).bind fun bt227 => (if x4_1.length < 5864062014805 then (spec_l27DrawState.l0 k1 y217 (x4_1 ++ [(⟨rdOf ByteArray.empty y217 x5_1, bt227.1⟩ : S71)]) (wrap64 (x5_1 + 1)) s0_0 bt227.2.1 bt227.2.2) else (none))) else (none)) else (none)) else (spec_l27DrawState.l0 k1 y217 x4_1 (wrap64 (x5_1 + 1)) s0_0 t224 t225)) = some (r1, r2, r3) := H
    have A7 := Aside0.mk A70
    clear A70
    by_cases c8 : t223 = true
    ·
     subst c8
     have H1 : (if 0 ≤ x5_1 then (if x5_1 < (y217.length : Int) then ((spec_l00Src_pick.f s0_0 t224 t225 1001).bind fun bt227 => (if x4_1.length < 5864062014805 then (spec_l27DrawState.l0 k1 y217 (x4_1 ++ [(⟨rdOf ByteArray.empty y217 x5_1, bt227.1⟩ : S71)]) (wrap64 (x5_1 + 1)) s0_0 bt227.2.1 bt227.2.2) else (none))) else (none)) else (none)) = some (r1, r2, r3) := by rw [if_pos rfl] at H; exact H
     clear H
     have H := H1
     clear H1
     by_cases c9 : 0 ≤ x5_1
     ·
      rw [if_pos c9] at H
      have c9b0 : decide (0 ≤ x5_1) = true := decide_eq_true c9
      clear c9
      by_cases c10 : x5_1 < (y217.length : Int)
      ·
       rw [if_pos c10] at H
       have c10b0 : decide (x5_1 < (y217.length : Int)) = true := decide_eq_true c10
       clear c10
       replace H := Option.bind_eq_some_iff.mp H
       obtain ⟨⟨t227, t228, t229⟩, A110, H⟩ := H
       replace H : (if x4_1.length < 5864062014805 then (spec_l27DrawState.l0 k1 y217 (x4_1 ++ [(⟨rdOf ByteArray.empty y217 x5_1, t227⟩ : S71)]) (wrap64 (x5_1 + 1)) s0_0 t228 t229) else (none)) = some (r1, r2, r3) := H
       have A11 := Aside0.mk A110
       clear A110
       by_cases c12 : x4_1.length < 5864062014805
       ·
        rw [if_pos c12] at H
        have LMc12 := Aside0.mk c12
        clear c12
        obtain ⟨y230, hy230⟩ : ∃ y_ : List (S71), y_ = (x4_1 ++ [(⟨rdOf ByteArray.empty y217 x5_1, t227⟩ : S71)]) := ⟨_, rfl⟩
        replace H : (spec_l27DrawState.l0 k1 y217 y230 (wrap64 (x5_1 + 1)) s0_0 t228 t229) = some (r1, r2, r3) := by first | (rw [hy230]; with_reducible exact H) | (have H2_ := (Option.bind_some _ _).symm.trans H; rw [hy230]; with_reducible exact H2_) | (have H2_ := (Option.bind_some _ _).symm.trans H; with_reducible exact H2_) | with_reducible exact H | (rw [hy230]; exact H) | exact H
        have Ny230 := Aside0.mk hy230
        clear hy230
        have H' := Aside0.mk H
        clear H
        try go_wp2_with (first | ((with_reducible refine gate_callee (f := 110) rfl ?_); refine goesL_ (some 13) rfl rfl Try.func110 (by kernel_rfl) rfl #[.pointer (some ⟨g, 0, none⟩), .int .i64 2] rfl mT_ ?_; (with_reducible refine (spec_l00Src_one.calls g s0_0 x1001_1 x1002_1 2 true t224 t225 w0 _ ?side1 ?side2 A7.out).mono ?_); (case side1 => repeat (first | (with_reducible first | exact HI0.out | apply IsS135.alloc | apply IsS135.drewN | apply IsS135.drew | apply IsS135.set_1 | apply IsS135.set_2) | exact HI0.out)); (case side2 => repeat (first | (with_reducible first | exact HB.out | apply below_alloc | apply pw_below_drewN | apply below_drew1 | refine below_set ?_ (IsS135.ge HI0.out)) | exact HB.out)); rintro e w13 ⟨rfl, hi, hb, hk⟩; refine ⟨_, rfl, ?_⟩; have n0_ := Aside0.mk (Kd.R_mono (Kd.R_keep (IsS135.apart (show IsS135 w0 _ g s0_0 x1001_1 x1002_1 from by repeat (first | (with_reducible first | exact HI0.out | apply IsS135.alloc | apply IsS135.drewN | apply IsS135.drew | apply IsS135.set_1 | apply IsS135.set_2) | exact HI0.out)) (rA_ HO_3.out) (by decide)) hk (fun _ h => h.2)) (fun _ h => h.1)); have n1_ := Aside0.mk (Kd.R_mono (Kd.R_keep (IsS135.apart (show IsS135 w0 _ g s0_0 x1001_1 x1002_1 from by repeat (first | (with_reducible first | exact HI0.out | apply IsS135.alloc | apply IsS135.drewN | apply IsS135.drew | apply IsS135.set_1 | apply IsS135.set_2) | exact HI0.out)) (rA_ HO_4.out) (by decide)) hk (fun _ h => h.2)) (fun _ h => h.1)); have n2_ := Aside0.mk (KeepBut.trans (by repeat (first | (with_reducible first | exact HK.out | apply KeepBut.set_ | apply keep_drewN | apply keep_drew | apply keep_alloc) | exact HK.out)) hk (.inl rfl)); have n3_ := Aside0.mk (hb); have n4_ := Aside0.mk (hi); clear HO_3; clear HO_4; clear HK; clear HB; clear HI0; have HO_3 := n0_; have HO_4 := n1_; have HK := n2_; have HB := n3_; have HI0 := n4_; clear n0_ n1_ n2_ n3_ n4_; (try clear hb); (try clear hb2); (try clear hk); (try clear hi)))
        have n0_ := Aside0.mk (Kd.R_drew HO_3.out)
        have n1_ := Aside0.mk (Kd.R_drew HO_4.out)
        have n2_ := Aside0.mk (IsS135.drew HI0.out)
        have n3_ := Aside0.mk (keep_drew HK.out)
        have n4_ := Aside0.mk (below_drew1 HB.out)
        clear HO_3
        clear HO_4
        clear HI0
        clear HK
        clear HB
        have HO_3 := n0_
        have HO_4 := n1_
        have HI0 := n2_
        have HK := n3_
        have HB := n4_
        clear n0_ n1_ n2_ n3_ n4_
        obtain ⟨Ao15, co15, eo15⟩ := Kd.R_slice HO_3.out
        (first | subst eo15 | (injection eo15 with f1_ f2_ f3_; have f4_ := f1_.symm; have f5_ := f3_.symm; clear f1_ f2_ f3_; subst f4_; subst f5_))
        have p226 : 0 ≤ (x5_1 : Int) := of_decide_eq_true as_
        have q226 : x5_1 < (y217.length : Int) := of_decide_eq_true as_
        obtain ⟨ad226, e226, hx226_0⟩ := Kd.at_string (Kd.R_reads' HO_3.out).2.2 x5_1 p226 q226
        cases e226
        replace p226 := eq_true p226
        replace q226 := eq_true q226
        refine start_ (n := 11) (S := fun w' => w'.cell? (ad226.add (x5_1).toNat) = some (.string (rdOf ByteArray.empty y217 x5_1))) (ds := [8, 9]) #[false, false, false, false, false, false, false, false, false, false, false] (by kernel_rfl) rfl rfl (hx226_0) (fun hHeld => ?_); refine with_tabW spec_l27DrawState.tab7 spec_l27DrawState.bits7 (fun HT_ HW_ => ?_)
        generalize w13.drew = w14 at HO_3 HO_4 HI0 HK HB hx226_0 hHeld ⊢
        refine pure_ (i := 0) (N := some 14) (v := ?_) (a' := ?_) #[true, false, false, false, false, false, false, false, false, false, false] rfl rfl (any_of HT_.out (by kernel_rfl)) (fun _ _ _ h => h) (Or.inl ⟨by rfl, ?_⟩) ?_ ?_
        rotate_left
        ·
         intro w'
         go_simp
         with_reducible rfl
        rotate_left
        ·
         simp only [Act.put, q1_, q2_, q3_, i64_w, i32_w]
         rfl
        refine pure_ (i := 1) (N := some 15) (v := ?_) (a' := ?_) #[true, true, false, false, false, false, false, false, false, false, false] rfl rfl (any_of HT_.out (by kernel_rfl)) (fun _ _ _ h => h) (Or.inl ⟨by rfl, ?_⟩) ?_ ?_
        rotate_left
        ·
         intro w'
         go_simp
         with_reducible rfl
        rotate_left
        ·
         simp only [Act.put, q1_, q2_, q3_, i64_w, i32_w]
         rfl
        refine pure_ (i := 2) (N := some 16) (v := ?_) (a' := ?_) #[true, true, true, false, false, false, false, false, false, false, false] rfl rfl (any_of HT_.out (by kernel_rfl)) (fun _ _ _ h => h) (Or.inl ⟨by rfl, ?_⟩) ?_ ?_
        rotate_left
        ·
         intro w'
         go_simp
         with_reducible rfl
        rotate_left
        ·
         simp only [Act.put, q1_, q2_, q3_, i64_w, i32_w]
         rfl
        refine pure_ (i := 3) (N := some 17) (v := ?_) (a' := ?_) #[true, true, true, true, false, false, false, false, false, false, false] rfl rfl (any_of HT_.out (by kernel_rfl)) (fun _ _ _ h => h) (Or.inl ⟨by rfl, ?_⟩) ?_ ?_
        rotate_left
        ·
         intro w'
         go_simp
         with_reducible rfl
        rotate_left
        ·
         simp only [Act.put, q1_, q2_, q3_, i64_w, i32_w]
         rfl
        refine pure_ (i := 5) (N := some 19) (v := ?_) (a' := ?_) #[true, true, true, true, false, true, false, false, false, false, false] rfl rfl (any_of HT_.out (by kernel_rfl)) (fun _ _ _ h => h) (Or.inl ⟨by rfl, ?_⟩) ?_ ?_
        rotate_left
        ·
         intro w'
         go_simp
         with_reducible rfl
        rotate_left
        ·
         simp only [Act.put, q1_, q2_, q3_, i64_w, i32_w]
         rfl
        refine take_ (i := 4) (N := some 18) (v := ?_) (a' := ?_) #[true, true, true, true, true, true, false, false, false, false, false] rfl rfl (take_ofW HT_.out HW_.out (by kernel_rfl)) (fun _ _ _ h => h) (Or.inl ⟨by rfl, ?_⟩) hHeld ?_ ?_
        rotate_left
        ·
         intro w' s0
         go_simp
         with_reducible rfl
        rotate_left
        ·
         simp only [Act.put, q1_, q2_, q3_, i64_w, i32_w]
         rfl
        refine one_ (i := 6) (N := some 20) #[true, true, true, true, true, true, true, false, false, false, false] rfl rfl (one_of HT_.out (by kernel_rfl)) (by decide) (fun K hK => ?_)
        refine goes_ Try.func111 (by kernel_rfl) rfl #[.pointer (some ⟨g, 0, none⟩), .int .i64 1001] (by rfl) rfl rfl mT_ ?_
        with_reducible refine (spec_l00Src_pick.calls g s0_0 t224 t225 1001 t227 t228 t229 w0 _ ?side1 ?side2 A11.out).mono ?_
        (case side1 => repeat (first | (with_reducible first | exact HI0.out | apply IsS135.alloc | apply IsS135.drewN | apply IsS135.drew | apply IsS135.set_1 | apply IsS135.set_2) | exact HI0.out))
        (case side2 => repeat (first | (with_reducible first | exact HB.out | apply below_alloc | apply pw_below_drewN | apply below_drew1 | refine below_set ?_ (IsS135.ge HI0.out)) | exact HB.out))
        rintro e w16 ⟨rfl, hi, hb, hk⟩
        have HS0_ := keep_cell hk (hHeld) (by first | (rw [add_block]; exact Kd.own_blk (IsS135.own_ne HI0.out HO_3.out (by decide))) | (show (Addr.add _ _).block ≠ _; rw [add_block]; exact Kd.own_blk (IsS135.own_ne HI0.out HO_3.out (by decide))) | exact Kd.own_blk (IsS135.own_ne HI0.out HO_3.out (by decide)))
        refine ⟨_, rfl, ?_⟩
        have n0_ := Aside0.mk (Kd.R_mono (Kd.R_keep (IsS135.apart (show IsS135 w0 _ g s0_0 t224 t225 from by repeat (first | (with_reducible first | exact HI0.out | apply IsS135.alloc | apply IsS135.drewN | apply IsS135.drew | apply IsS135.set_1 | apply IsS135.set_2) | exact HI0.out)) (rA_ HO_3.out) (by decide)) hk (fun _ h => h.2)) (fun _ h => h.1))
        have n1_ := Aside0.mk (Kd.R_mono (Kd.R_keep (IsS135.apart (show IsS135 w0 _ g s0_0 t224 t225 from by repeat (first | (with_reducible first | exact HI0.out | apply IsS135.alloc | apply IsS135.drewN | apply IsS135.drew | apply IsS135.set_1 | apply IsS135.set_2) | exact HI0.out)) (rA_ HO_4.out) (by decide)) hk (fun _ h => h.2)) (fun _ h => h.1))
        have n2_ := Aside0.mk (KeepBut.trans (by repeat (first | (with_reducible first | exact HK.out | apply KeepBut.set_ | apply keep_drewN | apply keep_drew | apply keep_alloc) | exact HK.out)) hk (.inl rfl))
        have n3_ := Aside0.mk (hb)
        have n4_ := Aside0.mk (hi)
        clear HO_3
        clear HO_4
        clear HK
        clear HB
        clear HI0
        have HO_3 := n0_
        have HO_4 := n1_
        have HK := n2_
        have HB := n3_
        have HI0 := n4_
        clear n0_ n1_ n2_ n3_ n4_
        (try clear hb)
        (try clear hb2)
        (try clear hk)
        (try clear hi)
        refine hK.out _ _ (HS0_) (fun hHeld => ?_)
        clear hK K
        refine norm_ (a' := ?_) ?_ ?_
        rotate_left
        ·
         show Act.put _ (some 20) _ = _
         simp only [Act.put, q1_, q2_, q3_, i64_w, i32_w]
         rfl
        refine pure_ (i := 7) (N := some 21) (v := ?_) (a' := ?_) #[true, true, true, true, true, true, true, true, false, false, false] rfl rfl (any_of HT_.out (by kernel_rfl)) (fun _ _ _ h => h) (Or.inl ⟨by rfl, ?_⟩) ?_ ?_
        rotate_left
        ·
         intro w'
         go_simp
         with_reducible rfl
        rotate_left
        ·
         simp only [Act.put, q1_, q2_, q3_, i64_w, i32_w]
         rfl
        refine last_ (i := 8) (N := some 22) #[true, true, true, true, true, true, true, true, true, false, false] rfl rfl (one_of HT_.out (by kernel_rfl)) (by decide) (fun K hK => ?_)
        refine value_ (w1 := ?_) (v := ?_) (by rfl) rfl ?_ ?_
        rotate_left 2
        ·
         go_simp
         constructor
         ·
          rfl
         ·
          rfl
        refine hK.out _ _ ?_
        clear hK K
        refine norm_ (a' := ?_) ?_ ?_
        rotate_left
        ·
         show Act.put _ (some 22) _ = _
         simp only [Act.put, q1_, q2_, q3_, i64_w, i32_w]
         rfl
        refine last_ (i := 9) (N := some 23) #[true, true, true, true, true, true, true, true, true, true, false] rfl rfl (one_of HT_.out (by kernel_rfl)) (by decide) (fun K hK => ?_)
        refine Kd.R_append_step k71 w.heap.size (by rfl) (.tmp 14) (.tmp 22) 26 71 (.agg #[(.string ⟨#[]⟩), (.int .i64 0)]) 24 rfl Try.underlying26 info71 rfl (by decide) (by omega) u4 x4_1 (⟨rdOf ByteArray.empty y217 x5_1, t227⟩ : S71) [.string (rdOf ByteArray.empty y217 x5_1), .int .i64 t227] (fun _ => True) (fun _ => False) rfl rfl ?aP (fun _ hk => hk.elim) ?aF ?aO (Below.refl _ _) ?aS ?aL ?_
        (case aP => exact k71_mkM _ _ _ (⟨rdOf ByteArray.empty y217 x5_1, t227⟩ : S71))
        (case aF => exact (fun _ _ => trivial))
        (case aO => exact (rA_ HO_4.out))
        (case aS => exact (keep_size (w := w) (g := g) (row := none) (by repeat (first | (with_reducible first | exact HK.out | apply KeepBut.set_ | apply keep_drewN | apply keep_drew | apply keep_alloc) | exact HK.out))))
        (case aL => have := LMc12.out; omega)
        intro v231 w17 ho hb hg hat
        rw [← Ny230.out] at ho
        have n0_ := Aside0.mk (Kd.R_over' (rA_ HO_3.out) (Kd.R_typed (rA_ HO_4.out)) (by decide) hg)
        have n1_ := Aside0.mk (IsS135.grown (by repeat (first | (with_reducible first | exact HI0.out | apply IsS135.alloc | apply IsS135.drewN | apply IsS135.drew | apply IsS135.set_1 | apply IsS135.set_2) | exact HI0.out)) hg (IsS135.own_ne HI0.out HO_4.out (by decide)))
        have n2_ := Aside0.mk (below_weaken (by repeat (first | (with_reducible first | exact HB.out | apply below_alloc | apply pw_below_drewN | apply below_drew1 | refine below_set ?_ (IsS135.ge HI0.out)) | exact HB.out)) HL.out hb)
        have n3_ := Aside0.mk (KeepBut.trans (by repeat (first | (with_reducible first | exact HK.out | apply KeepBut.set_ | apply keep_drewN | apply keep_drew | apply keep_alloc) | exact HK.out)) (KeepBut.of_grown hg g) (Kd.R_base2 HO_4.out))
        have n4_ := Aside0.mk (ho)
        clear HO_3
        clear HI0
        clear HB
        clear HK
        clear HO_4
        have HO_3 := n0_
        have HI0 := n1_
        have HB := n2_
        have HK := n3_
        have HO232 := n4_
        clear n0_ n1_ n2_ n3_ n4_
        clear ho hb hg hat
        refine hK.out _ _ ?_
        clear hK K
        refine norm_ (a' := ?_) ?_ ?_
        rotate_left
        ·
         show Act.put _ (some 23) _ = _
         simp only [Act.put, q1_, q2_, q3_, i64_w, i32_w]
         rfl
        refine pure_ (i := 10) (N := some 4) (v := ?_) (a' := ?_) #[true, true, true, true, true, true, true, true, true, true, true] rfl rfl (any_of HT_.out (by kernel_rfl)) (fun _ _ _ h => h) (Or.inl ⟨by rfl, ?_⟩) ?_ ?_
        rotate_left
        ·
         intro w'
         go_simp
         with_reducible rfl
        rotate_left
        ·
         simp only [Act.put, q1_, q2_, q3_, i64_w, i32_w]
         rfl
        refine done_ (done_of HT_.out (by kernel_rfl)) ?_
        try go_wp2
        go_roundg k1
        case measure => have := HK1.out; omega
        case rel => exact ⟨(y230), (wrap64 (x5_1 + 1)), (t228), (t229), rs_, H', ⟨by have := HK1.out; omega⟩, ⟨rA_ HO_3.out⟩, ⟨rA_ HO232.out⟩, ⟨by repeat (first | (with_reducible first | exact HI0.out | apply IsS135.alloc | apply IsS135.drewN | apply IsS135.drew | apply IsS135.set_1 | apply IsS135.set_2) | exact HI0.out)⟩, ⟨by repeat (first | (with_reducible first | exact HK.out | apply KeepBut.set_ | apply keep_drewN | apply keep_drew | apply keep_alloc) | exact HK.out)⟩, ⟨by repeat (first | (with_reducible first | exact HB.out | apply below_alloc | apply pw_below_drewN | apply below_drew1 | refine below_set ?_ (IsS135.ge HI0.out)) | exact HB.out)⟩⟩
       ·
        rw [if_neg c12] at H
        exact absurd H (by simp)
      ·
       rw [if_neg c10] at H
       exact absurd H (by simp)
     ·
      rw [if_neg c9] at H
      exact absurd H (by simp)
    ·
     replace c8 := Bool.eq_false_iff.mpr c8
     subst c8
     have H1 : (spec_l27DrawState.l0 k1 y217 x4_1 (wrap64 (x5_1 + 1)) s0_0 t224 t225) = some (r1, r2, r3) := by rw [if_neg (show ¬ (false = true) by decide)] at H; exact H
     clear H
     have H := H1
     clear H1
     have H' := Aside0.mk H
     clear H
     go_wp2_with (first | ((with_reducible refine gate_callee (f := 110) rfl ?_); refine goesL_ (some 13) rfl rfl Try.func110 (by kernel_rfl) rfl #[.pointer (some ⟨g, 0, none⟩), .int .i64 2] rfl mT_ ?_; (with_reducible refine (spec_l00Src_one.calls g s0_0 x1001_1 x1002_1 2 false t224 t225 w0 _ ?side1 ?side2 A7.out).mono ?_); (case side1 => repeat (first | (with_reducible first | exact HI0.out | apply IsS135.alloc | apply IsS135.drewN | apply IsS135.drew | apply IsS135.set_1 | apply IsS135.set_2) | exact HI0.out)); (case side2 => repeat (first | (with_reducible first | exact HB.out | apply below_alloc | apply pw_below_drewN | apply below_drew1 | refine below_set ?_ (IsS135.ge HI0.out)) | exact HB.out)); rintro e w18 ⟨rfl, hi, hb, hk⟩; refine ⟨_, rfl, ?_⟩; have n0_ := Aside0.mk (Kd.R_mono (Kd.R_keep (IsS135.apart (show IsS135 w0 _ g s0_0 x1001_1 x1002_1 from by repeat (first | (with_reducible first | exact HI0.out | apply IsS135.alloc | apply IsS135.drewN | apply IsS135.drew | apply IsS135.set_1 | apply IsS135.set_2) | exact HI0.out)) (rA_ HO_3.out) (by decide)) hk (fun _ h => h.2)) (fun _ h => h.1)); have n1_ := Aside0.mk (Kd.R_mono (Kd.R_keep (IsS135.apart (show IsS135 w0 _ g s0_0 x1001_1 x1002_1 from by repeat (first | (with_reducible first | exact HI0.out | apply IsS135.alloc | apply IsS135.drewN | apply IsS135.drew | apply IsS135.set_1 | apply IsS135.set_2) | exact HI0.out)) (rA_ HO_4.out) (by decide)) hk (fun _ h => h.2)) (fun _ h => h.1)); have n2_ := Aside0.mk (KeepBut.trans (by repeat (first | (with_reducible first | exact HK.out | apply KeepBut.set_ | apply keep_drewN | apply keep_drew | apply keep_alloc) | exact HK.out)) hk (.inl rfl)); have n3_ := Aside0.mk (hb); have n4_ := Aside0.mk (hi); clear HO_3; clear HO_4; clear HK; clear HB; clear HI0; have HO_3 := n0_; have HO_4 := n1_; have HK := n2_; have HB := n3_; have HI0 := n4_; clear n0_ n1_ n2_ n3_ n4_; (try clear hb); (try clear hb2); (try clear hk); (try clear hi)))
     go_roundg k1
     case measure => have := HK1.out; omega
     case rel => exact ⟨(x4_1), (wrap64 (x5_1 + 1)), (t224), (t225), rs_, H', ⟨by have := HK1.out; omega⟩, ⟨rA_ HO_3.out⟩, ⟨rA_ HO_4.out⟩, ⟨by repeat (first | (with_reducible first | exact HI0.out | apply IsS135.alloc | apply IsS135.drewN | apply IsS135.drew | apply IsS135.set_1 | apply IsS135.set_2) | exact HI0.out)⟩, ⟨by repeat (first | (with_reducible first | exact HK.out | apply KeepBut.set_ | apply keep_drewN | apply keep_drew | apply keep_alloc) | exact HK.out)⟩, ⟨by repeat (first | (with_reducible first | exact HB.out | apply below_alloc | apply pw_below_drewN | apply below_drew1 | refine below_set ?_ (IsS135.ge HI0.out)) | exact HB.out)⟩⟩
   ·
    rw [if_neg c6] at H
    have c6b0 : decide (x5_1 < 5) = false := decide_eq_false c6
    clear c6
    simp only [Option.some.injEq, Prod.mk.injEq] at H
    obtain ⟨rfl, rfl, rfl⟩ := H
    go_wp2
    go_ret
    exact ⟨_, er_, rA_ HO_4.out, by (try simp only [Int.add_zero]); repeat (first | (with_reducible first | exact HI0.out | apply IsS135.alloc | apply IsS135.drewN | apply IsS135.drew | apply IsS135.set_1 | apply IsS135.set_2) | exact HI0.out), by repeat (first | (with_reducible first | exact HB.out | apply below_alloc | apply pw_below_drewN | apply below_drew1 | refine below_set ?_ (IsS135.ge HI0.out)) | exact HB.out), by repeat (first | (with_reducible first | exact HK.out | apply KeepBut.set_ | apply keep_drewN | apply keep_drew | apply keep_alloc) | exact HK.out)⟩

/-! ### spec_R8State: function 34 -/
def spec_R8State.f (k : Nat) (l0 : List Int) : Option ((List (S71))) := (spec_l00From.f l0).bind fun bt233 => ((spec_l27DrawState.f k bt233.1 bt233.2.1 bt233.2.2).bind fun bt237 => (some bt237.1))
theorem spec_R8State.mono : ∀ a0 k, LeO (spec_R8State.f k a0) (spec_R8State.f (k + 1) a0) := by
 intro a0 k
 unfold spec_R8State.f
 repeat' first
   | (with_reducible exact spec_l27DrawState.mono _ _ _ _)
   | (with_reducible exact LeO.refl _)
   | (with_reducible exact LeO.none _)
   | (with_reducible refine LeO.ite ?_ ?_)
   | (with_reducible refine LeO.bind ?_ (fun _ => ?_))
   | exact spec_l27DrawState.mono _ _ _ _
   | exact LeO.none _
   | refine LeO.ite ?_ ?_
   | refine LeO.bind ?_ (fun _ => ?_)
set_option maxHeartbeats 8000000 in
set_option maxRecDepth 100000 in
theorem spec_R8State.calls (k : Nat) (A0 : Option Addr) (c0 : Nat) (l0 : List Int) (r : List (S71)) (w : World) (hr0 : Kd.C (Kd.int .u8) w A0 l0.length l0) (hc0 : l0.length ≤ c0) (h : spec_R8State.f k l0 = some r) :
  Calls Try.prog 34 #[.slice A0 l0.length c0] w fun e w' => ∃ v0_ : Value, e = .returned (v0_) ∧ Kd.R k71 71 w' w.heap.size (fun _ => True) v0_ r ∧ Below w.heap.size w w' := by
 have HR0 := Aside0.mk hr0
 have HC0 := Aside0.mk hc0
 clear hr0 hc0
 have HB := Aside0.mk (Below.refl w.heap.size w)
 have H : ((spec_l00From.f l0).bind fun bt233 => ((spec_l27DrawState.f k bt233.1 bt233.2.1 bt233.2.2).bind fun bt237 => (some bt237.1))) = some r := h
 clear h
 replace H := Option.bind_eq_some_iff.mp H
 obtain ⟨⟨t233, t234, t235⟩, A20, H⟩ := H
 replace H : ((spec_l27DrawState.f k t233 t234 t235).bind fun bt237 => (some bt237.1)) = some r := H
 have A2 := Aside0.mk A20
 clear A20
 replace H := Option.bind_eq_some_iff.mp H
 obtain ⟨⟨t237, t240, t241⟩, A30, H⟩ := H
 replace H : (some t237) = some r := H
 have A3 := Aside0.mk A30
 clear A30
 obtain rfl := Option.some.inj H
 go_enter Try.func34, Try.ntmps34
 go_wp2_with (first | ((with_reducible refine gate_callee (f := 81) rfl ?_); refine goesL_ (some 5) rfl rfl Try.func81 (by kernel_rfl) rfl #[.slice A0 l0.length c0] rfl mT_ ?_; (with_reducible refine (spec_l00From.calls _ _ l0 t233 t234 t235 w _ ?side1 ?side2 ?side3 A2.out).mono ?_); (case side1 => repeat (first | (with_reducible first | exact HB.out | apply below_alloc | apply pw_below_drewN | apply below_drew1) | exact HB.out)); (case side2 => exact HR0.out); (case side3 => exact HC0.out); rintro e w4 ⟨g236, rfl, hi, hb, hb2⟩; refine ⟨_, rfl, ?_⟩; have n0_ := Aside0.mk (hb); have n1_ := Aside0.mk (hi); clear HB; have HB := n0_; have HI236 := n1_; clear n0_ n1_; (try clear hb); (try clear hb2); (try clear hk); (try clear hi)) | ((with_reducible refine gate_callee (f := 82) rfl ?_); refine goesL_ (some 7) rfl rfl Try.func82 (by kernel_rfl) rfl #[.pointer (some ⟨g236, 0, none⟩)] rfl mT_ ?_; (with_reducible refine (spec_l27DrawState.calls k g236 t233 t234 t235 t237 t240 t241 w _ ?side1 ?side2 A3.out).mono ?_); (case side1 => repeat (first | (with_reducible first | exact HI236.out | apply IsS135.alloc | apply IsS135.drewN | apply IsS135.drew | apply IsS135.set_1 | apply IsS135.set_2) | exact HI236.out)); (case side2 => repeat (first | (with_reducible first | exact HB.out | apply below_alloc | apply pw_below_drewN | apply below_drew1 | refine below_set ?_ (IsS135.ge HI236.out)) | exact HB.out)); rintro e w5 ⟨v238, rfl, ho0, hi, hb, hk⟩; refine ⟨_, rfl, ?_⟩; have n0_ := Aside0.mk (Kd.R_lower ho0 (below_size (by repeat (first | (with_reducible first | exact HB.out | apply below_alloc | apply pw_below_drewN | apply below_drew1 | refine below_set ?_ (IsS135.ge HI236.out)) | exact HB.out)))); have n1_ := Aside0.mk (hb); have n2_ := Aside0.mk (hi); clear HB; clear HI236; have HO239 := n0_; have HB := n1_; have HI236 := n2_; clear n0_ n1_ n2_; (try clear hb); (try clear hb2); (try clear hk); (try clear hi); (try clear ho0)))
 go_ret
 exact ⟨_, er_, rA_ HO239.out, by repeat (first | (with_reducible first | exact HB.out | apply below_alloc | apply pw_below_drewN | apply below_drew1 | refine below_set ?_ (IsS135.ge HI236.out)) | exact HB.out)⟩

/-! ### spec_l27Set: function 46 -/
mutual
def spec_l27Set.l0 : Nat → List (S71) → List (S71) → Bool → Int → ByteArray → Int → Option ((List (S71)))
 | 0, _, _, _, _, _, _ => none
 | k + 1, x0, x5, x6, x7, x243000, x243001 => if x7 < (x0.length : Int) then (if x6 = true then (spec_l27Set.j1 k x0 x5 x6 x7 false x243000 x243001) else (if 0 ≤ x7 then (spec_l27Set.j1 k x0 x5 x6 x7 (!(Op.bytesLess (((rd_T71 x0 x7).f0).toList) x243000.toList)) x243000 x243001) else (none))) else (if x6 = true then (some x5) else (if x5.length < 5864062014805 then (some (x5 ++ [(⟨x243000, x243001⟩ : S71)])) else (none)))
def spec_l27Set.j1 : Nat → List (S71) → List (S71) → Bool → Int → Bool → ByteArray → Int → Option ((List (S71)))
 | 0, _, _, _, _, _, _, _ => none
 | k + 1, x0, x5, x6, x7, x26, x243000, x243001 => if x26 = true then (if x5.length < 5864062014805 then ((some (x5 ++ [(⟨x243000, x243001⟩ : S71)] : List (S71))).bind fun y250 => (if 0 ≤ x7 then (if x7 < (x0.length : Int) then (if ((rd_T71 x0 x7).f0).toList = x243000.toList then (spec_l27Set.l0 k x0 y250 true (wrap64 (x7 + 1)) x243000 x243001) else (if y250.length < 5864062014805 then (spec_l27Set.l0 k x0 (y250 ++ [(⟨(rd_T71 x0 x7).f0, (rd_T71 x0 x7).f1⟩ : S71)]) true (wrap64 (x7 + 1)) x243000 x243001) else (none))) else (none)) else (none))) else (none)) else (if 0 ≤ x7 then (if x7 < (x0.length : Int) then (if ((rd_T71 x0 x7).f0).toList = x243000.toList then (spec_l27Set.l0 k x0 x5 x6 (wrap64 (x7 + 1)) x243000 x243001) else (if x5.length < 5864062014805 then (spec_l27Set.l0 k x0 (x5 ++ [(⟨(rd_T71 x0 x7).f0, (rd_T71 x0 x7).f1⟩ : S71)]) x6 (wrap64 (x7 + 1)) x243000 x243001) else (none))) else (none)) else (none))
end
def spec_l27Set.f (k : Nat) (l0 : List (S71)) (a1_0 : ByteArray) (a1_1 : Int) : Option ((List (S71))) := spec_l27Set.l0 k l0 (([] : List (S71))) false 0 a1_0 a1_1
theorem spec_l27Set.mono_l : ∀ k, (∀ y0 y1 y2 y3 y4 y5, LeO (spec_l27Set.l0 k y0 y1 y2 y3 y4 y5) (spec_l27Set.l0 (k + 1) y0 y1 y2 y3 y4 y5)) ∧ (∀ y0 y1 y2 y3 y4 y5 y6, LeO (spec_l27Set.j1 k y0 y1 y2 y3 y4 y5 y6) (spec_l27Set.j1 (k + 1) y0 y1 y2 y3 y4 y5 y6))
 | 0 => ⟨fun _ _ _ _ _ _ r h => by simp [spec_l27Set.l0] at h, fun _ _ _ _ _ _ _ r h => by simp [spec_l27Set.j1] at h⟩
 | k + 1 => by
  obtain ⟨ih0, ih1⟩ := spec_l27Set.mono_l k
  refine ⟨?_, ?_⟩
  ·
   intro y0 y1 y2 y3 y4 y5
   unfold spec_l27Set.l0
   repeat' first
   | (with_reducible exact ih0 _ _ _ _ _ _)
   | (with_reducible exact ih1 _ _ _ _ _ _ _)
   | (with_reducible exact LeO.refl _)
   | (with_reducible exact LeO.none _)
   | (with_reducible refine LeO.ite ?_ ?_)
   | (with_reducible refine LeO.bind ?_ (fun _ => ?_))
   | exact ih0 _ _ _ _ _ _
   | exact ih1 _ _ _ _ _ _ _
   | exact LeO.none _
   | refine LeO.ite ?_ ?_
   | refine LeO.bind ?_ (fun _ => ?_)
  ·
   intro y0 y1 y2 y3 y4 y5 y6
   unfold spec_l27Set.j1
   repeat' first
   | (with_reducible exact ih0 _ _ _ _ _ _)
   | (with_reducible exact ih1 _ _ _ _ _ _ _)
   | (with_reducible exact LeO.refl _)
   | (with_reducible exact LeO.none _)
   | (with_reducible refine LeO.ite ?_ ?_)
   | (with_reducible refine LeO.bind ?_ (fun _ => ?_))
   | exact ih0 _ _ _ _ _ _
   | exact ih1 _ _ _ _ _ _ _
   | exact LeO.none _
   | refine LeO.ite ?_ ?_
   | refine LeO.bind ?_ (fun _ => ?_)
theorem spec_l27Set.mono : ∀ a0 a1 a2 k, LeO (spec_l27Set.f k a0 a1 a2) (spec_l27Set.f (k + 1) a0 a1 a2) := by
 intro a0 a1 a2 k
 obtain ⟨ih0, ih1⟩ := spec_l27Set.mono_l k
 unfold spec_l27Set.f
 repeat' first
   | (with_reducible exact ih0 _ _ _ _ _ _)
   | (with_reducible exact ih1 _ _ _ _ _ _ _)
   | (with_reducible exact LeO.refl _)
   | (with_reducible exact LeO.none _)
   | (with_reducible refine LeO.ite ?_ ?_)
   | (with_reducible refine LeO.bind ?_ (fun _ => ?_))
   | exact ih0 _ _ _ _ _ _
   | exact ih1 _ _ _ _ _ _ _
   | exact LeO.none _
   | refine LeO.ite ?_ ?_
   | refine LeO.bind ?_ (fun _ => ?_)
set_option maxHeartbeats 8000000 in
set_option maxRecDepth 100000 in
theorem spec_l27Set.calls (k : Nat) (A0 : Option Addr) (c0 : Nat) (l0 : List (S71)) (a1_0 : ByteArray) (a1_1 : Int) (r : List (S71)) (w : World) (hr0 : Kd.C k71 w A0 l0.length l0) (hc0 : l0.length ≤ c0) (h : spec_l27Set.f k l0 a1_0 a1_1 = some r) :
  Calls Try.prog 46 #[.slice A0 l0.length c0, .agg #[.string a1_0, .int .i64 a1_1]] w fun e w' => ∃ v0_ : Value, e = .returned (v0_) ∧ Kd.R k71 71 w' w.heap.size (fun _ => True) v0_ r ∧ Below w.heap.size w w' := by
 have hu71 := Try.underlying71
 have HR0 := Aside0.mk hr0
 have HC0 := Aside0.mk hc0
 clear hr0 hc0
 have HB := Aside0.mk (Below.refl w.heap.size w)
 have H : (spec_l27Set.l0 k l0 (([] : List (S71))) false 0 a1_0 a1_1) = some r := h
 clear h
 obtain ⟨y243, hy243⟩ : ∃ y_ : List (S71), y_ = (([] : List (S71))) := ⟨_, rfl⟩
 replace H : (spec_l27Set.l0 k l0 y243 false 0 a1_0 a1_1) = some r := by first | (rw [hy243]; with_reducible exact H) | (have H2_ := (Option.bind_some _ _).symm.trans H; rw [hy243]; with_reducible exact H2_) | (have H2_ := (Option.bind_some _ _).symm.trans H; with_reducible exact H2_) | with_reducible exact H | (rw [hy243]; exact H) | exact H
 have Ny243 := Aside0.mk hy243
 clear hy243
 have H' := Aside0.mk H
 clear H
 go_enter Try.func46, Try.ntmps46
 go_wp2_with (first | ((with_reducible refine gate_dst (N := 3) rfl ?_); refine box_event ?hg (N := 3) ?hd (cs := #[.string a1_0, .int .i64 a1_1]) (t := 71) ?hr ?_; (case hd => rfl); (case hg => rfl); (case hr => first | (go_simp; done) | (go_simp; rfl)); intro gb242 hg w3 hbox hb; have n0_ := Aside0.mk (below_step bB_ hb); have n1_ := Aside0.mk (hbox); have n2_ := Aside0.mk ((by rw [hg]; exact (below_size bB_) : w.heap.size ≤ gb242)); have n3_ := Aside0.mk ((by rw [hg]; exact (below_size bB_) : w.heap.size ≤ gb242)); clear HB; have HB := n0_; have BK242 := n1_; have GW242 := n2_; have GE242 := n3_; clear n0_ n1_ n2_ n3_; clear hb hbox hg) | ((with_reducible refine gate_dst (N := 8) rfl ?_); refine Kd.R_lit k71 _ 71 ?hg (N := 8) ?hd (xs := ([] : List (S71))) (inner := []) (ok := fun _ => True) (okp := fun _ => True) ?hr ?hp (fun _ hk => hk) trivial (Below.refl _ _) (Nat.le_refl _) (by simp) ?_; (case hd => rfl); (case hg => rfl); (case hr => first | (go_simp; done) | (go_simp; rfl)); (case hp => exact (Reps.none _ _)); intro v244 w4 ho5 hb hg_ hnew_; clear hg_ hnew_; (first | rw [← Ny243.out] at ho5 | (simp only [Int.reduceToNat] at ho5; rw [← Ny243.out] at ho5)); have n0_ := Aside0.mk (Kd.R_lower (Kd.R_newB ho5 (g := gb242) (o := .cells #[.string a1_0, .int .i64 a1_1] 71 (0, 0)) (bK_ BK242.out)) (below_size (bC_ GE242.out))); have n1_ := Aside0.mk (blk_below (g := gb242) (o := .cells #[.string a1_0, .int .i64 a1_1] 71 (0, 0)) (bK_ BK242.out) hb); have n2_ := Aside0.mk (below_step (bC_ GE242.out) hb); clear BK242; clear HB; have HO245 := n0_; have BK242 := n1_; have HB := n2_; clear n0_ n1_ n2_; clear hb ho5))
 repeat (go_quiet (first | ((with_reducible refine gate_dst (N := 3) rfl ?_); refine box_event ?hg (N := 3) ?hd (cs := #[.string a1_0, .int .i64 a1_1]) (t := 71) ?hr ?_; (case hd => rfl); (case hg => rfl); (case hr => first | (go_simp; done) | (go_simp; rfl)); intro gb242 hg w3 hbox hb; have n0_ := Aside0.mk (below_step bB_ hb); have n1_ := Aside0.mk (hbox); have n2_ := Aside0.mk ((by rw [hg]; exact (below_size bB_) : w.heap.size ≤ gb242)); have n3_ := Aside0.mk ((by rw [hg]; exact (below_size bB_) : w.heap.size ≤ gb242)); clear HB; have HB := n0_; have BK242 := n1_; have GW242 := n2_; have GE242 := n3_; clear n0_ n1_ n2_ n3_; clear hb hbox hg) | ((with_reducible refine gate_dst (N := 8) rfl ?_); refine Kd.R_lit k71 _ 71 ?hg (N := 8) ?hd (xs := ([] : List (S71))) (inner := []) (ok := fun _ => True) (okp := fun _ => True) ?hr ?hp (fun _ hk => hk) trivial (Below.refl _ _) (Nat.le_refl _) (by simp) ?_; (case hd => rfl); (case hg => rfl); (case hr => first | (go_simp; done) | (go_simp; rfl)); (case hp => exact (Reps.none _ _)); intro v244 w4 ho5 hb hg_ hnew_; clear hg_ hnew_; (first | rw [← Ny243.out] at ho5 | (simp only [Int.reduceToNat] at ho5; rw [← Ny243.out] at ho5)); have n0_ := Aside0.mk (Kd.R_lower (Kd.R_newB ho5 (g := gb242) (o := .cells #[.string a1_0, .int .i64 a1_1] 71 (0, 0)) (bK_ BK242.out)) (below_size (bC_ GE242.out))); have n1_ := Aside0.mk (blk_below (g := gb242) (o := .cells #[.string a1_0, .int .i64 a1_1] 71 (0, 0)) (bK_ BK242.out) hb); have n2_ := Aside0.mk (below_step (bC_ GE242.out) hb); clear BK242; clear HB; have HO245 := n0_; have BK242 := n1_; have HB := n2_; clear n0_ n1_ n2_; clear hb ho5)); try go_wp2_with (first | ((with_reducible refine gate_dst (N := 3) rfl ?_); refine box_event ?hg (N := 3) ?hd (cs := #[.string a1_0, .int .i64 a1_1]) (t := 71) ?hr ?_; (case hd => rfl); (case hg => rfl); (case hr => first | (go_simp; done) | (go_simp; rfl)); intro gb242 hg w3 hbox hb; have n0_ := Aside0.mk (below_step bB_ hb); have n1_ := Aside0.mk (hbox); have n2_ := Aside0.mk ((by rw [hg]; exact (below_size bB_) : w.heap.size ≤ gb242)); have n3_ := Aside0.mk ((by rw [hg]; exact (below_size bB_) : w.heap.size ≤ gb242)); clear HB; have HB := n0_; have BK242 := n1_; have GW242 := n2_; have GE242 := n3_; clear n0_ n1_ n2_ n3_; clear hb hbox hg) | ((with_reducible refine gate_dst (N := 8) rfl ?_); refine Kd.R_lit k71 _ 71 ?hg (N := 8) ?hd (xs := ([] : List (S71))) (inner := []) (ok := fun _ => True) (okp := fun _ => True) ?hr ?hp (fun _ hk => hk) trivial (Below.refl _ _) (Nat.le_refl _) (by simp) ?_; (case hd => rfl); (case hg => rfl); (case hr => first | (go_simp; done) | (go_simp; rfl)); (case hp => exact (Reps.none _ _)); intro v244 w4 ho5 hb hg_ hnew_; clear hg_ hnew_; (first | rw [← Ny243.out] at ho5 | (simp only [Int.reduceToNat] at ho5; rw [← Ny243.out] at ho5)); have n0_ := Aside0.mk (Kd.R_lower (Kd.R_newB ho5 (g := gb242) (o := .cells #[.string a1_0, .int .i64 a1_1] 71 (0, 0)) (bK_ BK242.out)) (below_size (bC_ GE242.out))); have n1_ := Aside0.mk (blk_below (g := gb242) (o := .cells #[.string a1_0, .int .i64 a1_1] 71 (0, 0)) (bK_ BK242.out) hb); have n2_ := Aside0.mk (below_step (bC_ GE242.out) hb); clear BK242; clear HB; have HO245 := n0_; have BK242 := n1_; have HB := n2_; clear n0_ n1_ n2_; clear hb ho5)))
 go_loopg [5, 6, 7] k (fun kq v5 v6 v7 w' => ∃ (x5_1 : List (S71)) (x6_1 : Bool) (x7_1 : Int), v6 = .bool x6_1 ∧ v7 = .int .i64 x7_1 ∧ Aside0 (spec_l27Set.l0 kq l0 x5_1 x6_1 x7_1 a1_0 a1_1 = some r) ∧ Aside0 (kq ≤ k) ∧ Aside0 (Kd.R k71 71 w' w.heap.size (fun k_ => k_ ≠ gb242) v5 x5_1) ∧ Aside0 (w'.heap[gb242]? = some (.cells #[.string a1_0, .int .i64 a1_1] 71 (0, 0))) ∧ Aside0 (Below w.heap.size w w'))
 case atStart => exact ⟨(y243), (false), (0), rs_, rs_, H', ⟨Nat.le_refl _⟩, ⟨by (with_reducible repeat (first | apply Kd.R_alloc | apply Kd.R_drewN | apply Kd.R_drew)); exact Kd.R_mono HO245.out (fun _ hk => hk.2)⟩, ⟨bK_ BK242.out⟩, ⟨bC_ GE242.out⟩⟩
 case round =>
  clear H'
  try clear p2
  try clear c4
  obtain ⟨x5_1, x6_1, x7_1, rfl, rfl, HA, HK1, HO_5, BK242, HB⟩ := hrel
  cases gk with
  | zero => exact absurd HA.out (by simp [spec_l27Set.l0])
  | succ k1 =>
   have H := HA.out
   clear HA
   simp only [spec_l27Set.l0] at H
   by_cases c6 : x7_1 < (l0.length : Int)
   ·
    rw [if_pos c6] at H
    have c6b0 : decide (x7_1 < (l0.length : Int)) = true := decide_eq_true c6
    clear c6
    have HC7 := Aside0.mk H
    clear H
    go_upto_region 6 with (fail)
    repeat (go_quiet (fail); go_upto_region 6 with (fail))
    go_cut [26] (fun v26 wc => ∃ (kq : Nat) (x26_6 : Bool), v26 = .bool x26_6 ∧ Aside0 (spec_l27Set.j1 kq l0 x5_1 x6_1 x7_1 x26_6 a1_0 a1_1 = some r) ∧ Aside0 (kq ≤ k1) ∧ Aside0 (Kd.R k71 71 wc w.heap.size (fun k_ => k_ ≠ gb242) u5 x5_1) ∧ Aside0 (wc.heap[gb242]? = some (.cells #[.string a1_0, .int .i64 a1_1] 71 (0, 0))) ∧ Aside0 (Below w.heap.size w wc))
    case first =>
     have H := HC7.out
     clear HC7
     by_cases c8 : x6_1 = true
     ·
      subst c8
      have H1 : (spec_l27Set.j1 k1 l0 x5_1 true x7_1 false a1_0 a1_1) = some r := by rw [if_pos rfl] at H; exact H
      clear H
      have H := H1
      clear H1
      have H' := Aside0.mk H
      clear H
      go_wp2
      repeat (go_quiet (fail); try go_wp2)
      go_meet
      case rel => exact ⟨_, (false), rs_, H', ⟨by have := HK1.out; first | omega | exact Nat.le_refl _⟩, ⟨rA_ HO_5.out⟩, ⟨bK_ BK242.out⟩, ⟨bC_ GE242.out⟩⟩
     ·
      replace c8 := Bool.eq_false_iff.mpr c8
      subst c8
      have H1 : (if 0 ≤ x7_1 then (spec_l27Set.j1 k1 l0 x5_1 false x7_1 (!(Op.bytesLess (((rd_T71 l0 x7_1).f0).toList) a1_0.toList)) a1_0 a1_1) else (none)) = some r := by rw [if_neg (show ¬ (false = true) by decide)] at H; exact H
      clear H
      have H := H1
      clear H1
      by_cases c9 : 0 ≤ x7_1
      ·
       rw [if_pos c9] at H
       have c9b0 : decide (0 ≤ x7_1) = true := decide_eq_true c9
       clear c9
       (first | rw [c9b0] | (simp only [i64_w, i32_w]; rw [c9b0]) | skip)
       have H' := Aside0.mk H
       clear H
       have p249 : 0 ≤ (x7_1 : Int) := of_decide_eq_true as_
       have q249 : x7_1 < (l0.length : Int) := of_decide_eq_true as_
       obtain ⟨ad249, e249, hx249_0, hx249_1⟩ := at_T71 HR0.out x7_1 p249 q249
       cases e249
       replace hx249_0 := (HB.out.cell (World.block_lt_of_cell? w _ hx249_0)).trans hx249_0
       replace hx249_1 := (HB.out.cell (World.block_lt_of_cell? w _ hx249_1)).trans hx249_1
       replace p249 := eq_true p249
       replace q249 := eq_true q249
       have hcz10_0 : wr.cell? ⟨gb242, 0, none⟩ = some (.string a1_0) := (blk_cell BK242.out 0).trans rfl
       have hcz10_1 : wr.cell? ⟨gb242, 1, none⟩ = some (.int .i64 a1_1) := (blk_cell BK242.out 1).trans rfl
       have hfz10_0 := blk_frozen BK242.out 0
       have hfz10_1 := blk_frozen BK242.out 1
       go_wp2
       repeat (go_quiet (fail); try go_wp2)
       go_meet
       case rel => exact ⟨_, (!(Op.bytesLess (((rd_T71 l0 x7_1).f0).toList) a1_0.toList)), rs_, H', ⟨by have := HK1.out; first | omega | exact Nat.le_refl _⟩, ⟨rA_ HO_5.out⟩, ⟨bK_ BK242.out⟩, ⟨bC_ GE242.out⟩⟩
      ·
       rw [if_neg c9] at H
       exact absurd H (by simp)
    case rest =>
     clear HC7
     try clear p2
     try clear q2
     try clear hx2
     try clear c4
     try clear c6
     try clear c6b0
     try clear c8
     try clear c9
     try clear c9b0
     try clear hcz10_0
     try clear hcz10_1
     try clear hfz10_0
     try clear hfz10_1
     try clear hx249_0
     try clear hx249_1
     try clear p2
     try clear p249
     try clear q249
     obtain ⟨kq, x26_6, rfl, HA, HJ6, HO_5, BK242, HB⟩ := hcut
     cases kq with
     | zero => exact absurd HA.out (by simp [spec_l27Set.j1])
     | succ kj6 =>
      have H := HA.out
      clear HA
      simp only [spec_l27Set.j1] at H
      by_cases c11 : x26_6 = true
      ·
       subst c11
       have H1 : (if x5_1.length < 5864062014805 then ((some (x5_1 ++ [(⟨a1_0, a1_1⟩ : S71)] : List (S71))).bind fun y250 => (if 0 ≤ x7_1 then (if x7_1 < (l0.length : Int) then (if ((rd_T71 l0 x7_1).f0).toList = a1_0.toList then (spec_l27Set.l0 kj6 l0 y250 true (wrap64 (x7_1 + 1)) a1_0 a1_1) else (if y250.length < 5864062014805 then (spec_l27Set.l0 kj6 l0 (y250 ++ [(⟨(rd_T71 l0 x7_1).f0, (rd_T71 l0 x7_1).f1⟩ : S71)]) true (wrap64 (x7_1 + 1)) a1_0 a1_1) else (none))) else (none)) else (none))) else (none)) = some r := by rw [if_pos rfl] at H; exact H
       clear H
       have H := H1
       clear H1
       by_cases c12 : x5_1.length < 5864062014805
       ·
        rw [if_pos c12] at H
        have LMc12 := Aside0.mk c12
        clear c12
        obtain ⟨y250, hy250⟩ : ∃ y_ : List (S71), y_ = (x5_1 ++ [(⟨a1_0, a1_1⟩ : S71)]) := ⟨_, rfl⟩
        replace H : (if 0 ≤ x7_1 then (if x7_1 < (l0.length : Int) then (if ((rd_T71 l0 x7_1).f0).toList = a1_0.toList then (spec_l27Set.l0 kj6 l0 y250 true (wrap64 (x7_1 + 1)) a1_0 a1_1) else (if y250.length < 5864062014805 then (spec_l27Set.l0 kj6 l0 (y250 ++ [(⟨(rd_T71 l0 x7_1).f0, (rd_T71 l0 x7_1).f1⟩ : S71)]) true (wrap64 (x7_1 + 1)) a1_0 a1_1) else (none))) else (none)) else (none)) = some r := by first | (rw [hy250]; with_reducible exact H) | (have H2_ := (Option.bind_some _ _).symm.trans H; rw [hy250]; with_reducible exact H2_) | (have H2_ := (Option.bind_some _ _).symm.trans H; with_reducible exact H2_) | with_reducible exact H | (rw [hy250]; exact H) | exact H
        have Ny250 := Aside0.mk hy250
        clear hy250
        by_cases c13 : 0 ≤ x7_1
        ·
         rw [if_pos c13] at H
         have c13b0 : decide (0 ≤ x7_1) = true := decide_eq_true c13
         clear c13
         by_cases c14 : x7_1 < (l0.length : Int)
         ·
          rw [if_pos c14] at H
          have c14b0 : decide (x7_1 < (l0.length : Int)) = true := decide_eq_true c14
          clear c14
          by_cases c15 : ((rd_T71 l0 x7_1).f0).toList = a1_0.toList
          ·
           rw [if_pos c15] at H
           have c15b0 : (((rd_T71 l0 x7_1).f0).toList == a1_0.toList) = true := beq_iff_eq.mpr c15
           have c15b1 : (((rd_T71 l0 x7_1).f0).toList != a1_0.toList) = false := bne_eq_false_iff_eq.mpr c15
           clear c15
           have H' := Aside0.mk H
           clear H
           have hcz16_0 : wc.cell? ⟨gb242, 0, none⟩ = some (.string a1_0) := (blk_cell BK242.out 0).trans rfl
           have hcz16_1 : wc.cell? ⟨gb242, 1, none⟩ = some (.int .i64 a1_1) := (blk_cell BK242.out 1).trans rfl
           have hfz16_0 := blk_frozen BK242.out 0
           have hfz16_1 := blk_frozen BK242.out 1
           go_wp2_with (first | ((with_reducible refine gate_builtin (b := .append) (xs := #[.tmp 27, .tmp 29]) rfl ?_); at_builtin; refine Kd.R_append k71 (w0 := w) w.heap.size rfl (.tmp 27) (.tmp 29) 26 71 (.agg #[(.string ⟨#[]⟩), (.int .i64 0)]) 24 rfl Try.underlying26 info71 rfl (by decide) (by omega) u5 x5_1 (⟨a1_0, a1_1⟩ : S71) [.string a1_0, .int .i64 a1_1] (fun k_ => k_ ≠ gb242) (fun _ => False) rfl rfl ?aP (fun _ hk => hk.elim) ?aF ?aO ?aB ?aS ?aL ?_; (case aP => exact k71_mkM _ _ _ (⟨a1_0, a1_1⟩ : S71)); (case aB => exact (bC_ GE242.out)); (case aF => exact (fun k_ hk => Kd.freshB (g := gb242) (o := .cells #[.string a1_0, .int .i64 a1_1] 71 (0, 0)) (bK_ BK242.out) k_ hk)); (case aO => exact (rA_ HO_5.out)); (case aS => exact (below_size (bC_ GE242.out))); (case aL => have := LMc12.out; omega); intro v251 w17 ho hb hg hat; rw [← Ny250.out] at ho; have n0_ := Aside0.mk (blk_grown (g := gb242) (o := .cells #[.string a1_0, .int .i64 a1_1] 71 (0, 0)) (bK_ BK242.out) hg (Kd.R_away HO_5.out (fun _ hk => hk))); have n1_ := Aside0.mk (hb); have n2_ := Aside0.mk (ho); clear BK242; clear HB; clear HO_5; have BK242 := n0_; have HB := n1_; have HO252 := n2_; clear n0_ n1_ n2_; clear ho hb hg hat; have p253 : 0 ≤ (x7_1 : Int) := of_decide_eq_true as_; have q253 : x7_1 < (l0.length : Int) := of_decide_eq_true as_; obtain ⟨ad253, e253, hx253_0, hx253_1⟩ := at_T71 HR0.out x7_1 p253 q253; cases e253; replace hx253_0 := (HB.out.cell (World.block_lt_of_cell? w _ hx253_0)).trans hx253_0; replace hx253_1 := (HB.out.cell (World.block_lt_of_cell? w _ hx253_1)).trans hx253_1; replace p253 := eq_true p253; replace q253 := eq_true q253; have hcz18_0 : w17.cell? ⟨gb242, 0, none⟩ = some (.string a1_0) := (blk_cell BK242.out 0).trans rfl; have hcz18_1 : w17.cell? ⟨gb242, 1, none⟩ = some (.int .i64 a1_1) := (blk_cell BK242.out 1).trans rfl; have hfz18_0 := blk_frozen BK242.out 0; have hfz18_1 := blk_frozen BK242.out 1))
           repeat (go_quiet (first | ((with_reducible refine gate_builtin (b := .append) (xs := #[.tmp 27, .tmp 29]) rfl ?_); at_builtin; refine Kd.R_append k71 (w0 := w) w.heap.size rfl (.tmp 27) (.tmp 29) 26 71 (.agg #[(.string ⟨#[]⟩), (.int .i64 0)]) 24 rfl Try.underlying26 info71 rfl (by decide) (by omega) u5 x5_1 (⟨a1_0, a1_1⟩ : S71) [.string a1_0, .int .i64 a1_1] (fun k_ => k_ ≠ gb242) (fun _ => False) rfl rfl ?aP (fun _ hk => hk.elim) ?aF ?aO ?aB ?aS ?aL ?_; (case aP => exact k71_mkM _ _ _ (⟨a1_0, a1_1⟩ : S71)); (case aB => exact (bC_ GE242.out)); (case aF => exact (fun k_ hk => Kd.freshB (g := gb242) (o := .cells #[.string a1_0, .int .i64 a1_1] 71 (0, 0)) (bK_ BK242.out) k_ hk)); (case aO => exact (rA_ HO_5.out)); (case aS => exact (below_size (bC_ GE242.out))); (case aL => have := LMc12.out; omega); intro v251 w17 ho hb hg hat; rw [← Ny250.out] at ho; have n0_ := Aside0.mk (blk_grown (g := gb242) (o := .cells #[.string a1_0, .int .i64 a1_1] 71 (0, 0)) (bK_ BK242.out) hg (Kd.R_away HO_5.out (fun _ hk => hk))); have n1_ := Aside0.mk (hb); have n2_ := Aside0.mk (ho); clear BK242; clear HB; clear HO_5; have BK242 := n0_; have HB := n1_; have HO252 := n2_; clear n0_ n1_ n2_; clear ho hb hg hat; have p253 : 0 ≤ (x7_1 : Int) := of_decide_eq_true as_; have q253 : x7_1 < (l0.length : Int) := of_decide_eq_true as_; obtain ⟨ad253, e253, hx253_0, hx253_1⟩ := at_T71 HR0.out x7_1 p253 q253; cases e253; replace hx253_0 := (HB.out.cell (World.block_lt_of_cell? w _ hx253_0)).trans hx253_0; replace hx253_1 := (HB.out.cell (World.block_lt_of_cell? w _ hx253_1)).trans hx253_1; replace p253 := eq_true p253; replace q253 := eq_true q253; have hcz18_0 : w17.cell? ⟨gb242, 0, none⟩ = some (.string a1_0) := (blk_cell BK242.out 0).trans rfl; have hcz18_1 : w17.cell? ⟨gb242, 1, none⟩ = some (.int .i64 a1_1) := (blk_cell BK242.out 1).trans rfl; have hfz18_0 := blk_frozen BK242.out 0; have hfz18_1 := blk_frozen BK242.out 1)); try go_wp2_with (first | ((with_reducible refine gate_builtin (b := .append) (xs := #[.tmp 27, .tmp 29]) rfl ?_); at_builtin; refine Kd.R_append k71 (w0 := w) w.heap.size rfl (.tmp 27) (.tmp 29) 26 71 (.agg #[(.string ⟨#[]⟩), (.int .i64 0)]) 24 rfl Try.underlying26 info71 rfl (by decide) (by omega) u5 x5_1 (⟨a1_0, a1_1⟩ : S71) [.string a1_0, .int .i64 a1_1] (fun k_ => k_ ≠ gb242) (fun _ => False) rfl rfl ?aP (fun _ hk => hk.elim) ?aF ?aO ?aB ?aS ?aL ?_; (case aP => exact k71_mkM _ _ _ (⟨a1_0, a1_1⟩ : S71)); (case aB => exact (bC_ GE242.out)); (case aF => exact (fun k_ hk => Kd.freshB (g := gb242) (o := .cells #[.string a1_0, .int .i64 a1_1] 71 (0, 0)) (bK_ BK242.out) k_ hk)); (case aO => exact (rA_ HO_5.out)); (case aS => exact (below_size (bC_ GE242.out))); (case aL => have := LMc12.out; omega); intro v251 w17 ho hb hg hat; rw [← Ny250.out] at ho; have n0_ := Aside0.mk (blk_grown (g := gb242) (o := .cells #[.string a1_0, .int .i64 a1_1] 71 (0, 0)) (bK_ BK242.out) hg (Kd.R_away HO_5.out (fun _ hk => hk))); have n1_ := Aside0.mk (hb); have n2_ := Aside0.mk (ho); clear BK242; clear HB; clear HO_5; have BK242 := n0_; have HB := n1_; have HO252 := n2_; clear n0_ n1_ n2_; clear ho hb hg hat; have p253 : 0 ≤ (x7_1 : Int) := of_decide_eq_true as_; have q253 : x7_1 < (l0.length : Int) := of_decide_eq_true as_; obtain ⟨ad253, e253, hx253_0, hx253_1⟩ := at_T71 HR0.out x7_1 p253 q253; cases e253; replace hx253_0 := (HB.out.cell (World.block_lt_of_cell? w _ hx253_0)).trans hx253_0; replace hx253_1 := (HB.out.cell (World.block_lt_of_cell? w _ hx253_1)).trans hx253_1; replace p253 := eq_true p253; replace q253 := eq_true q253; have hcz18_0 : w17.cell? ⟨gb242, 0, none⟩ = some (.string a1_0) := (blk_cell BK242.out 0).trans rfl; have hcz18_1 : w17.cell? ⟨gb242, 1, none⟩ = some (.int .i64 a1_1) := (blk_cell BK242.out 1).trans rfl; have hfz18_0 := blk_frozen BK242.out 0; have hfz18_1 := blk_frozen BK242.out 1)))
           go_roundg kj6
           case measure => have := HK1.out; have := HJ6.out; omega
           case rel => exact ⟨(y250), (true), (wrap64 (x7_1 + 1)), rs_, rs_, H', ⟨by have := HK1.out; have := HJ6.out; omega⟩, ⟨rA_ HO252.out⟩, ⟨bK_ BK242.out⟩, ⟨bC_ GE242.out⟩⟩
          ·
           rw [if_neg c15] at H
           have c15b0 : (((rd_T71 l0 x7_1).f0).toList == a1_0.toList) = false := beq_eq_false_iff_ne.mpr c15
           have c15b1 : (((rd_T71 l0 x7_1).f0).toList != a1_0.toList) = true := bne_iff_ne.mpr c15
           by_cases c19 : y250.length < 5864062014805
           ·
            rw [if_pos c19] at H
            have LMc19 := Aside0.mk c19
            clear c19
            obtain ⟨y255, hy255⟩ : ∃ y_ : List (S71), y_ = (y250 ++ [(⟨(rd_T71 l0 x7_1).f0, (rd_T71 l0 x7_1).f1⟩ : S71)]) := ⟨_, rfl⟩
            replace H : (spec_l27Set.l0 kj6 l0 y255 true (wrap64 (x7_1 + 1)) a1_0 a1_1) = some r := by first | (rw [hy255]; with_reducible exact H) | (have H2_ := (Option.bind_some _ _).symm.trans H; rw [hy255]; with_reducible exact H2_) | (have H2_ := (Option.bind_some _ _).symm.trans H; with_reducible exact H2_) | with_reducible exact H | (rw [hy255]; exact H) | exact H
            have Ny255 := Aside0.mk hy255
            clear hy255
            have H' := Aside0.mk H
            clear H
            have hcz20_0 : wc.cell? ⟨gb242, 0, none⟩ = some (.string a1_0) := (blk_cell BK242.out 0).trans rfl
            have hcz20_1 : wc.cell? ⟨gb242, 1, none⟩ = some (.int .i64 a1_1) := (blk_cell BK242.out 1).trans rfl
            have hfz20_0 := blk_frozen BK242.out 0
            have hfz20_1 := blk_frozen BK242.out 1
            go_wp2_with (first | ((with_reducible refine gate_builtin (b := .append) (xs := #[.tmp 27, .tmp 29]) rfl ?_); at_builtin; refine Kd.R_append k71 (w0 := w) w.heap.size rfl (.tmp 27) (.tmp 29) 26 71 (.agg #[(.string ⟨#[]⟩), (.int .i64 0)]) 24 rfl Try.underlying26 info71 rfl (by decide) (by omega) u5 x5_1 (⟨a1_0, a1_1⟩ : S71) [.string a1_0, .int .i64 a1_1] (fun k_ => k_ ≠ gb242) (fun _ => False) rfl rfl ?aP (fun _ hk => hk.elim) ?aF ?aO ?aB ?aS ?aL ?_; (case aP => exact k71_mkM _ _ _ (⟨a1_0, a1_1⟩ : S71)); (case aB => exact (bC_ GE242.out)); (case aF => exact (fun k_ hk => Kd.freshB (g := gb242) (o := .cells #[.string a1_0, .int .i64 a1_1] 71 (0, 0)) (bK_ BK242.out) k_ hk)); (case aO => exact (rA_ HO_5.out)); (case aS => exact (below_size (bC_ GE242.out))); (case aL => have := LMc12.out; omega); intro v251 w21 ho hb hg hat; rw [← Ny250.out] at ho; have n0_ := Aside0.mk (blk_grown (g := gb242) (o := .cells #[.string a1_0, .int .i64 a1_1] 71 (0, 0)) (bK_ BK242.out) hg (Kd.R_away HO_5.out (fun _ hk => hk))); have n1_ := Aside0.mk (hb); have n2_ := Aside0.mk (ho); clear BK242; clear HB; clear HO_5; have BK242 := n0_; have HB := n1_; have HO252 := n2_; clear n0_ n1_ n2_; clear ho hb hg hat; have p253 : 0 ≤ (x7_1 : Int) := of_decide_eq_true as_; have q253 : x7_1 < (l0.length : Int) := of_decide_eq_true as_; obtain ⟨ad253, e253, hx253_0, hx253_1⟩ := at_T71 HR0.out x7_1 p253 q253; cases e253; replace hx253_0 := (HB.out.cell (World.block_lt_of_cell? w _ hx253_0)).trans hx253_0; replace hx253_1 := (HB.out.cell (World.block_lt_of_cell? w _ hx253_1)).trans hx253_1; replace p253 := eq_true p253; replace q253 := eq_true q253; have hcz22_0 : w21.cell? ⟨gb242, 0, none⟩ = some (.string a1_0) := (blk_cell BK242.out 0).trans rfl; have hcz22_1 : w21.cell? ⟨gb242, 1, none⟩ = some (.int .i64 a1_1) := (blk_cell BK242.out 1).trans rfl; have hfz22_0 := blk_frozen BK242.out 0; have hfz22_1 := blk_frozen BK242.out 1; have p254 : 0 ≤ (x7_1 : Int) := of_decide_eq_true as_; have q254 : x7_1 < (l0.length : Int) := of_decide_eq_true as_; obtain ⟨ad254, e254, hx254_0, hx254_1⟩ := at_T71 HR0.out x7_1 p254 q254; obtain rfl : ad253 = ad254 := (by injection e254); replace hx254_0 := (HB.out.cell (World.block_lt_of_cell? w _ hx254_0)).trans hx254_0; replace hx254_1 := (HB.out.cell (World.block_lt_of_cell? w _ hx254_1)).trans hx254_1; replace p254 := eq_true p254; replace q254 := eq_true q254) | ((with_reducible refine gate_builtin (b := .append) (xs := #[.tmp 39, .tmp 44]) rfl ?_); at_builtin; refine Kd.R_append k71 (w0 := w) w.heap.size rfl (.tmp 39) (.tmp 44) 26 71 (.agg #[(.string ⟨#[]⟩), (.int .i64 0)]) 24 rfl Try.underlying26 info71 rfl (by decide) (by omega) v251 y250 (⟨(rd_T71 l0 x7_1).f0, (rd_T71 l0 x7_1).f1⟩ : S71) [.string ((rd_T71 l0 x7_1).f0), .int .i64 ((rd_T71 l0 x7_1).f1)] (fun k_ => k_ ≠ gb242) (fun _ => False) rfl rfl ?aP (fun _ hk => hk.elim) ?aF ?aO ?aB ?aS ?aL ?_; (case aP => exact k71_mkM _ _ _ (⟨(rd_T71 l0 x7_1).f0, (rd_T71 l0 x7_1).f1⟩ : S71)); (case aB => exact (bC_ GE242.out)); (case aF => exact (fun k_ hk => Kd.freshB (g := gb242) (o := .cells #[.string a1_0, .int .i64 a1_1] 71 (0, 0)) (bK_ BK242.out) k_ hk)); (case aO => exact (rA_ HO252.out)); (case aS => exact (below_size (bC_ GE242.out))); (case aL => have := LMc19.out; omega); intro v256 w23 ho hb hg hat; rw [← Ny255.out] at ho; have n0_ := Aside0.mk (blk_grown (g := gb242) (o := .cells #[.string a1_0, .int .i64 a1_1] 71 (0, 0)) (bK_ BK242.out) hg (Kd.R_away HO252.out (fun _ hk => hk))); have n1_ := Aside0.mk (hb); have n2_ := Aside0.mk (ho); clear BK242; clear HB; clear HO252; have BK242 := n0_; have HB := n1_; have HO257 := n2_; clear n0_ n1_ n2_; clear ho hb hg hat))
            repeat (go_quiet (first | ((with_reducible refine gate_builtin (b := .append) (xs := #[.tmp 27, .tmp 29]) rfl ?_); at_builtin; refine Kd.R_append k71 (w0 := w) w.heap.size rfl (.tmp 27) (.tmp 29) 26 71 (.agg #[(.string ⟨#[]⟩), (.int .i64 0)]) 24 rfl Try.underlying26 info71 rfl (by decide) (by omega) u5 x5_1 (⟨a1_0, a1_1⟩ : S71) [.string a1_0, .int .i64 a1_1] (fun k_ => k_ ≠ gb242) (fun _ => False) rfl rfl ?aP (fun _ hk => hk.elim) ?aF ?aO ?aB ?aS ?aL ?_; (case aP => exact k71_mkM _ _ _ (⟨a1_0, a1_1⟩ : S71)); (case aB => exact (bC_ GE242.out)); (case aF => exact (fun k_ hk => Kd.freshB (g := gb242) (o := .cells #[.string a1_0, .int .i64 a1_1] 71 (0, 0)) (bK_ BK242.out) k_ hk)); (case aO => exact (rA_ HO_5.out)); (case aS => exact (below_size (bC_ GE242.out))); (case aL => have := LMc12.out; omega); intro v251 w21 ho hb hg hat; rw [← Ny250.out] at ho; have n0_ := Aside0.mk (blk_grown (g := gb242) (o := .cells #[.string a1_0, .int .i64 a1_1] 71 (0, 0)) (bK_ BK242.out) hg (Kd.R_away HO_5.out (fun _ hk => hk))); have n1_ := Aside0.mk (hb); have n2_ := Aside0.mk (ho); clear BK242; clear HB; clear HO_5; have BK242 := n0_; have HB := n1_; have HO252 := n2_; clear n0_ n1_ n2_; clear ho hb hg hat; have p253 : 0 ≤ (x7_1 : Int) := of_decide_eq_true as_; have q253 : x7_1 < (l0.length : Int) := of_decide_eq_true as_; obtain ⟨ad253, e253, hx253_0, hx253_1⟩ := at_T71 HR0.out x7_1 p253 q253; cases e253; replace hx253_0 := (HB.out.cell (World.block_lt_of_cell? w _ hx253_0)).trans hx253_0; replace hx253_1 := (HB.out.cell (World.block_lt_of_cell? w _ hx253_1)).trans hx253_1; replace p253 := eq_true p253; replace q253 := eq_true q253; have hcz22_0 : w21.cell? ⟨gb242, 0, none⟩ = some (.string a1_0) := (blk_cell BK242.out 0).trans rfl; have hcz22_1 : w21.cell? ⟨gb242, 1, none⟩ = some (.int .i64 a1_1) := (blk_cell BK242.out 1).trans rfl; have hfz22_0 := blk_frozen BK242.out 0; have hfz22_1 := blk_frozen BK242.out 1; have p254 : 0 ≤ (x7_1 : Int) := of_decide_eq_true as_; have q254 : x7_1 < (l0.length : Int) := of_decide_eq_true as_; obtain ⟨ad254, e254, hx254_0, hx254_1⟩ := at_T71 HR0.out x7_1 p254 q254; obtain rfl : ad253 = ad254 := (by injection e254); replace hx254_0 := (HB.out.cell (World.block_lt_of_cell? w _ hx254_0)).trans hx254_0; replace hx254_1 := (HB.out.cell (World.block_lt_of_cell? w _ hx254_1)).trans hx254_1; replace p254 := eq_true p254; replace q254 := eq_true q254) | ((with_reducible refine gate_builtin (b := .append) (xs := #[.tmp 39, .tmp 44]) rfl ?_); at_builtin; refine Kd.R_append k71 (w0 := w) w.heap.size rfl (.tmp 39) (.tmp 44) 26 71 (.agg #[(.string ⟨#[]⟩), (.int .i64 0)]) 24 rfl Try.underlying26 info71 rfl (by decide) (by omega) v251 y250 (⟨(rd_T71 l0 x7_1).f0, (rd_T71 l0 x7_1).f1⟩ : S71) [.string ((rd_T71 l0 x7_1).f0), .int .i64 ((rd_T71 l0 x7_1).f1)] (fun k_ => k_ ≠ gb242) (fun _ => False) rfl rfl ?aP (fun _ hk => hk.elim) ?aF ?aO ?aB ?aS ?aL ?_; (case aP => exact k71_mkM _ _ _ (⟨(rd_T71 l0 x7_1).f0, (rd_T71 l0 x7_1).f1⟩ : S71)); (case aB => exact (bC_ GE242.out)); (case aF => exact (fun k_ hk => Kd.freshB (g := gb242) (o := .cells #[.string a1_0, .int .i64 a1_1] 71 (0, 0)) (bK_ BK242.out) k_ hk)); (case aO => exact (rA_ HO252.out)); (case aS => exact (below_size (bC_ GE242.out))); (case aL => have := LMc19.out; omega); intro v256 w23 ho hb hg hat; rw [← Ny255.out] at ho; have n0_ := Aside0.mk (blk_grown (g := gb242) (o := .cells #[.string a1_0, .int .i64 a1_1] 71 (0, 0)) (bK_ BK242.out) hg (Kd.R_away HO252.out (fun _ hk => hk))); have n1_ := Aside0.mk (hb); have n2_ := Aside0.mk (ho); clear BK242; clear HB; clear HO252; have BK242 := n0_; have HB := n1_; have HO257 := n2_; clear n0_ n1_ n2_; clear ho hb hg hat)); try go_wp2_with (first | ((with_reducible refine gate_builtin (b := .append) (xs := #[.tmp 27, .tmp 29]) rfl ?_); at_builtin; refine Kd.R_append k71 (w0 := w) w.heap.size rfl (.tmp 27) (.tmp 29) 26 71 (.agg #[(.string ⟨#[]⟩), (.int .i64 0)]) 24 rfl Try.underlying26 info71 rfl (by decide) (by omega) u5 x5_1 (⟨a1_0, a1_1⟩ : S71) [.string a1_0, .int .i64 a1_1] (fun k_ => k_ ≠ gb242) (fun _ => False) rfl rfl ?aP (fun _ hk => hk.elim) ?aF ?aO ?aB ?aS ?aL ?_; (case aP => exact k71_mkM _ _ _ (⟨a1_0, a1_1⟩ : S71)); (case aB => exact (bC_ GE242.out)); (case aF => exact (fun k_ hk => Kd.freshB (g := gb242) (o := .cells #[.string a1_0, .int .i64 a1_1] 71 (0, 0)) (bK_ BK242.out) k_ hk)); (case aO => exact (rA_ HO_5.out)); (case aS => exact (below_size (bC_ GE242.out))); (case aL => have := LMc12.out; omega); intro v251 w21 ho hb hg hat; rw [← Ny250.out] at ho; have n0_ := Aside0.mk (blk_grown (g := gb242) (o := .cells #[.string a1_0, .int .i64 a1_1] 71 (0, 0)) (bK_ BK242.out) hg (Kd.R_away HO_5.out (fun _ hk => hk))); have n1_ := Aside0.mk (hb); have n2_ := Aside0.mk (ho); clear BK242; clear HB; clear HO_5; have BK242 := n0_; have HB := n1_; have HO252 := n2_; clear n0_ n1_ n2_; clear ho hb hg hat; have p253 : 0 ≤ (x7_1 : Int) := of_decide_eq_true as_; have q253 : x7_1 < (l0.length : Int) := of_decide_eq_true as_; obtain ⟨ad253, e253, hx253_0, hx253_1⟩ := at_T71 HR0.out x7_1 p253 q253; cases e253; replace hx253_0 := (HB.out.cell (World.block_lt_of_cell? w _ hx253_0)).trans hx253_0; replace hx253_1 := (HB.out.cell (World.block_lt_of_cell? w _ hx253_1)).trans hx253_1; replace p253 := eq_true p253; replace q253 := eq_true q253; have hcz22_0 : w21.cell? ⟨gb242, 0, none⟩ = some (.string a1_0) := (blk_cell BK242.out 0).trans rfl; have hcz22_1 : w21.cell? ⟨gb242, 1, none⟩ = some (.int .i64 a1_1) := (blk_cell BK242.out 1).trans rfl; have hfz22_0 := blk_frozen BK242.out 0; have hfz22_1 := blk_frozen BK242.out 1; have p254 : 0 ≤ (x7_1 : Int) := of_decide_eq_true as_; have q254 : x7_1 < (l0.length : Int) := of_decide_eq_true as_; obtain ⟨ad254, e254, hx254_0, hx254_1⟩ := at_T71 HR0.out x7_1 p254 q254; obtain rfl : ad253 = ad254 := (by injection e254); replace hx254_0 := (HB.out.cell (World.block_lt_of_cell? w _ hx254_0)).trans hx254_0; replace hx254_1 := (HB.out.cell (World.block_lt_of_cell? w _ hx254_1)).trans hx254_1; replace p254 := eq_true p254; replace q254 := eq_true q254) | ((with_reducible refine gate_builtin (b := .append) (xs := #[.tmp 39, .tmp 44]) rfl ?_); at_builtin; refine Kd.R_append k71 (w0 := w) w.heap.size rfl (.tmp 39) (.tmp 44) 26 71 (.agg #[(.string ⟨#[]⟩), (.int .i64 0)]) 24 rfl Try.underlying26 info71 rfl (by decide) (by omega) v251 y250 (⟨(rd_T71 l0 x7_1).f0, (rd_T71 l0 x7_1).f1⟩ : S71) [.string ((rd_T71 l0 x7_1).f0), .int .i64 ((rd_T71 l0 x7_1).f1)] (fun k_ => k_ ≠ gb242) (fun _ => False) rfl rfl ?aP (fun _ hk => hk.elim) ?aF ?aO ?aB ?aS ?aL ?_; (case aP => exact k71_mkM _ _ _ (⟨(rd_T71 l0 x7_1).f0, (rd_T71 l0 x7_1).f1⟩ : S71)); (case aB => exact (bC_ GE242.out)); (case aF => exact (fun k_ hk => Kd.freshB (g := gb242) (o := .cells #[.string a1_0, .int .i64 a1_1] 71 (0, 0)) (bK_ BK242.out) k_ hk)); (case aO => exact (rA_ HO252.out)); (case aS => exact (below_size (bC_ GE242.out))); (case aL => have := LMc19.out; omega); intro v256 w23 ho hb hg hat; rw [← Ny255.out] at ho; have n0_ := Aside0.mk (blk_grown (g := gb242) (o := .cells #[.string a1_0, .int .i64 a1_1] 71 (0, 0)) (bK_ BK242.out) hg (Kd.R_away HO252.out (fun _ hk => hk))); have n1_ := Aside0.mk (hb); have n2_ := Aside0.mk (ho); clear BK242; clear HB; clear HO252; have BK242 := n0_; have HB := n1_; have HO257 := n2_; clear n0_ n1_ n2_; clear ho hb hg hat)))
            go_roundg kj6
            case measure => have := HK1.out; have := HJ6.out; omega
            case rel => exact ⟨(y255), (true), (wrap64 (x7_1 + 1)), rs_, rs_, H', ⟨by have := HK1.out; have := HJ6.out; omega⟩, ⟨rA_ HO257.out⟩, ⟨bK_ BK242.out⟩, ⟨bC_ GE242.out⟩⟩
           ·
            rw [if_neg c19] at H
            exact absurd H (by simp)
         ·
          rw [if_neg c14] at H
          exact absurd H (by simp)
        ·
         rw [if_neg c13] at H
         exact absurd H (by simp)
       ·
        rw [if_neg c12] at H
        exact absurd H (by simp)
      ·
       replace c11 := Bool.eq_false_iff.mpr c11
       subst c11
       have H1 : (if 0 ≤ x7_1 then (if x7_1 < (l0.length : Int) then (if ((rd_T71 l0 x7_1).f0).toList = a1_0.toList then (spec_l27Set.l0 kj6 l0 x5_1 x6_1 (wrap64 (x7_1 + 1)) a1_0 a1_1) else (if x5_1.length < 5864062014805 then (spec_l27Set.l0 kj6 l0 (x5_1 ++ [(⟨(rd_T71 l0 x7_1).f0, (rd_T71 l0 x7_1).f1⟩ : S71)]) x6_1 (wrap64 (x7_1 + 1)) a1_0 a1_1) else (none))) else (none)) else (none)) = some r := by rw [if_neg (show ¬ (false = true) by decide)] at H; exact H
       clear H
       have H := H1
       clear H1
       by_cases c24 : 0 ≤ x7_1
       ·
        rw [if_pos c24] at H
        have c24b0 : decide (0 ≤ x7_1) = true := decide_eq_true c24
        clear c24
        by_cases c25 : x7_1 < (l0.length : Int)
        ·
         rw [if_pos c25] at H
         have c25b0 : decide (x7_1 < (l0.length : Int)) = true := decide_eq_true c25
         clear c25
         by_cases c26 : ((rd_T71 l0 x7_1).f0).toList = a1_0.toList
         ·
          rw [if_pos c26] at H
          have c26b0 : (((rd_T71 l0 x7_1).f0).toList == a1_0.toList) = true := beq_iff_eq.mpr c26
          have c26b1 : (((rd_T71 l0 x7_1).f0).toList != a1_0.toList) = false := bne_eq_false_iff_eq.mpr c26
          clear c26
          have H' := Aside0.mk H
          clear H
          have p258 : 0 ≤ (x7_1 : Int) := of_decide_eq_true as_
          have q258 : x7_1 < (l0.length : Int) := of_decide_eq_true as_
          obtain ⟨ad258, e258, hx258_0, hx258_1⟩ := at_T71 HR0.out x7_1 p258 q258
          cases e258
          replace hx258_0 := (HB.out.cell (World.block_lt_of_cell? w _ hx258_0)).trans hx258_0
          replace hx258_1 := (HB.out.cell (World.block_lt_of_cell? w _ hx258_1)).trans hx258_1
          replace p258 := eq_true p258
          replace q258 := eq_true q258
          have hcz27_0 : wc.cell? ⟨gb242, 0, none⟩ = some (.string a1_0) := (blk_cell BK242.out 0).trans rfl
          have hcz27_1 : wc.cell? ⟨gb242, 1, none⟩ = some (.int .i64 a1_1) := (blk_cell BK242.out 1).trans rfl
          have hfz27_0 := blk_frozen BK242.out 0
          have hfz27_1 := blk_frozen BK242.out 1
          go_wp2
          repeat (go_quiet (fail); try go_wp2)
          go_roundg kj6
          case measure => have := HK1.out; have := HJ6.out; omega
          case rel => exact ⟨(x5_1), (x6_1), (wrap64 (x7_1 + 1)), rs_, rs_, H', ⟨by have := HK1.out; have := HJ6.out; omega⟩, ⟨rA_ HO_5.out⟩, ⟨bK_ BK242.out⟩, ⟨bC_ GE242.out⟩⟩
         ·
          rw [if_neg c26] at H
          have c26b0 : (((rd_T71 l0 x7_1).f0).toList == a1_0.toList) = false := beq_eq_false_iff_ne.mpr c26
          have c26b1 : (((rd_T71 l0 x7_1).f0).toList != a1_0.toList) = true := bne_iff_ne.mpr c26
          by_cases c28 : x5_1.length < 5864062014805
          ·
           rw [if_pos c28] at H
           have LMc28 := Aside0.mk c28
           clear c28
           obtain ⟨y260, hy260⟩ : ∃ y_ : List (S71), y_ = (x5_1 ++ [(⟨(rd_T71 l0 x7_1).f0, (rd_T71 l0 x7_1).f1⟩ : S71)]) := ⟨_, rfl⟩
           replace H : (spec_l27Set.l0 kj6 l0 y260 x6_1 (wrap64 (x7_1 + 1)) a1_0 a1_1) = some r := by first | (rw [hy260]; with_reducible exact H) | (have H2_ := (Option.bind_some _ _).symm.trans H; rw [hy260]; with_reducible exact H2_) | (have H2_ := (Option.bind_some _ _).symm.trans H; with_reducible exact H2_) | with_reducible exact H | (rw [hy260]; exact H) | exact H
           have Ny260 := Aside0.mk hy260
           clear hy260
           have H' := Aside0.mk H
           clear H
           have p258 : 0 ≤ (x7_1 : Int) := of_decide_eq_true as_
           have q258 : x7_1 < (l0.length : Int) := of_decide_eq_true as_
           obtain ⟨ad258, e258, hx258_0, hx258_1⟩ := at_T71 HR0.out x7_1 p258 q258
           cases e258
           replace hx258_0 := (HB.out.cell (World.block_lt_of_cell? w _ hx258_0)).trans hx258_0
           replace hx258_1 := (HB.out.cell (World.block_lt_of_cell? w _ hx258_1)).trans hx258_1
           replace p258 := eq_true p258
           replace q258 := eq_true q258
           have hcz29_0 : wc.cell? ⟨gb242, 0, none⟩ = some (.string a1_0) := (blk_cell BK242.out 0).trans rfl
           have hcz29_1 : wc.cell? ⟨gb242, 1, none⟩ = some (.int .i64 a1_1) := (blk_cell BK242.out 1).trans rfl
           have hfz29_0 := blk_frozen BK242.out 0
           have hfz29_1 := blk_frozen BK242.out 1
           have p259 : 0 ≤ (x7_1 : Int) := of_decide_eq_true as_
           have q259 : x7_1 < (l0.length : Int) := of_decide_eq_true as_
           obtain ⟨ad259, e259, hx259_0, hx259_1⟩ := at_T71 HR0.out x7_1 p259 q259
           obtain rfl : ad258 = ad259 := (by injection e259)
           replace hx259_0 := (HB.out.cell (World.block_lt_of_cell? w _ hx259_0)).trans hx259_0
           replace hx259_1 := (HB.out.cell (World.block_lt_of_cell? w _ hx259_1)).trans hx259_1
           replace p259 := eq_true p259
           replace q259 := eq_true q259
           go_wp2_with (first | ((with_reducible refine gate_builtin (b := .append) (xs := #[.tmp 39, .tmp 44]) rfl ?_); at_builtin; refine Kd.R_append k71 (w0 := w) w.heap.size rfl (.tmp 39) (.tmp 44) 26 71 (.agg #[(.string ⟨#[]⟩), (.int .i64 0)]) 24 rfl Try.underlying26 info71 rfl (by decide) (by omega) u5 x5_1 (⟨(rd_T71 l0 x7_1).f0, (rd_T71 l0 x7_1).f1⟩ : S71) [.string ((rd_T71 l0 x7_1).f0), .int .i64 ((rd_T71 l0 x7_1).f1)] (fun k_ => k_ ≠ gb242) (fun _ => False) rfl rfl ?aP (fun _ hk => hk.elim) ?aF ?aO ?aB ?aS ?aL ?_; (case aP => exact k71_mkM _ _ _ (⟨(rd_T71 l0 x7_1).f0, (rd_T71 l0 x7_1).f1⟩ : S71)); (case aB => exact (bC_ GE242.out)); (case aF => exact (fun k_ hk => Kd.freshB (g := gb242) (o := .cells #[.string a1_0, .int .i64 a1_1] 71 (0, 0)) (bK_ BK242.out) k_ hk)); (case aO => exact (rA_ HO_5.out)); (case aS => exact (below_size (bC_ GE242.out))); (case aL => have := LMc28.out; omega); intro v261 w30 ho hb hg hat; rw [← Ny260.out] at ho; have n0_ := Aside0.mk (blk_grown (g := gb242) (o := .cells #[.string a1_0, .int .i64 a1_1] 71 (0, 0)) (bK_ BK242.out) hg (Kd.R_away HO_5.out (fun _ hk => hk))); have n1_ := Aside0.mk (hb); have n2_ := Aside0.mk (ho); clear BK242; clear HB; clear HO_5; have BK242 := n0_; have HB := n1_; have HO262 := n2_; clear n0_ n1_ n2_; clear ho hb hg hat))
           repeat (go_quiet (first | ((with_reducible refine gate_builtin (b := .append) (xs := #[.tmp 39, .tmp 44]) rfl ?_); at_builtin; refine Kd.R_append k71 (w0 := w) w.heap.size rfl (.tmp 39) (.tmp 44) 26 71 (.agg #[(.string ⟨#[]⟩), (.int .i64 0)]) 24 rfl Try.underlying26 info71 rfl (by decide) (by omega) u5 x5_1 (⟨(rd_T71 l0 x7_1).f0, (rd_T71 l0 x7_1).f1⟩ : S71) [.string ((rd_T71 l0 x7_1).f0), .int .i64 ((rd_T71 l0 x7_1).f1)] (fun k_ => k_ ≠ gb242) (fun _ => False) rfl rfl ?aP (fun _ hk => hk.elim) ?aF ?aO ?aB ?aS ?aL ?_; (case aP => exact k71_mkM _ _ _ (⟨(rd_T71 l0 x7_1).f0, (rd_T71 l0 x7_1).f1⟩ : S71)); (case aB => exact (bC_ GE242.out)); (case aF => exact (fun k_ hk => Kd.freshB (g := gb242) (o := .cells #[.string a1_0, .int .i64 a1_1] 71 (0, 0)) (bK_ BK242.out) k_ hk)); (case aO => exact (rA_ HO_5.out)); (case aS => exact (below_size (bC_ GE242.out))); (case aL => have := LMc28.out; omega); intro v261 w30 ho hb hg hat; rw [← Ny260.out] at ho; have n0_ := Aside0.mk (blk_grown (g := gb242) (o := .cells #[.string a1_0, .int .i64 a1_1] 71 (0, 0)) (bK_ BK242.out) hg (Kd.R_away HO_5.out (fun _ hk => hk))); have n1_ := Aside0.mk (hb); have n2_ := Aside0.mk (ho); clear BK242; clear HB; clear HO_5; have BK242 := n0_; have HB := n1_; have HO262 := n2_; clear n0_ n1_ n2_; clear ho hb hg hat)); try go_wp2_with (first | ((with_reducible refine gate_builtin (b := .append) (xs := #[.tmp 39, .tmp 44]) rfl ?_); at_builtin; refine Kd.R_append k71 (w0 := w) w.heap.size rfl (.tmp 39) (.tmp 44) 26 71 (.agg #[(.string ⟨#[]⟩), (.int .i64 0)]) 24 rfl Try.underlying26 info71 rfl (by decide) (by omega) u5 x5_1 (⟨(rd_T71 l0 x7_1).f0, (rd_T71 l0 x7_1).f1⟩ : S71) [.string ((rd_T71 l0 x7_1).f0), .int .i64 ((rd_T71 l0 x7_1).f1)] (fun k_ => k_ ≠ gb242) (fun _ => False) rfl rfl ?aP (fun _ hk => hk.elim) ?aF ?aO ?aB ?aS ?aL ?_; (case aP => exact k71_mkM _ _ _ (⟨(rd_T71 l0 x7_1).f0, (rd_T71 l0 x7_1).f1⟩ : S71)); (case aB => exact (bC_ GE242.out)); (case aF => exact (fun k_ hk => Kd.freshB (g := gb242) (o := .cells #[.string a1_0, .int .i64 a1_1] 71 (0, 0)) (bK_ BK242.out) k_ hk)); (case aO => exact (rA_ HO_5.out)); (case aS => exact (below_size (bC_ GE242.out))); (case aL => have := LMc28.out; omega); intro v261 w30 ho hb hg hat; rw [← Ny260.out] at ho; have n0_ := Aside0.mk (blk_grown (g := gb242) (o := .cells #[.string a1_0, .int .i64 a1_1] 71 (0, 0)) (bK_ BK242.out) hg (Kd.R_away HO_5.out (fun _ hk => hk))); have n1_ := Aside0.mk (hb); have n2_ := Aside0.mk (ho); clear BK242; clear HB; clear HO_5; have BK242 := n0_; have HB := n1_; have HO262 := n2_; clear n0_ n1_ n2_; clear ho hb hg hat)))
           go_roundg kj6
           case measure => have := HK1.out; have := HJ6.out; omega
           case rel => exact ⟨(y260), (x6_1), (wrap64 (x7_1 + 1)), rs_, rs_, H', ⟨by have := HK1.out; have := HJ6.out; omega⟩, ⟨rA_ HO262.out⟩, ⟨bK_ BK242.out⟩, ⟨bC_ GE242.out⟩⟩
          ·
           rw [if_neg c28] at H
           exact absurd H (by simp)
        ·
         rw [if_neg c25] at H
         exact absurd H (by simp)
       ·
        rw [if_neg c24] at H
        exact absurd H (by simp)
   ·
    rw [if_neg c6] at H
    have c6b0 : decide (x7_1 < (l0.length : Int)) = false := decide_eq_false c6
    clear c6
    by_cases c31 : x6_1 = true
    ·
     subst c31
     have H1 : (some x5_1) = some r := by rw [if_pos rfl] at H; exact H
     clear H
     have H := H1
     clear H1
     obtain rfl := Option.some.inj H
     go_wp2
     repeat (go_quiet (fail); try go_wp2)
     go_ret
     exact ⟨_, er_, by (with_reducible repeat (first | apply Kd.R_alloc | apply Kd.R_drewN | apply Kd.R_drew)); exact Kd.R_mono HO_5.out (fun _ hk => trivial), bC_ GE242.out⟩
    ·
     replace c31 := Bool.eq_false_iff.mpr c31
     subst c31
     have H1 : (if x5_1.length < 5864062014805 then (some (x5_1 ++ [(⟨a1_0, a1_1⟩ : S71)])) else (none)) = some r := by rw [if_neg (show ¬ (false = true) by decide)] at H; exact H
     clear H
     have H := H1
     clear H1
     by_cases c32 : x5_1.length < 5864062014805
     ·
      rw [if_pos c32] at H
      have LMc32 := Aside0.mk c32
      clear c32
      obtain ⟨y246, hy246⟩ : ∃ y_ : List (S71), y_ = (x5_1 ++ [(⟨a1_0, a1_1⟩ : S71)]) := ⟨_, rfl⟩
      replace H : (some y246) = some r := by first | (rw [hy246]; with_reducible exact H) | (have H2_ := (Option.bind_some _ _).symm.trans H; rw [hy246]; with_reducible exact H2_) | (have H2_ := (Option.bind_some _ _).symm.trans H; with_reducible exact H2_) | with_reducible exact H | (rw [hy246]; exact H) | exact H
      have Ny246 := Aside0.mk hy246
      clear hy246
      obtain rfl := Option.some.inj H
      have hcz33_0 : wr.cell? ⟨gb242, 0, none⟩ = some (.string a1_0) := (blk_cell BK242.out 0).trans rfl
      have hcz33_1 : wr.cell? ⟨gb242, 1, none⟩ = some (.int .i64 a1_1) := (blk_cell BK242.out 1).trans rfl
      have hfz33_0 := blk_frozen BK242.out 0
      have hfz33_1 := blk_frozen BK242.out 1
      go_wp2_with (first | ((with_reducible refine gate_builtin (b := .append) (xs := #[.tmp 48, .tmp 50]) rfl ?_); at_builtin; refine Kd.R_append k71 (w0 := w) w.heap.size rfl (.tmp 48) (.tmp 50) 26 71 (.agg #[(.string ⟨#[]⟩), (.int .i64 0)]) 24 rfl Try.underlying26 info71 rfl (by decide) (by omega) u5 x5_1 (⟨a1_0, a1_1⟩ : S71) [.string a1_0, .int .i64 a1_1] (fun k_ => k_ ≠ gb242) (fun _ => False) rfl rfl ?aP (fun _ hk => hk.elim) ?aF ?aO ?aB ?aS ?aL ?_; (case aP => exact k71_mkM _ _ _ (⟨a1_0, a1_1⟩ : S71)); (case aB => exact (bC_ GE242.out)); (case aF => exact (fun k_ hk => Kd.freshB (g := gb242) (o := .cells #[.string a1_0, .int .i64 a1_1] 71 (0, 0)) (bK_ BK242.out) k_ hk)); (case aO => exact (rA_ HO_5.out)); (case aS => exact (below_size (bC_ GE242.out))); (case aL => have := LMc32.out; omega); intro v247 w34 ho hb hg hat; rw [← Ny246.out] at ho; have n0_ := Aside0.mk (blk_grown (g := gb242) (o := .cells #[.string a1_0, .int .i64 a1_1] 71 (0, 0)) (bK_ BK242.out) hg (Kd.R_away HO_5.out (fun _ hk => hk))); have n1_ := Aside0.mk (hb); have n2_ := Aside0.mk (ho); clear BK242; clear HB; clear HO_5; have BK242 := n0_; have HB := n1_; have HO248 := n2_; clear n0_ n1_ n2_; clear ho hb hg hat))
      repeat (go_quiet (first | ((with_reducible refine gate_builtin (b := .append) (xs := #[.tmp 48, .tmp 50]) rfl ?_); at_builtin; refine Kd.R_append k71 (w0 := w) w.heap.size rfl (.tmp 48) (.tmp 50) 26 71 (.agg #[(.string ⟨#[]⟩), (.int .i64 0)]) 24 rfl Try.underlying26 info71 rfl (by decide) (by omega) u5 x5_1 (⟨a1_0, a1_1⟩ : S71) [.string a1_0, .int .i64 a1_1] (fun k_ => k_ ≠ gb242) (fun _ => False) rfl rfl ?aP (fun _ hk => hk.elim) ?aF ?aO ?aB ?aS ?aL ?_; (case aP => exact k71_mkM _ _ _ (⟨a1_0, a1_1⟩ : S71)); (case aB => exact (bC_ GE242.out)); (case aF => exact (fun k_ hk => Kd.freshB (g := gb242) (o := .cells #[.string a1_0, .int .i64 a1_1] 71 (0, 0)) (bK_ BK242.out) k_ hk)); (case aO => exact (rA_ HO_5.out)); (case aS => exact (below_size (bC_ GE242.out))); (case aL => have := LMc32.out; omega); intro v247 w34 ho hb hg hat; rw [← Ny246.out] at ho; have n0_ := Aside0.mk (blk_grown (g := gb242) (o := .cells #[.string a1_0, .int .i64 a1_1] 71 (0, 0)) (bK_ BK242.out) hg (Kd.R_away HO_5.out (fun _ hk => hk))); have n1_ := Aside0.mk (hb); have n2_ := Aside0.mk (ho); clear BK242; clear HB; clear HO_5; have BK242 := n0_; have HB := n1_; have HO248 := n2_; clear n0_ n1_ n2_; clear ho hb hg hat)); try go_wp2_with (first | ((with_reducible refine gate_builtin (b := .append) (xs := #[.tmp 48, .tmp 50]) rfl ?_); at_builtin; refine Kd.R_append k71 (w0 := w) w.heap.size rfl (.tmp 48) (.tmp 50) 26 71 (.agg #[(.string ⟨#[]⟩), (.int .i64 0)]) 24 rfl Try.underlying26 info71 rfl (by decide) (by omega) u5 x5_1 (⟨a1_0, a1_1⟩ : S71) [.string a1_0, .int .i64 a1_1] (fun k_ => k_ ≠ gb242) (fun _ => False) rfl rfl ?aP (fun _ hk => hk.elim) ?aF ?aO ?aB ?aS ?aL ?_; (case aP => exact k71_mkM _ _ _ (⟨a1_0, a1_1⟩ : S71)); (case aB => exact (bC_ GE242.out)); (case aF => exact (fun k_ hk => Kd.freshB (g := gb242) (o := .cells #[.string a1_0, .int .i64 a1_1] 71 (0, 0)) (bK_ BK242.out) k_ hk)); (case aO => exact (rA_ HO_5.out)); (case aS => exact (below_size (bC_ GE242.out))); (case aL => have := LMc32.out; omega); intro v247 w34 ho hb hg hat; rw [← Ny246.out] at ho; have n0_ := Aside0.mk (blk_grown (g := gb242) (o := .cells #[.string a1_0, .int .i64 a1_1] 71 (0, 0)) (bK_ BK242.out) hg (Kd.R_away HO_5.out (fun _ hk => hk))); have n1_ := Aside0.mk (hb); have n2_ := Aside0.mk (ho); clear BK242; clear HB; clear HO_5; have BK242 := n0_; have HB := n1_; have HO248 := n2_; clear n0_ n1_ n2_; clear ho hb hg hat)))
      go_ret
      exact ⟨_, er_, by (with_reducible repeat (first | apply Kd.R_alloc | apply Kd.R_drewN | apply Kd.R_drew)); exact Kd.R_mono HO248.out (fun _ hk => trivial), bC_ GE242.out⟩
     ·
      rw [if_neg c32] at H
      exact absurd H (by simp)

end Go.Proofs.Ytenjhbkpcelidaa.PFnMerges
