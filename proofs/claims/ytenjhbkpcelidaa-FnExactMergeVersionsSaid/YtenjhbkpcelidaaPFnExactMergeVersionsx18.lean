-- PRINTED by print.py (a twelfth state) out of the translation. Not trusted: Lean checks it.
import Derived.Test.YtenjhbkpcelidaaPFnExactMergeVersionsx0
import Derived.Test.YtenjhbkpcelidaaPFnExactMergeVersionsx17
namespace Go.Proofs.Ytenjhbkpcelidaa.PFnExactMergeVersions
open Go.RowKit Go.Proofs.YtenjhbkpcelidaaW.PrintWords Go.Proofs.YtenjhbkpcelidaaW.PrintLast Go.Proofs.YtenjhbkpcelidaaW.PrintMore
attribute [local go_sem] max2_int min2_int max_two min_two max_three min_three max_four min_four   -- for this text's walks alone
set_option linter.unusedVariables false
set_option linter.unusedSimpArgs false

/-! ### laws_heldVersionS: function 32 -/
def laws_heldVersionS.l0 : Nat → List (S104) → Int → Int → Option (Int)
 | 0, _, _, _ => none
 | k + 1, x0, x1, x5 => if x5 < (x0.length : Int) then (if 0 ≤ x5 then (if ((rd_T104 x0 x5).f0) = x1 then (if ((rd_T104 x0 x5).f1) = (wrap64 (x1 + 1)) then ((laws_markText.f k (wrap64 ((wrap64 (x1 + 1)) + 1))).bind fun t424 => (if ((rd_T104 x0 x5).f2).toList = t424.toList then ((laws_heldSettingS.f k ((rd_T104 x0 x5).f3) (wrap64 ((wrap64 ((wrap64 (x1 + 1)) + 1)) + 1))).bind fun t426 => (if t426 < 0 then (some (-1)) else (laws_heldVersionS.l0 k x0 t426 (wrap64 (x5 + 1))))) else (some (-1)))) else (some (-1))) else (some (-1))) else (none)) else (some x1)
def laws_heldVersionS.f (k : Nat) (l0 : List (S104)) (a1 : Int) : Option (Int) := laws_heldVersionS.l0 k l0 a1 0
theorem laws_heldVersionS.mono_l : ∀ k, (∀ y0 y1 y2, LeO (laws_heldVersionS.l0 k y0 y1 y2) (laws_heldVersionS.l0 (k + 1) y0 y1 y2))
 | 0 => fun _ _ _ r h => by simp [laws_heldVersionS.l0] at h
 | k + 1 => by
  have ih0 := laws_heldVersionS.mono_l k
  ·
   intro y0 y1 y2
   unfold laws_heldVersionS.l0
   repeat' first
   | (with_reducible exact ih0 _ _ _)
   | (with_reducible exact laws_heldSettingS.mono _ _ _)
   | (with_reducible exact laws_markText.mono _ _)
   | (with_reducible exact LeO.refl _)
   | (with_reducible exact LeO.none _)
   | (with_reducible refine LeO.ite ?_ ?_)
   | (with_reducible refine LeO.bind ?_ (fun _ => ?_))
   | exact ih0 _ _ _
   | exact laws_heldSettingS.mono _ _ _
   | exact laws_markText.mono _ _
   | exact LeO.none _
   | refine LeO.ite ?_ ?_
   | refine LeO.bind ?_ (fun _ => ?_)
theorem laws_heldVersionS.mono : ∀ a0 a1 k, LeO (laws_heldVersionS.f k a0 a1) (laws_heldVersionS.f (k + 1) a0 a1) := by
 intro a0 a1 k
 have ih0 := laws_heldVersionS.mono_l k
 unfold laws_heldVersionS.f
 repeat' first
   | (with_reducible exact ih0 _ _ _)
   | (with_reducible exact laws_heldSettingS.mono _ _ _)
   | (with_reducible exact laws_markText.mono _ _)
   | (with_reducible exact LeO.refl _)
   | (with_reducible exact LeO.none _)
   | (with_reducible refine LeO.ite ?_ ?_)
   | (with_reducible refine LeO.bind ?_ (fun _ => ?_))
   | exact ih0 _ _ _
   | exact laws_heldSettingS.mono _ _ _
   | exact laws_markText.mono _ _
   | exact LeO.none _
   | refine LeO.ite ?_ ?_
   | refine LeO.bind ?_ (fun _ => ?_)
def laws_heldVersionS.T10 : Bool × List (List Nat × List Nat) := (true, [([], []), ([], []), ([0, 1], [0, 1]), ([2], [2]), ([3], [3]), ([], []), ([5], [5]), ([4, 6], [4, 6])])
def laws_heldVersionS.B10 : List Nat := [0, 0, 3, 7, 15, 0, 32, 127]
theorem laws_heldVersionS.tab10 : rtab .any (opsOf Try.f32 10) = laws_heldVersionS.T10 := by kernel_rfl
theorem laws_heldVersionS.bits10 : waitsOk laws_heldVersionS.T10.2 laws_heldVersionS.B10 = true := by kernel_rfl
set_option maxHeartbeats 8000000 in
set_option maxRecDepth 100000 in
theorem laws_heldVersionS.calls (k : Nat) (A0 : Option Addr) (c0 : Nat) (l0 : List (S104)) (a1 : Int) (r : Int) (w : World) (hr0 : Kd.C k104 w A0 l0.length l0) (hc0 : l0.length ≤ c0) (h : laws_heldVersionS.f k l0 a1 = some r) :
  Calls Try.prog 32 #[.slice A0 l0.length c0, .int .i64 a1] w fun e w' => e = .returned (.int .i64 r) ∧ Below w.heap.size w w' := by
 have HR0 := Aside0.mk hr0
 have HC0 := Aside0.mk hc0
 clear hr0 hc0
 have HB := Aside0.mk (Below.refl w.heap.size w)
 have H : (laws_heldVersionS.l0 k l0 a1 0) = some r := h
 clear h
 have H' := Aside0.mk H
 clear H
 go_enter Try.func32, Try.ntmps32
 go_wp2
 go_loopg [1, 5] k (fun kq v1 v5 w' => ∃ (x1_1 : Int) (x5_1 : Int), v1 = .int .i64 x1_1 ∧ v5 = .int .i64 x5_1 ∧ Aside0 (laws_heldVersionS.l0 kq l0 x1_1 x5_1 = some r) ∧ Aside0 (kq ≤ k) ∧ Aside0 (Below w.heap.size w w'))
 case atStart => exact ⟨(a1), (0), rs_, rs_, H', ⟨Nat.le_refl _⟩, ⟨bB_⟩⟩
 case round =>
  clear H'
  try clear p2
  obtain ⟨x1_1, x5_1, rfl, rfl, HA, HK1, HB⟩ := hrel
  cases gk with
  | zero => exact absurd HA.out (by simp [laws_heldVersionS.l0])
  | succ k1 =>
   have H := HA.out
   clear HA
   simp only [laws_heldVersionS.l0] at H
   by_cases c3 : x5_1 < (l0.length : Int)
   ·
    rw [if_pos c3] at H
    have c3b0 : decide (x5_1 < (l0.length : Int)) = true := decide_eq_true c3
    clear c3
    by_cases c4 : 0 ≤ x5_1
    ·
     rw [if_pos c4] at H
     have c4b0 : decide (0 ≤ x5_1) = true := decide_eq_true c4
     clear c4
     by_cases c5 : ((rd_T104 l0 x5_1).f0) = x1_1
     ·
      rw [if_pos c5] at H
      have c5b0 : (((rd_T104 l0 x5_1).f0) == x1_1) = true := beq_iff_eq.mpr c5
      have c5b1 : (((rd_T104 l0 x5_1).f0) != x1_1) = false := bne_eq_false_iff_eq.mpr c5
      clear c5
      by_cases c6 : ((rd_T104 l0 x5_1).f1) = (wrap64 (x1_1 + 1))
      ·
       rw [if_pos c6] at H
       have c6b0 : (((rd_T104 l0 x5_1).f1) == (wrap64 (x1_1 + 1))) = true := beq_iff_eq.mpr c6
       have c6b1 : (((rd_T104 l0 x5_1).f1) != (wrap64 (x1_1 + 1))) = false := bne_eq_false_iff_eq.mpr c6
       clear c6
       replace H := Option.bind_eq_some_iff.mp H
       obtain ⟨t424, A70, H⟩ := H
       replace H : (if ((rd_T104 l0 x5_1).f2).toList = t424.toList then ((laws_heldSettingS.f k1 ((rd_T104 l0 x5_1).f3) (wrap64 ((wrap64 ((wrap64 (x1_1 + 1)) + 1)) + 1))).bind fun t426 => (if t426 < 0 then (some (-1)) else (laws_heldVersionS.l0 k1 l0 t426 (wrap64 (x5_1 + 1))))) else (some (-1))) = some r := H
       have A7 := Aside0.mk A70
       clear A70
       by_cases c8 : ((rd_T104 l0 x5_1).f2).toList = t424.toList
       ·
        rw [if_pos c8] at H
        have c8b0 : (((rd_T104 l0 x5_1).f2).toList == t424.toList) = true := beq_iff_eq.mpr c8
        have c8b1 : (((rd_T104 l0 x5_1).f2).toList != t424.toList) = false := bne_eq_false_iff_eq.mpr c8
        clear c8
        replace H := Option.bind_eq_some_iff.mp H
        obtain ⟨t426, A90, H⟩ := H
        replace H : (if t426 < 0 then (some (-1)) else (laws_heldVersionS.l0 k1 l0 t426 (wrap64 (x5_1 + 1)))) = some r := H
        have A9 := Aside0.mk A90
        clear A90
        by_cases c10 : t426 < 0
        ·
         rw [if_pos c10] at H
         have c10b0 : decide (t426 < 0) = true := decide_eq_true c10
         clear c10
         obtain rfl := Option.some.inj H
         have p421 : 0 ≤ (x5_1 : Int) := of_decide_eq_true as_
         have q421 : x5_1 < (l0.length : Int) := of_decide_eq_true as_
         obtain ⟨ad421, A421_3, c421_3, e421, hx421_0, hx421_1, hx421_2, hx421_3, hl421_3, hi421_3⟩ := at_T104 HR0.out x5_1 p421 q421
         cases e421
         replace hx421_0 := cl_ HB hx421_0
         replace hx421_1 := cl_ HB hx421_1
         replace hx421_2 := cl_ HB hx421_2
         replace hx421_3 := cl_ HB hx421_3
         have HR421_3 := Aside0.mk hi421_3
         have HC421_3 := Aside0.mk hl421_3
         clear hi421_3 hl421_3
         replace p421 := eq_true p421
         replace q421 := eq_true q421
         have p422 : 0 ≤ (x5_1 : Int) := of_decide_eq_true as_
         have q422 : x5_1 < (l0.length : Int) := of_decide_eq_true as_
         obtain ⟨ad422, A422_3, c422_3, e422, hx422_0, hx422_1, hx422_2, hx422_3, hl422_3, hi422_3⟩ := at_T104 HR0.out x5_1 p422 q422
         obtain rfl : ad421 = ad422 := (by injection e422)
         replace hx422_0 := cl_ HB hx422_0
         replace hx422_1 := cl_ HB hx422_1
         replace hx422_2 := cl_ HB hx422_2
         replace hx422_3 := cl_ HB hx422_3
         have HR422_3 := Aside0.mk hi422_3
         have HC422_3 := Aside0.mk hl422_3
         clear hi422_3 hl422_3
         replace p422 := eq_true p422
         replace q422 := eq_true q422
         have ea_ := Option.some.inj (hx421_3.symm.trans hx422_3)
         injection ea_ with ea_ en_ ec_
         subst ea_
         subst ec_
         clear en_
         try go_wp2
         have n0_ := Aside0.mk (below_drew1 HB.out)
         clear HB
         have HB := n0_
         clear n0_
         have p423 : 0 ≤ (x5_1 : Int) := of_decide_eq_true as_
         have q423 : x5_1 < (l0.length : Int) := of_decide_eq_true as_
         obtain ⟨ad423, A423_3, c423_3, e423, hx423_0, hx423_1, hx423_2, hx423_3, hl423_3, hi423_3⟩ := at_T104 HR0.out x5_1 p423 q423
         have hw423_3 := hx423_3
         have hw423_2 := hx423_2
         have hw423_1 := hx423_1
         have hw423_0 := hx423_0
         obtain rfl : ad421 = ad423 := (by injection e423)
         replace hx423_0 := cl_ HB hx423_0
         replace hx423_1 := cl_ HB hx423_1
         replace hx423_2 := cl_ HB hx423_2
         replace hx423_3 := cl_ HB hx423_3
         have HR423_3 := Aside0.mk hi423_3
         have HC423_3 := Aside0.mk hl423_3
         clear hi423_3 hl423_3
         replace p423 := eq_true p423
         replace q423 := eq_true q423
         refine start_ (n := 8) (S := fun w' => w'.cell? (ad421.add ((x5_1).toNat * 4)) = some (.int .i64 ((rd_T104 l0 x5_1).f0)) ∧ w'.cell? ⟨(ad421.add ((x5_1).toNat * 4)).block, (ad421.add ((x5_1).toNat * 4)).off + 1, none⟩ = some (.int .i64 ((rd_T104 l0 x5_1).f1)) ∧ w'.cell? ⟨(ad421.add ((x5_1).toNat * 4)).block, (ad421.add ((x5_1).toNat * 4)).off + 2, none⟩ = some (.string ((rd_T104 l0 x5_1).f2)) ∧ w'.cell? ⟨(ad421.add ((x5_1).toNat * 4)).block, (ad421.add ((x5_1).toNat * 4)).off + 3, none⟩ = some (.slice A423_3 ((rd_T104 l0 x5_1).f3).length c423_3)) (ds := []) #[false, false, false, false, false, false, false, false] (by kernel_rfl) rfl rfl ⟨(cl_ HB hw423_0), (cl_ HB hw423_1), (cl_ HB hw423_2), (cl_ HB hw423_3)⟩ (fun hHeld => ?_); refine with_tabW laws_heldVersionS.tab10 laws_heldVersionS.bits10 (fun HT_ HW_ => ?_)
         generalize wr.drew = w11 at HB HR423_3 hx423_0 hx423_1 hx423_2 hx423_3 hHeld ⊢
         refine pure_ (i := 0) (N := some 30) (v := ?_) (a' := ?_) #[true, false, false, false, false, false, false, false] rfl rfl (any_of HT_.out (by kernel_rfl)) (fun _ _ _ h => h) (Or.inl ⟨by rfl, ?_⟩) ?_ ?_
         rotate_left
         ·
          intro w'
          go_simp
          with_reducible rfl
         rotate_left
         ·
          simp only [Act.put, q1_, q2_, q3_, i64_w, i32_w]
          rfl
         refine pure_ (i := 1) (N := some 31) (v := ?_) (a' := ?_) #[true, true, false, false, false, false, false, false] rfl rfl (any_of HT_.out (by kernel_rfl)) (fun _ _ _ h => h) (Or.inl ⟨by rfl, ?_⟩) ?_ ?_
         rotate_left
         ·
          intro w'
          go_simp
          with_reducible rfl
         rotate_left
         ·
          simp only [Act.put, q1_, q2_, q3_, i64_w, i32_w]
          rfl
         refine pure_ (i := 2) (N := some 32) (v := ?_) (a' := ?_) #[true, true, true, false, false, false, false, false] rfl rfl (any_of HT_.out (by kernel_rfl)) (fun _ _ _ h => h) (Or.inl ⟨by rfl, ?_⟩) ?_ ?_
         rotate_left
         ·
          intro w'
          go_simp
          with_reducible rfl
         rotate_left
         ·
          simp only [Act.put, q1_, q2_, q3_, i64_w, i32_w]
          rfl
         refine pure_ (i := 3) (N := some 33) (v := ?_) (a' := ?_) #[true, true, true, true, false, false, false, false] rfl rfl (any_of HT_.out (by kernel_rfl)) (fun _ _ _ h => h) (Or.inl ⟨by rfl, ?_⟩) ?_ ?_
         rotate_left
         ·
          intro w'
          go_simp
          with_reducible rfl
         rotate_left
         ·
          simp only [Act.put, q1_, q2_, q3_, i64_w, i32_w]
          rfl
         refine pure_ (i := 5) (N := some 35) (v := ?_) (a' := ?_) #[true, true, true, true, false, true, false, false] rfl rfl (any_of HT_.out (by kernel_rfl)) (fun _ _ _ h => h) (Or.inl ⟨by rfl, ?_⟩) ?_ ?_
         rotate_left
         ·
          intro w'
          go_simp
          with_reducible rfl
         rotate_left
         ·
          simp only [Act.put, q1_, q2_, q3_, i64_w, i32_w]
          rfl
         refine take_ (i := 4) (N := some 34) (v := ?_) (a' := ?_) #[true, true, true, true, true, true, false, false] rfl rfl (take_ofW HT_.out HW_.out (by kernel_rfl)) (fun _ _ _ h => h) (Or.inl ⟨by rfl, ?_⟩) hHeld ?_ ?_
         rotate_left
         ·
          rintro w' ⟨s0, s1, s2, s3⟩
          go_simp
          with_reducible rfl
         rotate_left
         ·
          simp only [Act.put, q1_, q2_, q3_, i64_w, i32_w]
          rfl
         refine one_ (i := 6) (N := some 36) #[true, true, true, true, true, true, true, false] rfl rfl (one_of HT_.out (by kernel_rfl)) (by decide) (fun K hK => ?_)
         refine goes_ Try.func61 (by kernel_rfl) rfl #[.int .i64 (wrap64 ((wrap64 (x1_1 + 1)) + 1))] (by rfl) rfl rfl mT_ ?_
         with_reducible refine (laws_markText.calls k1 (wrap64 ((wrap64 (x1_1 + 1)) + 1)) t424 _ A7.out).mono ?_
         rintro e w12 ⟨rfl, hb⟩
         refine ⟨_, rfl, ?_⟩
         have n0_ := Aside0.mk (below_step bB_ hb)
         clear HB
         have HB := n0_
         clear n0_
         (try clear hb)
         (try clear hb2)
         (try clear hk)
         (try clear hi)
         refine hK.out _ _ ⟨(cl_ HB hw423_0), (cl_ HB hw423_1), (cl_ HB hw423_2), (cl_ HB hw423_3)⟩ (fun hHeld => ?_)
         clear hK K
         refine norm_ (a' := ?_) ?_ ?_
         rotate_left
         ·
          show Act.put _ (some 36) _ = _
          simp only [Act.put, q1_, q2_, q3_, i64_w, i32_w]
          rfl
         refine pure_ (i := 7) (N := some 37) (v := ?_) (a' := ?_) #[true, true, true, true, true, true, true, true] rfl rfl (any_of HT_.out (by kernel_rfl)) (fun _ _ _ h => h) (Or.inl ⟨by rfl, ?_⟩) ?_ ?_
         rotate_left
         ·
          intro w'
          go_simp
          with_reducible rfl
         rotate_left
         ·
          simp only [Act.put, q1_, q2_, q3_, i64_w, i32_w]
          rfl
         refine done_ (done_of HT_.out (by kernel_rfl)) ?_
         have p425 : 0 ≤ (x5_1 : Int) := of_decide_eq_true as_
         have q425 : x5_1 < (l0.length : Int) := of_decide_eq_true as_
         obtain ⟨ad425, A425_3, c425_3, e425, hx425_0, hx425_1, hx425_2, hx425_3, hl425_3, hi425_3⟩ := at_T104 HR0.out x5_1 p425 q425
         obtain rfl : ad421 = ad425 := (by injection e425)
         (try (have u_ := hw423_3.symm.trans hx425_3; simp only [Option.some.injEq, Value.slice.injEq] at u_; obtain ⟨u1_, _, u2_⟩ := u_; have u1_ := u1_.symm; have u2_ := u2_.symm; subst u1_ u2_))
         replace hx425_0 := cl_ HB hx425_0
         replace hx425_1 := cl_ HB hx425_1
         replace hx425_2 := cl_ HB hx425_2
         replace hx425_3 := cl_ HB hx425_3
         have HR425_3 := Aside0.mk hi425_3
         have HC425_3 := Aside0.mk hl425_3
         clear hi425_3 hl425_3
         replace p425 := eq_true p425
         replace q425 := eq_true q425
         try go_wp2_with (first | ((with_reducible refine gate_callee (f := 18) rfl ?_); refine goesL_ (some 46) rfl rfl Try.func18 (by kernel_rfl) rfl #[.slice A425_3 ((rd_T104 l0 x5_1).f3).length c425_3, .int .i64 (wrap64 ((wrap64 ((wrap64 (x1_1 + 1)) + 1)) + 1))] rfl mT_ ?_; (with_reducible refine (laws_heldSettingS.calls k1 _ _ ((rd_T104 l0 x5_1).f3) (wrap64 ((wrap64 ((wrap64 (x1_1 + 1)) + 1)) + 1)) t426 _ ?side1 ?side2 A9.out).mono ?_); (case side1 => exact cA_ (Kd.C_below HR425_3.out HB.out)); (case side2 => exact HC425_3.out); rintro e w13 ⟨rfl, hb⟩; refine ⟨_, rfl, ?_⟩; have n0_ := Aside0.mk (below_step bB_ hb); clear HB; have HB := n0_; clear n0_; (try clear hb); (try clear hb2); (try clear hk); (try clear hi)))
         go_ret
         exact ⟨er_, bB_⟩
        ·
         rw [if_neg c10] at H
         have c10b0 : decide (t426 < 0) = false := decide_eq_false c10
         clear c10
         have H' := Aside0.mk H
         clear H
         have p421 : 0 ≤ (x5_1 : Int) := of_decide_eq_true as_
         have q421 : x5_1 < (l0.length : Int) := of_decide_eq_true as_
         obtain ⟨ad421, A421_3, c421_3, e421, hx421_0, hx421_1, hx421_2, hx421_3, hl421_3, hi421_3⟩ := at_T104 HR0.out x5_1 p421 q421
         cases e421
         replace hx421_0 := cl_ HB hx421_0
         replace hx421_1 := cl_ HB hx421_1
         replace hx421_2 := cl_ HB hx421_2
         replace hx421_3 := cl_ HB hx421_3
         have HR421_3 := Aside0.mk hi421_3
         have HC421_3 := Aside0.mk hl421_3
         clear hi421_3 hl421_3
         replace p421 := eq_true p421
         replace q421 := eq_true q421
         have p422 : 0 ≤ (x5_1 : Int) := of_decide_eq_true as_
         have q422 : x5_1 < (l0.length : Int) := of_decide_eq_true as_
         obtain ⟨ad422, A422_3, c422_3, e422, hx422_0, hx422_1, hx422_2, hx422_3, hl422_3, hi422_3⟩ := at_T104 HR0.out x5_1 p422 q422
         obtain rfl : ad421 = ad422 := (by injection e422)
         (try (have u_ := hw423_3.symm.trans hx422_3; simp only [Option.some.injEq, Value.slice.injEq] at u_; obtain ⟨u1_, _, u2_⟩ := u_; have u1_ := u1_.symm; have u2_ := u2_.symm; subst u1_ u2_))
         replace hx422_0 := cl_ HB hx422_0
         replace hx422_1 := cl_ HB hx422_1
         replace hx422_2 := cl_ HB hx422_2
         replace hx422_3 := cl_ HB hx422_3
         have HR422_3 := Aside0.mk hi422_3
         have HC422_3 := Aside0.mk hl422_3
         clear hi422_3 hl422_3
         replace p422 := eq_true p422
         replace q422 := eq_true q422
         have ea_ := Option.some.inj (hx421_3.symm.trans hx422_3)
         injection ea_ with ea_ en_ ec_
         subst ea_
         subst ec_
         clear en_
         try go_wp2
         have n0_ := Aside0.mk (below_drew1 HB.out)
         clear HB
         have HB := n0_
         clear n0_
         have p423 : 0 ≤ (x5_1 : Int) := of_decide_eq_true as_
         have q423 : x5_1 < (l0.length : Int) := of_decide_eq_true as_
         obtain ⟨ad423, A423_3, c423_3, e423, hx423_0, hx423_1, hx423_2, hx423_3, hl423_3, hi423_3⟩ := at_T104 HR0.out x5_1 p423 q423
         have hw423_3 := hx423_3
         have hw423_2 := hx423_2
         have hw423_1 := hx423_1
         have hw423_0 := hx423_0
         obtain rfl : ad421 = ad423 := (by injection e423)
         (try (have u_ := hw423_3.symm.trans hx423_3; simp only [Option.some.injEq, Value.slice.injEq] at u_; obtain ⟨u1_, _, u2_⟩ := u_; have u1_ := u1_.symm; have u2_ := u2_.symm; subst u1_ u2_))
         replace hx423_0 := cl_ HB hx423_0
         replace hx423_1 := cl_ HB hx423_1
         replace hx423_2 := cl_ HB hx423_2
         replace hx423_3 := cl_ HB hx423_3
         have HR423_3 := Aside0.mk hi423_3
         have HC423_3 := Aside0.mk hl423_3
         clear hi423_3 hl423_3
         replace p423 := eq_true p423
         replace q423 := eq_true q423
         refine start_ (n := 8) (S := fun w' => w'.cell? (ad421.add ((x5_1).toNat * 4)) = some (.int .i64 ((rd_T104 l0 x5_1).f0)) ∧ w'.cell? ⟨(ad421.add ((x5_1).toNat * 4)).block, (ad421.add ((x5_1).toNat * 4)).off + 1, none⟩ = some (.int .i64 ((rd_T104 l0 x5_1).f1)) ∧ w'.cell? ⟨(ad421.add ((x5_1).toNat * 4)).block, (ad421.add ((x5_1).toNat * 4)).off + 2, none⟩ = some (.string ((rd_T104 l0 x5_1).f2)) ∧ w'.cell? ⟨(ad421.add ((x5_1).toNat * 4)).block, (ad421.add ((x5_1).toNat * 4)).off + 3, none⟩ = some (.slice A423_3 ((rd_T104 l0 x5_1).f3).length c423_3)) (ds := []) #[false, false, false, false, false, false, false, false] (by kernel_rfl) rfl rfl ⟨(cl_ HB hw423_0), (cl_ HB hw423_1), (cl_ HB hw423_2), (cl_ HB hw423_3)⟩ (fun hHeld => ?_); refine with_tabW laws_heldVersionS.tab10 laws_heldVersionS.bits10 (fun HT_ HW_ => ?_)
         generalize wr.drew = w14 at HB HR423_3 hx423_0 hx423_1 hx423_2 hx423_3 hHeld ⊢
         refine pure_ (i := 0) (N := some 30) (v := ?_) (a' := ?_) #[true, false, false, false, false, false, false, false] rfl rfl (any_of HT_.out (by kernel_rfl)) (fun _ _ _ h => h) (Or.inl ⟨by rfl, ?_⟩) ?_ ?_
         rotate_left
         ·
          intro w'
          go_simp
          with_reducible rfl
         rotate_left
         ·
          simp only [Act.put, q1_, q2_, q3_, i64_w, i32_w]
          rfl
         refine pure_ (i := 1) (N := some 31) (v := ?_) (a' := ?_) #[true, true, false, false, false, false, false, false] rfl rfl (any_of HT_.out (by kernel_rfl)) (fun _ _ _ h => h) (Or.inl ⟨by rfl, ?_⟩) ?_ ?_
         rotate_left
         ·
          intro w'
          go_simp
          with_reducible rfl
         rotate_left
         ·
          simp only [Act.put, q1_, q2_, q3_, i64_w, i32_w]
          rfl
         refine pure_ (i := 2) (N := some 32) (v := ?_) (a' := ?_) #[true, true, true, false, false, false, false, false] rfl rfl (any_of HT_.out (by kernel_rfl)) (fun _ _ _ h => h) (Or.inl ⟨by rfl, ?_⟩) ?_ ?_
         rotate_left
         ·
          intro w'
          go_simp
          with_reducible rfl
         rotate_left
         ·
          simp only [Act.put, q1_, q2_, q3_, i64_w, i32_w]
          rfl
         refine pure_ (i := 3) (N := some 33) (v := ?_) (a' := ?_) #[true, true, true, true, false, false, false, false] rfl rfl (any_of HT_.out (by kernel_rfl)) (fun _ _ _ h => h) (Or.inl ⟨by rfl, ?_⟩) ?_ ?_
         rotate_left
         ·
          intro w'
          go_simp
          with_reducible rfl
         rotate_left
         ·
          simp only [Act.put, q1_, q2_, q3_, i64_w, i32_w]
          rfl
         refine pure_ (i := 5) (N := some 35) (v := ?_) (a' := ?_) #[true, true, true, true, false, true, false, false] rfl rfl (any_of HT_.out (by kernel_rfl)) (fun _ _ _ h => h) (Or.inl ⟨by rfl, ?_⟩) ?_ ?_
         rotate_left
         ·
          intro w'
          go_simp
          with_reducible rfl
         rotate_left
         ·
          simp only [Act.put, q1_, q2_, q3_, i64_w, i32_w]
          rfl
         refine take_ (i := 4) (N := some 34) (v := ?_) (a' := ?_) #[true, true, true, true, true, true, false, false] rfl rfl (take_ofW HT_.out HW_.out (by kernel_rfl)) (fun _ _ _ h => h) (Or.inl ⟨by rfl, ?_⟩) hHeld ?_ ?_
         rotate_left
         ·
          rintro w' ⟨s0, s1, s2, s3⟩
          go_simp
          with_reducible rfl
         rotate_left
         ·
          simp only [Act.put, q1_, q2_, q3_, i64_w, i32_w]
          rfl
         refine one_ (i := 6) (N := some 36) #[true, true, true, true, true, true, true, false] rfl rfl (one_of HT_.out (by kernel_rfl)) (by decide) (fun K hK => ?_)
         refine goes_ Try.func61 (by kernel_rfl) rfl #[.int .i64 (wrap64 ((wrap64 (x1_1 + 1)) + 1))] (by rfl) rfl rfl mT_ ?_
         with_reducible refine (laws_markText.calls k1 (wrap64 ((wrap64 (x1_1 + 1)) + 1)) t424 _ A7.out).mono ?_
         rintro e w15 ⟨rfl, hb⟩
         refine ⟨_, rfl, ?_⟩
         have n0_ := Aside0.mk (below_step bB_ hb)
         clear HB
         have HB := n0_
         clear n0_
         (try clear hb)
         (try clear hb2)
         (try clear hk)
         (try clear hi)
         refine hK.out _ _ ⟨(cl_ HB hw423_0), (cl_ HB hw423_1), (cl_ HB hw423_2), (cl_ HB hw423_3)⟩ (fun hHeld => ?_)
         clear hK K
         refine norm_ (a' := ?_) ?_ ?_
         rotate_left
         ·
          show Act.put _ (some 36) _ = _
          simp only [Act.put, q1_, q2_, q3_, i64_w, i32_w]
          rfl
         refine pure_ (i := 7) (N := some 37) (v := ?_) (a' := ?_) #[true, true, true, true, true, true, true, true] rfl rfl (any_of HT_.out (by kernel_rfl)) (fun _ _ _ h => h) (Or.inl ⟨by rfl, ?_⟩) ?_ ?_
         rotate_left
         ·
          intro w'
          go_simp
          with_reducible rfl
         rotate_left
         ·
          simp only [Act.put, q1_, q2_, q3_, i64_w, i32_w]
          rfl
         refine done_ (done_of HT_.out (by kernel_rfl)) ?_
         have p425 : 0 ≤ (x5_1 : Int) := of_decide_eq_true as_
         have q425 : x5_1 < (l0.length : Int) := of_decide_eq_true as_
         obtain ⟨ad425, A425_3, c425_3, e425, hx425_0, hx425_1, hx425_2, hx425_3, hl425_3, hi425_3⟩ := at_T104 HR0.out x5_1 p425 q425
         obtain rfl : ad421 = ad425 := (by injection e425)
         (try (have u_ := hw423_3.symm.trans hx425_3; simp only [Option.some.injEq, Value.slice.injEq] at u_; obtain ⟨u1_, _, u2_⟩ := u_; have u1_ := u1_.symm; have u2_ := u2_.symm; subst u1_ u2_))
         replace hx425_0 := cl_ HB hx425_0
         replace hx425_1 := cl_ HB hx425_1
         replace hx425_2 := cl_ HB hx425_2
         replace hx425_3 := cl_ HB hx425_3
         have HR425_3 := Aside0.mk hi425_3
         have HC425_3 := Aside0.mk hl425_3
         clear hi425_3 hl425_3
         replace p425 := eq_true p425
         replace q425 := eq_true q425
         try go_wp2_with (first | ((with_reducible refine gate_callee (f := 18) rfl ?_); refine goesL_ (some 46) rfl rfl Try.func18 (by kernel_rfl) rfl #[.slice A425_3 ((rd_T104 l0 x5_1).f3).length c425_3, .int .i64 (wrap64 ((wrap64 ((wrap64 (x1_1 + 1)) + 1)) + 1))] rfl mT_ ?_; (with_reducible refine (laws_heldSettingS.calls k1 _ _ ((rd_T104 l0 x5_1).f3) (wrap64 ((wrap64 ((wrap64 (x1_1 + 1)) + 1)) + 1)) t426 _ ?side1 ?side2 A9.out).mono ?_); (case side1 => exact cA_ (Kd.C_below HR425_3.out HB.out)); (case side2 => exact HC425_3.out); rintro e w16 ⟨rfl, hb⟩; refine ⟨_, rfl, ?_⟩; have n0_ := Aside0.mk (below_step bB_ hb); clear HB; have HB := n0_; clear n0_; (try clear hb); (try clear hb2); (try clear hk); (try clear hi)))
         go_roundg k1
         case measure => have := HK1.out; omega
         case rel => exact ⟨(t426), (wrap64 (x5_1 + 1)), rs_, rs_, H', ⟨by have := HK1.out; omega⟩, ⟨bB_⟩⟩
       ·
        rw [if_neg c8] at H
        have c8b0 : (((rd_T104 l0 x5_1).f2).toList == t424.toList) = false := beq_eq_false_iff_ne.mpr c8
        have c8b1 : (((rd_T104 l0 x5_1).f2).toList != t424.toList) = true := bne_iff_ne.mpr c8
        obtain rfl := Option.some.inj H
        have p421 : 0 ≤ (x5_1 : Int) := of_decide_eq_true as_
        have q421 : x5_1 < (l0.length : Int) := of_decide_eq_true as_
        obtain ⟨ad421, A421_3, c421_3, e421, hx421_0, hx421_1, hx421_2, hx421_3, hl421_3, hi421_3⟩ := at_T104 HR0.out x5_1 p421 q421
        cases e421
        replace hx421_0 := cl_ HB hx421_0
        replace hx421_1 := cl_ HB hx421_1
        replace hx421_2 := cl_ HB hx421_2
        replace hx421_3 := cl_ HB hx421_3
        have HR421_3 := Aside0.mk hi421_3
        have HC421_3 := Aside0.mk hl421_3
        clear hi421_3 hl421_3
        replace p421 := eq_true p421
        replace q421 := eq_true q421
        have p422 : 0 ≤ (x5_1 : Int) := of_decide_eq_true as_
        have q422 : x5_1 < (l0.length : Int) := of_decide_eq_true as_
        obtain ⟨ad422, A422_3, c422_3, e422, hx422_0, hx422_1, hx422_2, hx422_3, hl422_3, hi422_3⟩ := at_T104 HR0.out x5_1 p422 q422
        obtain rfl : ad421 = ad422 := (by injection e422)
        (try (have u_ := hw423_3.symm.trans hx422_3; simp only [Option.some.injEq, Value.slice.injEq] at u_; obtain ⟨u1_, _, u2_⟩ := u_; have u1_ := u1_.symm; have u2_ := u2_.symm; subst u1_ u2_))
        replace hx422_0 := cl_ HB hx422_0
        replace hx422_1 := cl_ HB hx422_1
        replace hx422_2 := cl_ HB hx422_2
        replace hx422_3 := cl_ HB hx422_3
        have HR422_3 := Aside0.mk hi422_3
        have HC422_3 := Aside0.mk hl422_3
        clear hi422_3 hl422_3
        replace p422 := eq_true p422
        replace q422 := eq_true q422
        have ea_ := Option.some.inj (hx421_3.symm.trans hx422_3)
        injection ea_ with ea_ en_ ec_
        subst ea_
        subst ec_
        clear en_
        try go_wp2
        have n0_ := Aside0.mk (below_drew1 HB.out)
        clear HB
        have HB := n0_
        clear n0_
        have p423 : 0 ≤ (x5_1 : Int) := of_decide_eq_true as_
        have q423 : x5_1 < (l0.length : Int) := of_decide_eq_true as_
        obtain ⟨ad423, A423_3, c423_3, e423, hx423_0, hx423_1, hx423_2, hx423_3, hl423_3, hi423_3⟩ := at_T104 HR0.out x5_1 p423 q423
        have hw423_3 := hx423_3
        have hw423_2 := hx423_2
        have hw423_1 := hx423_1
        have hw423_0 := hx423_0
        obtain rfl : ad421 = ad423 := (by injection e423)
        (try (have u_ := hw423_3.symm.trans hx423_3; simp only [Option.some.injEq, Value.slice.injEq] at u_; obtain ⟨u1_, _, u2_⟩ := u_; have u1_ := u1_.symm; have u2_ := u2_.symm; subst u1_ u2_))
        replace hx423_0 := cl_ HB hx423_0
        replace hx423_1 := cl_ HB hx423_1
        replace hx423_2 := cl_ HB hx423_2
        replace hx423_3 := cl_ HB hx423_3
        have HR423_3 := Aside0.mk hi423_3
        have HC423_3 := Aside0.mk hl423_3
        clear hi423_3 hl423_3
        replace p423 := eq_true p423
        replace q423 := eq_true q423
        refine start_ (n := 8) (S := fun w' => w'.cell? (ad421.add ((x5_1).toNat * 4)) = some (.int .i64 ((rd_T104 l0 x5_1).f0)) ∧ w'.cell? ⟨(ad421.add ((x5_1).toNat * 4)).block, (ad421.add ((x5_1).toNat * 4)).off + 1, none⟩ = some (.int .i64 ((rd_T104 l0 x5_1).f1)) ∧ w'.cell? ⟨(ad421.add ((x5_1).toNat * 4)).block, (ad421.add ((x5_1).toNat * 4)).off + 2, none⟩ = some (.string ((rd_T104 l0 x5_1).f2)) ∧ w'.cell? ⟨(ad421.add ((x5_1).toNat * 4)).block, (ad421.add ((x5_1).toNat * 4)).off + 3, none⟩ = some (.slice A423_3 ((rd_T104 l0 x5_1).f3).length c423_3)) (ds := []) #[false, false, false, false, false, false, false, false] (by kernel_rfl) rfl rfl ⟨(cl_ HB hw423_0), (cl_ HB hw423_1), (cl_ HB hw423_2), (cl_ HB hw423_3)⟩ (fun hHeld => ?_); refine with_tabW laws_heldVersionS.tab10 laws_heldVersionS.bits10 (fun HT_ HW_ => ?_)
        generalize wr.drew = w17 at HB HR423_3 hx423_0 hx423_1 hx423_2 hx423_3 hHeld ⊢
        refine pure_ (i := 0) (N := some 30) (v := ?_) (a' := ?_) #[true, false, false, false, false, false, false, false] rfl rfl (any_of HT_.out (by kernel_rfl)) (fun _ _ _ h => h) (Or.inl ⟨by rfl, ?_⟩) ?_ ?_
        rotate_left
        ·
         intro w'
         go_simp
         with_reducible rfl
        rotate_left
        ·
         simp only [Act.put, q1_, q2_, q3_, i64_w, i32_w]
         rfl
        refine pure_ (i := 1) (N := some 31) (v := ?_) (a' := ?_) #[true, true, false, false, false, false, false, false] rfl rfl (any_of HT_.out (by kernel_rfl)) (fun _ _ _ h => h) (Or.inl ⟨by rfl, ?_⟩) ?_ ?_
        rotate_left
        ·
         intro w'
         go_simp
         with_reducible rfl
        rotate_left
        ·
         simp only [Act.put, q1_, q2_, q3_, i64_w, i32_w]
         rfl
        refine pure_ (i := 2) (N := some 32) (v := ?_) (a' := ?_) #[true, true, true, false, false, false, false, false] rfl rfl (any_of HT_.out (by kernel_rfl)) (fun _ _ _ h => h) (Or.inl ⟨by rfl, ?_⟩) ?_ ?_
        rotate_left
        ·
         intro w'
         go_simp
         with_reducible rfl
        rotate_left
        ·
         simp only [Act.put, q1_, q2_, q3_, i64_w, i32_w]
         rfl
        refine pure_ (i := 3) (N := some 33) (v := ?_) (a' := ?_) #[true, true, true, true, false, false, false, false] rfl rfl (any_of HT_.out (by kernel_rfl)) (fun _ _ _ h => h) (Or.inl ⟨by rfl, ?_⟩) ?_ ?_
        rotate_left
        ·
         intro w'
         go_simp
         with_reducible rfl
        rotate_left
        ·
         simp only [Act.put, q1_, q2_, q3_, i64_w, i32_w]
         rfl
        refine pure_ (i := 5) (N := some 35) (v := ?_) (a' := ?_) #[true, true, true, true, false, true, false, false] rfl rfl (any_of HT_.out (by kernel_rfl)) (fun _ _ _ h => h) (Or.inl ⟨by rfl, ?_⟩) ?_ ?_
        rotate_left
        ·
         intro w'
         go_simp
         with_reducible rfl
        rotate_left
        ·
         simp only [Act.put, q1_, q2_, q3_, i64_w, i32_w]
         rfl
        refine take_ (i := 4) (N := some 34) (v := ?_) (a' := ?_) #[true, true, true, true, true, true, false, false] rfl rfl (take_ofW HT_.out HW_.out (by kernel_rfl)) (fun _ _ _ h => h) (Or.inl ⟨by rfl, ?_⟩) hHeld ?_ ?_
        rotate_left
        ·
         rintro w' ⟨s0, s1, s2, s3⟩
         go_simp
         with_reducible rfl
        rotate_left
        ·
         simp only [Act.put, q1_, q2_, q3_, i64_w, i32_w]
         rfl
        refine one_ (i := 6) (N := some 36) #[true, true, true, true, true, true, true, false] rfl rfl (one_of HT_.out (by kernel_rfl)) (by decide) (fun K hK => ?_)
        refine goes_ Try.func61 (by kernel_rfl) rfl #[.int .i64 (wrap64 ((wrap64 (x1_1 + 1)) + 1))] (by rfl) rfl rfl mT_ ?_
        with_reducible refine (laws_markText.calls k1 (wrap64 ((wrap64 (x1_1 + 1)) + 1)) t424 _ A7.out).mono ?_
        rintro e w18 ⟨rfl, hb⟩
        refine ⟨_, rfl, ?_⟩
        have n0_ := Aside0.mk (below_step bB_ hb)
        clear HB
        have HB := n0_
        clear n0_
        (try clear hb)
        (try clear hb2)
        (try clear hk)
        (try clear hi)
        refine hK.out _ _ ⟨(cl_ HB hw423_0), (cl_ HB hw423_1), (cl_ HB hw423_2), (cl_ HB hw423_3)⟩ (fun hHeld => ?_)
        clear hK K
        refine norm_ (a' := ?_) ?_ ?_
        rotate_left
        ·
         show Act.put _ (some 36) _ = _
         simp only [Act.put, q1_, q2_, q3_, i64_w, i32_w]
         rfl
        refine pure_ (i := 7) (N := some 37) (v := ?_) (a' := ?_) #[true, true, true, true, true, true, true, true] rfl rfl (any_of HT_.out (by kernel_rfl)) (fun _ _ _ h => h) (Or.inl ⟨by rfl, ?_⟩) ?_ ?_
        rotate_left
        ·
         intro w'
         go_simp
         with_reducible rfl
        rotate_left
        ·
         simp only [Act.put, q1_, q2_, q3_, i64_w, i32_w]
         rfl
        refine done_ (done_of HT_.out (by kernel_rfl)) ?_
        try go_wp2
        go_ret
        exact ⟨er_, bB_⟩
      ·
       rw [if_neg c6] at H
       have c6b0 : (((rd_T104 l0 x5_1).f1) == (wrap64 (x1_1 + 1))) = false := beq_eq_false_iff_ne.mpr c6
       have c6b1 : (((rd_T104 l0 x5_1).f1) != (wrap64 (x1_1 + 1))) = true := bne_iff_ne.mpr c6
       obtain rfl := Option.some.inj H
       have p421 : 0 ≤ (x5_1 : Int) := of_decide_eq_true as_
       have q421 : x5_1 < (l0.length : Int) := of_decide_eq_true as_
       obtain ⟨ad421, A421_3, c421_3, e421, hx421_0, hx421_1, hx421_2, hx421_3, hl421_3, hi421_3⟩ := at_T104 HR0.out x5_1 p421 q421
       cases e421
       replace hx421_0 := cl_ HB hx421_0
       replace hx421_1 := cl_ HB hx421_1
       replace hx421_2 := cl_ HB hx421_2
       replace hx421_3 := cl_ HB hx421_3
       have HR421_3 := Aside0.mk hi421_3
       have HC421_3 := Aside0.mk hl421_3
       clear hi421_3 hl421_3
       replace p421 := eq_true p421
       replace q421 := eq_true q421
       have p422 : 0 ≤ (x5_1 : Int) := of_decide_eq_true as_
       have q422 : x5_1 < (l0.length : Int) := of_decide_eq_true as_
       obtain ⟨ad422, A422_3, c422_3, e422, hx422_0, hx422_1, hx422_2, hx422_3, hl422_3, hi422_3⟩ := at_T104 HR0.out x5_1 p422 q422
       obtain rfl : ad421 = ad422 := (by injection e422)
       (try (have u_ := hw423_3.symm.trans hx422_3; simp only [Option.some.injEq, Value.slice.injEq] at u_; obtain ⟨u1_, _, u2_⟩ := u_; have u1_ := u1_.symm; have u2_ := u2_.symm; subst u1_ u2_))
       replace hx422_0 := cl_ HB hx422_0
       replace hx422_1 := cl_ HB hx422_1
       replace hx422_2 := cl_ HB hx422_2
       replace hx422_3 := cl_ HB hx422_3
       have HR422_3 := Aside0.mk hi422_3
       have HC422_3 := Aside0.mk hl422_3
       clear hi422_3 hl422_3
       replace p422 := eq_true p422
       replace q422 := eq_true q422
       have ea_ := Option.some.inj (hx421_3.symm.trans hx422_3)
       injection ea_ with ea_ en_ ec_
       subst ea_
       subst ec_
       clear en_
       go_wp2
       go_ret
       exact ⟨er_, bB_⟩
     ·
      rw [if_neg c5] at H
      have c5b0 : (((rd_T104 l0 x5_1).f0) == x1_1) = false := beq_eq_false_iff_ne.mpr c5
      have c5b1 : (((rd_T104 l0 x5_1).f0) != x1_1) = true := bne_iff_ne.mpr c5
      obtain rfl := Option.some.inj H
      have p421 : 0 ≤ (x5_1 : Int) := of_decide_eq_true as_
      have q421 : x5_1 < (l0.length : Int) := of_decide_eq_true as_
      obtain ⟨ad421, A421_3, c421_3, e421, hx421_0, hx421_1, hx421_2, hx421_3, hl421_3, hi421_3⟩ := at_T104 HR0.out x5_1 p421 q421
      cases e421
      replace hx421_0 := cl_ HB hx421_0
      replace hx421_1 := cl_ HB hx421_1
      replace hx421_2 := cl_ HB hx421_2
      replace hx421_3 := cl_ HB hx421_3
      have HR421_3 := Aside0.mk hi421_3
      have HC421_3 := Aside0.mk hl421_3
      clear hi421_3 hl421_3
      replace p421 := eq_true p421
      replace q421 := eq_true q421
      go_wp2
      go_ret
      exact ⟨er_, bB_⟩
    ·
     rw [if_neg c4] at H
     exact absurd H (by simp)
   ·
    rw [if_neg c3] at H
    have c3b0 : decide (x5_1 < (l0.length : Int)) = false := decide_eq_false c3
    clear c3
    obtain rfl := Option.some.inj H
    go_wp2
    go_ret
    exact ⟨er_, bB_⟩


end Go.Proofs.Ytenjhbkpcelidaa.PFnExactMergeVersions
