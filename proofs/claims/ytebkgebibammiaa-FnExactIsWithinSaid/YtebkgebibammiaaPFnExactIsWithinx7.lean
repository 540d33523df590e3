-- PRINTED by print.py (a twelfth state) out of the translation. Not trusted: Lean checks it.
import Derived.Test.YtebkgebibammiaaPFnExactIsWithinx0
import Derived.Test.YtebkgebibammiaaPFnExactIsWithinx4
import Derived.Test.YtebkgebibammiaaPFnExactIsWithinx5
import Derived.Test.YtebkgebibammiaaPFnExactIsWithinx6
namespace Go.Proofs.Ytebkgebibammiaa.PFnExactIsWithin
open Go.RowKit Go.Proofs.YtebkgebibammiaaW.PrintWords Go.Proofs.YtebkgebibammiaaW.PrintLast Go.Proofs.YtebkgebibammiaaW.PrintMore
attribute [local go_sem] max2_int min2_int max_two min_two max_three min_three max_four min_four   -- for this text's walks alone
set_option linter.unusedVariables false
set_option linter.unusedSimpArgs false

/-! ### spec_l13Cost: function 92 -/
mutual
def spec_l13Cost.l0 : Nat → List (S77) → List (List Bool) → List Int → Int → Int → Option (Int × Bool)
 | 0, _, _, _, _, _ => none
 | k + 1, x0, x1, x2, x8, x9 => if x9 < (x1.length : Int) then (if 0 ≤ x9 then (if x9 < (x2.length : Int) then ((spec_l13Share.f k x0 (rd_L5 x1 x9) (rd x2 x9)).bind fun bt222 => (if bt222.2.2 = true then (spec_l13Cost.l1 k x0 x1 x2 (wrap64 (x8 + bt222.2.1)) x9 0) else (some (0, false)))) else (none)) else (none)) else (some (x8, true))
def spec_l13Cost.l1 : Nat → List (S77) → List (List Bool) → List Int → Int → Int → Int → Option (Int × Bool)
 | 0, _, _, _, _, _, _ => none
 | k + 1, x0, x1, x2, x8, x9, x13 => if x13 < (x0.length : Int) then (if 0 ≤ x9 then (if x9 < (x1.length : Int) then (if 0 ≤ x13 then (if x13 < ((rd_L5 x1 x9).length : Int) then (if rdOf false (rd_L5 x1 x9) x13 = true then (if x9 = 0 then (spec_l13Cost.l1 k x0 x1 x2 (wrap64 (x8 + ((rd_T77 x0 x13).f4))) x9 (wrap64 (x13 + 1))) else (if 0 ≤ (wrap64 (x9 - 1)) then (if (wrap64 (x9 - 1)) < (x1.length : Int) then (if x13 < ((rd_L5 x1 (wrap64 (x9 - 1))).length : Int) then (if (rdOf false (rd_L5 x1 (wrap64 (x9 - 1))) x13 = true) then (spec_l13Cost.l1 k x0 x1 x2 x8 x9 (wrap64 (x13 + 1))) else (spec_l13Cost.l1 k x0 x1 x2 (wrap64 (x8 + ((rd_T77 x0 x13).f4))) x9 (wrap64 (x13 + 1)))) else (none)) else (none)) else (none))) else (spec_l13Cost.l1 k x0 x1 x2 x8 x9 (wrap64 (x13 + 1)))) else (none)) else (none)) else (none)) else (none)) else (spec_l13Cost.l0 k x0 x1 x2 x8 (wrap64 (x9 + 1)))
end
def spec_l13Cost.f (k : Nat) (l0 : List (S77)) (l1 : List (List Bool)) (l2 : List Int) : Option (Int × Bool) := spec_l13Cost.l0 k l0 l1 l2 0 0
theorem spec_l13Cost.mono_l : ∀ k, (∀ y0 y1 y2 y3 y4, LeO (spec_l13Cost.l0 k y0 y1 y2 y3 y4) (spec_l13Cost.l0 (k + 1) y0 y1 y2 y3 y4)) ∧ (∀ y0 y1 y2 y3 y4 y5, LeO (spec_l13Cost.l1 k y0 y1 y2 y3 y4 y5) (spec_l13Cost.l1 (k + 1) y0 y1 y2 y3 y4 y5))
 | 0 => ⟨fun _ _ _ _ _ r h => by simp [spec_l13Cost.l0] at h, fun _ _ _ _ _ _ r h => by simp [spec_l13Cost.l1] at h⟩
 | k + 1 => by
  obtain ⟨ih0, ih1⟩ := spec_l13Cost.mono_l k
  refine ⟨?_, ?_⟩
  ·
   intro y0 y1 y2 y3 y4
   unfold spec_l13Cost.l0
   repeat' first
   | (with_reducible exact ih0 _ _ _ _ _)
   | (with_reducible exact ih1 _ _ _ _ _ _)
   | (with_reducible exact spec_l13Share.mono _ _ _ _)
   | (with_reducible exact LeO.refl _)
   | (with_reducible exact LeO.none _)
   | (with_reducible refine LeO.ite ?_ ?_)
   | (with_reducible refine LeO.bind ?_ (fun _ => ?_))
   | exact ih0 _ _ _ _ _
   | exact ih1 _ _ _ _ _ _
   | exact spec_l13Share.mono _ _ _ _
   | exact LeO.none _
   | refine LeO.ite ?_ ?_
   | refine LeO.bind ?_ (fun _ => ?_)
  ·
   intro y0 y1 y2 y3 y4 y5
   unfold spec_l13Cost.l1
   repeat' first
   | (with_reducible exact ih0 _ _ _ _ _)
   | (with_reducible exact ih1 _ _ _ _ _ _)
   | (with_reducible exact spec_l13Share.mono _ _ _ _)
   | (with_reducible exact LeO.refl _)
   | (with_reducible exact LeO.none _)
   | (with_reducible refine LeO.ite ?_ ?_)
   | (with_reducible refine LeO.bind ?_ (fun _ => ?_))
   | exact ih0 _ _ _ _ _
   | exact ih1 _ _ _ _ _ _
   | exact spec_l13Share.mono _ _ _ _
   | exact LeO.none _
   | refine LeO.ite ?_ ?_
   | refine LeO.bind ?_ (fun _ => ?_)
theorem spec_l13Cost.mono : ∀ a0 a1 a2 k, LeO (spec_l13Cost.f k a0 a1 a2) (spec_l13Cost.f (k + 1) a0 a1 a2) := by
 intro a0 a1 a2 k
 obtain ⟨ih0, ih1⟩ := spec_l13Cost.mono_l k
 unfold spec_l13Cost.f
 repeat' first
   | (with_reducible exact ih0 _ _ _ _ _)
   | (with_reducible exact ih1 _ _ _ _ _ _)
   | (with_reducible exact spec_l13Share.mono _ _ _ _)
   | (with_reducible exact LeO.refl _)
   | (with_reducible exact LeO.none _)
   | (with_reducible refine LeO.ite ?_ ?_)
   | (with_reducible refine LeO.bind ?_ (fun _ => ?_))
   | exact ih0 _ _ _ _ _
   | exact ih1 _ _ _ _ _ _
   | exact spec_l13Share.mono _ _ _ _
   | exact LeO.none _
   | refine LeO.ite ?_ ?_
   | refine LeO.bind ?_ (fun _ => ?_)
def spec_l13Cost.T5 : Bool × List (List Nat × List Nat) := (true, [([], []), ([], []), ([], []), ([1, 2], [1, 2]), ([3], [3]), ([], []), ([], []), ([5, 6], [5, 6]), ([7], [7]), ([0, 4, 8], [0, 4, 8]), ([9], [9]), ([10], [10]), ([10], [10]), ([10], [10]), ([11, 9, 0, 1, 2, 3, 4, 5, 6, 7, 8, 9, 10, 11], [11]), ([12, 14, 0, 1, 2, 3, 4, 5, 6, 7, 8, 9, 10, 11, 12, 14], [12]), ([13, 15, 0, 1, 2, 3, 4, 5, 6, 7, 8, 9, 10, 11, 12, 13, 14, 15], [13])])
def spec_l13Cost.B5 : List Nat := [0, 0, 0, 6, 14, 0, 0, 96, 224, 511, 1023, 2047, 2047, 2047, 4095, 24575, 65535]
theorem spec_l13Cost.tab5 : rtab .any (opsOf Try.f92 5) = spec_l13Cost.T5 := by kernel_rfl
theorem spec_l13Cost.bits5 : waitsOk spec_l13Cost.T5.2 spec_l13Cost.B5 = true := by kernel_rfl
set_option maxHeartbeats 8000000 in
set_option maxRecDepth 100000 in
theorem spec_l13Cost.calls (k : Nat) (A0 : Option Addr) (c0 : Nat) (l0 : List (S77)) (A1 : Option Addr) (c1 : Nat) (l1 : List (List Bool)) (A2 : Option Addr) (c2 : Nat) (l2 : List Int) (r1 : Int) (r2 : Bool) (w : World) (hr0 : Kd.C k77 w A0 l0.length l0) (hc0 : l0.length ≤ c0) (hr1 : Kd.C (Kd.slice 4 Kd.bool) w A1 l1.length l1) (hc1 : l1.length ≤ c1) (hr2 : Kd.C (Kd.int .i64) w A2 l2.length l2) (hc2 : l2.length ≤ c2) (h : spec_l13Cost.f k l0 l1 l2 = some (r1, r2)) :
  Calls Try.prog 92 #[.slice A0 l0.length c0, .slice A1 l1.length c1, .slice A2 l2.length c2] w fun e w' => e = .returned (.tuple #[.int .i64 r1, .bool r2]) ∧ Below w.heap.size w w' := by
 have HR0 := Aside0.mk hr0
 have HC0 := Aside0.mk hc0
 clear hr0 hc0
 have HR1 := Aside0.mk hr1
 have HC1 := Aside0.mk hc1
 clear hr1 hc1
 have HR2 := Aside0.mk hr2
 have HC2 := Aside0.mk hc2
 clear hr2 hc2
 have HB := Aside0.mk (Below.refl w.heap.size w)
 have H : (spec_l13Cost.l0 k l0 l1 l2 0 0) = some (r1, r2) := h
 clear h
 have H' := Aside0.mk H
 clear H
 go_enter Try.func92, Try.ntmps92
 go_wp2
 go_loopg [8, 9] k (fun kq v8 v9 w' => ∃ (x8_1 : Int) (x9_1 : Int), v8 = .int .i64 x8_1 ∧ v9 = .int .i64 x9_1 ∧ Aside0 (spec_l13Cost.l0 kq l0 l1 l2 x8_1 x9_1 = some (r1, r2)) ∧ Aside0 (kq ≤ k) ∧ Aside0 (Below w.heap.size w w'))
 case atStart => exact ⟨(0), (0), rs_, rs_, H', ⟨Nat.le_refl _⟩, ⟨bB_⟩⟩
 case round =>
  clear H'
  try clear c1
  try clear c2
  try clear p2
  obtain ⟨x8_1, x9_1, rfl, rfl, HA, HK1, HB⟩ := hrel
  cases gk with
  | zero => exact absurd HA.out (by simp [spec_l13Cost.l0])
  | succ k1 =>
   have H := HA.out
   clear HA
   simp only [spec_l13Cost.l0] at H
   by_cases c4 : x9_1 < (l1.length : Int)
   ·
    rw [if_pos c4] at H
    have c4b0 : decide (x9_1 < (l1.length : Int)) = true := decide_eq_true c4
    clear c4
    by_cases c5 : 0 ≤ x9_1
    ·
     rw [if_pos c5] at H
     have c5b0 : decide (0 ≤ x9_1) = true := decide_eq_true c5
     clear c5
     by_cases c6 : x9_1 < (l2.length : Int)
     ·
      rw [if_pos c6] at H
      have c6b0 : decide (x9_1 < (l2.length : Int)) = true := decide_eq_true c6
      clear c6
      replace H := Option.bind_eq_some_iff.mp H
      obtain ⟨⟨t222, t223, t224⟩, A70, H⟩ := H
      replace H : (if t224 = true then (spec_l13Cost.l1 k1 l0 l1 l2 (wrap64 (x8_1 + t223)) x9_1 0) else (some (0, false))) = some (r1, r2) := H
      have A7 := Aside0.mk A70
      clear A70
      by_cases c8 : t224 = true
      ·
       subst c8
       have H1 : (spec_l13Cost.l1 k1 l0 l1 l2 (wrap64 (x8_1 + t223)) x9_1 0) = some (r1, r2) := by rw [if_pos rfl] at H; exact H
       clear H
       have H := H1
       clear H1
       have H' := Aside0.mk H
       clear H
       try go_wp2
       have n0_ := Aside0.mk (below_drew1 HB.out)
       clear HB
       have HB := n0_
       clear n0_
       have p220 : 0 ≤ (x9_1 : Int) := of_decide_eq_true as_
       have q220 : x9_1 < (l1.length : Int) := of_decide_eq_true as_
       obtain ⟨ad220, A220_0, c220_0, e220, hx220_0, hl220_0, hi220_0⟩ := at_L5 HR1.out x9_1 p220 q220
       have hw220_0 := hx220_0
       cases e220
       replace hx220_0 := cl_ HB hx220_0
       have HR220_0 := Aside0.mk hi220_0
       have HC220_0 := Aside0.mk hl220_0
       clear hi220_0 hl220_0
       replace p220 := eq_true p220
       replace q220 := eq_true q220
       have p221 : 0 ≤ (x9_1 : Int) := of_decide_eq_true as_
       have q221 : x9_1 < (l2.length : Int) := of_decide_eq_true as_
       obtain ⟨ad221, e221, hx221_0⟩ := Kd.at_int HR2.out x9_1 p221 q221
       have hw221_0 := hx221_0
       cases e221
       replace hx221_0 := cl_ HB hx221_0
       replace p221 := eq_true p221
       replace q221 := eq_true q221
       refine start_ (n := 17) (S := fun w' => w'.cell? (ad220.add (x9_1).toNat) = some (.slice A220_0 (rd_L5 l1 x9_1).length c220_0) ∧ w'.cell? (ad221.add (x9_1).toNat) = some (.int .i64 (rd l2 x9_1))) (ds := []) #[false, false, false, false, false, false, false, false, false, false, false, false, false, false, false, false, false] (by kernel_rfl) rfl rfl ⟨(cl_ HB hw220_0), (cl_ HB hw221_0)⟩ (fun hHeld => ?_); refine with_tabW spec_l13Cost.tab5 spec_l13Cost.bits5 (fun HT_ HW_ => ?_)
       generalize wr.drew = w9 at HB HR220_0 hx220_0 hx221_0 hHeld ⊢
       refine pure_ (i := 0) (N := some 21) (v := ?_) (a' := ?_) #[true, false, false, false, false, false, false, false, false, false, false, false, false, false, false, false, false] rfl rfl (any_of HT_.out (by kernel_rfl)) (fun _ _ _ h => h) (Or.inl ⟨by rfl, ?_⟩) ?_ ?_
       rotate_left
       ·
        intro w'
        go_simp
        with_reducible rfl
       rotate_left
       ·
        simp only [Act.put, q1_, q2_, q3_, i64_w, i32_w]
        rfl
       refine pure_ (i := 1) (N := some 22) (v := ?_) (a' := ?_) #[true, true, false, false, false, false, false, false, false, false, false, false, false, false, false, false, false] rfl rfl (any_of HT_.out (by kernel_rfl)) (fun _ _ _ h => h) (Or.inl ⟨by rfl, ?_⟩) ?_ ?_
       rotate_left
       ·
        intro w'
        go_simp
        with_reducible rfl
       rotate_left
       ·
        simp only [Act.put, q1_, q2_, q3_, i64_w, i32_w]
        rfl
       refine pure_ (i := 2) (N := some 23) (v := ?_) (a' := ?_) #[true, true, true, false, false, false, false, false, false, false, false, false, false, false, false, false, false] rfl rfl (any_of HT_.out (by kernel_rfl)) (fun _ _ _ h => h) (Or.inl ⟨by rfl, ?_⟩) ?_ ?_
       rotate_left
       ·
        intro w'
        go_simp
        with_reducible rfl
       rotate_left
       ·
        simp only [Act.put, q1_, q2_, q3_, i64_w, i32_w]
        rfl
       refine pure_ (i := 3) (N := some 24) (v := ?_) (a' := ?_) #[true, true, true, true, false, false, false, false, false, false, false, false, false, false, false, false, false] rfl rfl (any_of HT_.out (by kernel_rfl)) (fun _ _ _ h => h) (Or.inl ⟨by rfl, ?_⟩) ?_ ?_
       rotate_left
       ·
        intro w'
        go_simp
        with_reducible rfl
       rotate_left
       ·
        simp only [Act.put, q1_, q2_, q3_, i64_w, i32_w]
        rfl
       refine pure_ (i := 5) (N := some 26) (v := ?_) (a' := ?_) #[true, true, true, true, false, true, false, false, false, false, false, false, false, false, false, false, false] rfl rfl (any_of HT_.out (by kernel_rfl)) (fun _ _ _ h => h) (Or.inl ⟨by rfl, ?_⟩) ?_ ?_
       rotate_left
       ·
        intro w'
        go_simp
        with_reducible rfl
       rotate_left
       ·
        simp only [Act.put, q1_, q2_, q3_, i64_w, i32_w]
        rfl
       refine pure_ (i := 6) (N := some 27) (v := ?_) (a' := ?_) #[true, true, true, true, false, true, true, false, false, false, false, false, false, false, false, false, false] rfl rfl (any_of HT_.out (by kernel_rfl)) (fun _ _ _ h => h) (Or.inl ⟨by rfl, ?_⟩) ?_ ?_
       rotate_left
       ·
        intro w'
        go_simp
        with_reducible rfl
       rotate_left
       ·
        simp only [Act.put, q1_, q2_, q3_, i64_w, i32_w]
        rfl
       refine pure_ (i := 7) (N := some 28) (v := ?_) (a' := ?_) #[true, true, true, true, false, true, true, true, false, false, false, false, false, false, false, false, false] rfl rfl (any_of HT_.out (by kernel_rfl)) (fun _ _ _ h => h) (Or.inl ⟨by rfl, ?_⟩) ?_ ?_
       rotate_left
       ·
        intro w'
        go_simp
        with_reducible rfl
       rotate_left
       ·
        simp only [Act.put, q1_, q2_, q3_, i64_w, i32_w]
        rfl
       refine take_ (i := 4) (N := some 25) (v := ?_) (a' := ?_) #[true, true, true, true, true, true, true, true, false, false, false, false, false, false, false, false, false] rfl rfl (take_ofW HT_.out HW_.out (by kernel_rfl)) (fun _ _ _ h => h) (Or.inl ⟨by rfl, ?_⟩) hHeld ?_ ?_
       rotate_left
       ·
        rintro w' ⟨s0, s1⟩
        go_simp
        with_reducible rfl
       rotate_left
       ·
        simp only [Act.put, q1_, q2_, q3_, i64_w, i32_w]
        rfl
       refine take_ (i := 8) (N := some 29) (v := ?_) (a' := ?_) #[true, true, true, true, true, true, true, true, true, false, false, false, false, false, false, false, false] rfl rfl (take_ofW HT_.out HW_.out (by kernel_rfl)) (fun _ _ _ h => h) (Or.inl ⟨by rfl, ?_⟩) hHeld ?_ ?_
       rotate_left
       ·
        rintro w' ⟨s0, s1⟩
        go_simp
        with_reducible rfl
       rotate_left
       ·
        simp only [Act.put, q1_, q2_, q3_, i64_w, i32_w]
        rfl
       refine one_ (i := 9) (N := some 30) #[true, true, true, true, true, true, true, true, true, true, false, false, false, false, false, false, false] rfl rfl (one_of HT_.out (by kernel_rfl)) (by decide) (fun K hK => ?_)
       refine goes_ Try.func66 (by kernel_rfl) rfl #[.slice A0 l0.length c0, .slice A220_0 (rd_L5 l1 x9_1).length c220_0, .int .i64 (rd l2 x9_1)] (by rfl) rfl rfl mT_ ?_
       with_reducible refine (spec_l13Share.calls k1 _ _ l0 _ _ (rd_L5 l1 x9_1) (rd l2 x9_1) t222 t223 true _ ?side1 ?side2 ?side3 ?side4 A7.out).mono ?_
       (case side1 => exact cA_ (Kd.C_below HR0.out HB.out))
       (case side2 => exact HC0.out)
       (case side3 => exact cA_ (Kd.C_below HR220_0.out HB.out))
       (case side4 => exact HC220_0.out)
       rintro e w10 ⟨v225, rfl, ho0, hb⟩
       refine ⟨_, rfl, ?_⟩
       have n0_ := Aside0.mk (Kd.R_lower ho0 (below_size bB_))
       have n1_ := Aside0.mk (below_step bB_ hb)
       clear HB
       have HO226 := n0_
       have HB := n1_
       clear n0_ n1_
       (try clear hb)
       (try clear hb2)
       (try clear hk)
       (try clear hi)
       (try clear ho0)
       refine hK.out _ _ ⟨(cl_ HB hw220_0), (cl_ HB hw221_0)⟩ (fun hHeld => ?_)
       clear hK K
       refine norm_ (a' := ?_) ?_ ?_
       rotate_left
       ·
        show Act.put _ (some 30) _ = _
        simp only [Act.put, q1_, q2_, q3_, i64_w, i32_w]
        rfl
       refine pure_ (i := 10) (N := some 20) (v := ?_) (a' := ?_) #[true, true, true, true, true, true, true, true, true, true, true, false, false, false, false, false, false] rfl rfl (any_of HT_.out (by kernel_rfl)) (fun _ _ _ h => h) (Or.inl ⟨by rfl, ?_⟩) ?_ ?_
       rotate_left
       ·
        intro w'
        go_simp
        with_reducible rfl
       rotate_left
       ·
        simp only [Act.put, q1_, q2_, q3_, i64_w, i32_w]
        rfl
       refine pure_ (i := 11) (N := some 31) (v := ?_) (a' := ?_) #[true, true, true, true, true, true, true, true, true, true, true, true, false, false, false, false, false] rfl rfl (any_of HT_.out (by kernel_rfl)) (fun _ _ _ h => h) (Or.inl ⟨by rfl, ?_⟩) ?_ ?_
       rotate_left
       ·
        intro w'
        go_simp
        with_reducible rfl
       rotate_left
       ·
        simp only [Act.put, q1_, q2_, q3_, i64_w, i32_w]
        rfl
       refine pure_ (i := 12) (N := some 32) (v := ?_) (a' := ?_) #[true, true, true, true, true, true, true, true, true, true, true, true, true, false, false, false, false] rfl rfl (any_of HT_.out (by kernel_rfl)) (fun _ _ _ h => h) (Or.inl ⟨by rfl, ?_⟩) ?_ ?_
       rotate_left
       ·
        intro w'
        go_simp
        with_reducible rfl
       rotate_left
       ·
        simp only [Act.put, q1_, q2_, q3_, i64_w, i32_w]
        rfl
       refine pure_ (i := 13) (N := some 33) (v := ?_) (a' := ?_) #[true, true, true, true, true, true, true, true, true, true, true, true, true, true, false, false, false] rfl rfl (any_of HT_.out (by kernel_rfl)) (fun _ _ _ h => h) (Or.inl ⟨by rfl, ?_⟩) ?_ ?_
       rotate_left
       ·
        intro w'
        go_simp
        with_reducible rfl
       rotate_left
       ·
        simp only [Act.put, q1_, q2_, q3_, i64_w, i32_w]
        rfl
       refine pure_ (i := 14) (N := some 10) (v := ?_) (a' := ?_) #[true, true, true, true, true, true, true, true, true, true, true, true, true, true, true, false, false] rfl rfl (any_of HT_.out (by kernel_rfl)) (fun _ _ _ h => h) (Or.inl ⟨by rfl, ?_⟩) ?_ ?_
       rotate_left
       ·
        intro w'
        go_simp
        with_reducible rfl
       rotate_left
       ·
        simp only [Act.put, q1_, q2_, q3_, i64_w, i32_w]
        rfl
       refine pure_ (i := 15) (N := some 11) (v := ?_) (a' := ?_) #[true, true, true, true, true, true, true, true, true, true, true, true, true, true, true, true, false] rfl rfl (any_of HT_.out (by kernel_rfl)) (fun _ _ _ h => h) (Or.inl ⟨by rfl, ?_⟩) ?_ ?_
       rotate_left
       ·
        intro w'
        go_simp
        with_reducible rfl
       rotate_left
       ·
        simp only [Act.put, q1_, q2_, q3_, i64_w, i32_w]
        rfl
       refine pure_ (i := 16) (N := some 12) (v := ?_) (a' := ?_) #[true, true, true, true, true, true, true, true, true, true, true, true, true, true, true, true, true] rfl rfl (any_of HT_.out (by kernel_rfl)) (fun _ _ _ h => h) (Or.inl ⟨by rfl, ?_⟩) ?_ ?_
       rotate_left
       ·
        intro w'
        go_simp
        with_reducible rfl
       rotate_left
       ·
        simp only [Act.put, q1_, q2_, q3_, i64_w, i32_w]
        rfl
       refine done_ (done_of HT_.out (by kernel_rfl)) ?_
       try go_wp2
       go_loopg [8, 13] k1 (fun kq v8 v13 w' => ∃ (x8_2 : Int) (x13_2 : Int), v8 = .int .i64 x8_2 ∧ v13 = .int .i64 x13_2 ∧ Aside0 (spec_l13Cost.l1 kq l0 l1 l2 x8_2 x9_1 x13_2 = some (r1, r2)) ∧ Aside0 (kq ≤ k1) ∧ Aside0 (Below w.heap.size w w'))
       case atStart => exact ⟨(wrap64 (x8_1 + t223)), (0), rs_, rs_, H', ⟨Nat.le_refl _⟩, ⟨bB_⟩⟩
       case round =>
        clear H'
        try clear c1
        try clear c2
        try clear p2
        try clear q2
        try clear hx2
        try clear c4
        try clear c4b0
        try clear c5
        try clear c5b0
        try clear c6
        try clear c6b0
        try clear p6
        try clear c8
        try clear c9
        try clear hx220_0
        try clear hx221_0
        try clear p2
        try clear p220
        try clear p221
        try clear q220
        try clear q221
        obtain ⟨x8_2, x13_2, rfl, rfl, HA, HK2, HB⟩ := hrel
        cases gk with
        | zero => exact absurd HA.out (by simp [spec_l13Cost.l1])
        | succ k2 =>
         have H := HA.out
         clear HA
         simp only [spec_l13Cost.l1] at H
         by_cases c11 : x13_2 < (l0.length : Int)
         ·
          rw [if_pos c11] at H
          have c11b0 : decide (x13_2 < (l0.length : Int)) = true := decide_eq_true c11
          clear c11
          by_cases c12 : 0 ≤ x9_1
          ·
           rw [if_pos c12] at H
           have c12b0 : decide (0 ≤ x9_1) = true := decide_eq_true c12
           clear c12
           by_cases c13 : x9_1 < (l1.length : Int)
           ·
            rw [if_pos c13] at H
            have c13b0 : decide (x9_1 < (l1.length : Int)) = true := decide_eq_true c13
            clear c13
            by_cases c14 : 0 ≤ x13_2
            ·
             rw [if_pos c14] at H
             have c14b0 : decide (0 ≤ x13_2) = true := decide_eq_true c14
             clear c14
             by_cases c15 : x13_2 < ((rd_L5 l1 x9_1).length : Int)
             ·
              rw [if_pos c15] at H
              have c15b0 : decide (x13_2 < ((rd_L5 l1 x9_1).length : Int)) = true := decide_eq_true c15
              clear c15
              obtain ⟨bq16, hbq16⟩ : ∃ b_ : Bool, b_ = (rdOf false (rd_L5 l1 x9_1) x13_2) := ⟨_, rfl⟩
              replace H : (if bq16 = true then (if x9_1 = 0 then (spec_l13Cost.l1 k2 l0 l1 l2 (wrap64 (x8_2 + ((rd_T77 l0 x13_2).f4))) x9_1 (wrap64 (x13_2 + 1))) else (if 0 ≤ (wrap64 (x9_1 - 1)) then (if (wrap64 (x9_1 - 1)) < (l1.length : Int) then (if x13_2 < ((rd_L5 l1 (wrap64 (x9_1 - 1))).length : Int) then (if (rdOf false (rd_L5 l1 (wrap64 (x9_1 - 1))) x13_2 = true) then (spec_l13Cost.l1 k2 l0 l1 l2 x8_2 x9_1 (wrap64 (x13_2 + 1))) else (spec_l13Cost.l1 k2 l0 l1 l2 (wrap64 (x8_2 + ((rd_T77 l0 x13_2).f4))) x9_1 (wrap64 (x13_2 + 1)))) else (none)) else (none)) else (none))) else (spec_l13Cost.l1 k2 l0 l1 l2 x8_2 x9_1 (wrap64 (x13_2 + 1)))) = some (r1, r2) := by rw [← hbq16] at H; exact H
              have Nbq16 := Aside0.mk hbq16
              clear hbq16
              by_cases c17 : bq16 = true
              ·
               subst c17
               have H1 : (if x9_1 = 0 then (spec_l13Cost.l1 k2 l0 l1 l2 (wrap64 (x8_2 + ((rd_T77 l0 x13_2).f4))) x9_1 (wrap64 (x13_2 + 1))) else (if 0 ≤ (wrap64 (x9_1 - 1)) then (if (wrap64 (x9_1 - 1)) < (l1.length : Int) then (if x13_2 < ((rd_L5 l1 (wrap64 (x9_1 - 1))).length : Int) then (if (rdOf false (rd_L5 l1 (wrap64 (x9_1 - 1))) x13_2 = true) then (spec_l13Cost.l1 k2 l0 l1 l2 x8_2 x9_1 (wrap64 (x13_2 + 1))) else (spec_l13Cost.l1 k2 l0 l1 l2 (wrap64 (x8_2 + ((rd_T77 l0 x13_2).f4))) x9_1 (wrap64 (x13_2 + 1)))) else (none)) else (none)) else (none))) = some (r1, r2) := by rw [if_pos rfl] at H; exact H
               clear H
               have H := H1
               clear H1
               by_cases c18 : x9_1 = 0
               ·
                rw [if_pos c18] at H
                have c18b0 : (x9_1 == 0) = true := beq_iff_eq.mpr c18
                have c18b1 : (x9_1 != 0) = false := bne_eq_false_iff_eq.mpr c18
                clear c18
                have H' := Aside0.mk H
                clear H
                have p227 : 0 ≤ (x9_1 : Int) := of_decide_eq_true as_
                have q227 : x9_1 < (l1.length : Int) := of_decide_eq_true as_
                obtain ⟨ad227, A227_0, c227_0, e227, hx227_0, hl227_0, hi227_0⟩ := at_L5 HR1.out x9_1 p227 q227
                obtain rfl : ad220 = ad227 := (by injection e227)
                replace hx227_0 := cl_ HB hx227_0
                have HR227_0 := Aside0.mk hi227_0
                have HC227_0 := Aside0.mk hl227_0
                clear hi227_0 hl227_0
                replace p227 := eq_true p227
                replace q227 := eq_true q227
                have p228 : 0 ≤ (x13_2 : Int) := of_decide_eq_true as_
                have q228 : x13_2 < ((rd_L5 l1 x9_1).length : Int) := of_decide_eq_true as_
                obtain ⟨ad228, e228, hx228_0⟩ := Kd.at_bool HR227_0.out x13_2 p228 q228
                (try rw [← Nbq16.out] at hx228_0)
                cases e228
                replace hx228_0 := cl_ HB hx228_0
                replace p228 := eq_true p228
                replace q228 := eq_true q228
                have p229 : 0 ≤ (x13_2 : Int) := of_decide_eq_true as_
                have q229 : x13_2 < (l0.length : Int) := of_decide_eq_true as_
                obtain ⟨ad229, e229, hx229_0, hx229_1, hx229_2, hx229_3, hx229_4, hx229_5, hx229_6⟩ := at_T77 HR0.out x13_2 p229 q229
                cases e229
                replace hx229_0 := cl_ HB hx229_0
                replace hx229_1 := cl_ HB hx229_1
                replace hx229_2 := cl_ HB hx229_2
                replace hx229_3 := cl_ HB hx229_3
                replace hx229_4 := cl_ HB hx229_4
                replace hx229_5 := cl_ HB hx229_5
                replace hx229_6 := cl_ HB hx229_6
                replace p229 := eq_true p229
                replace q229 := eq_true q229
                go_wp2
                go_roundg k2
                case measure => have := HK1.out; have := HK2.out; omega
                case rel => exact ⟨(wrap64 (x8_2 + ((rd_T77 l0 x13_2).f4))), (wrap64 (x13_2 + 1)), rs_, rs_, H', ⟨by have := HK1.out; have := HK2.out; omega⟩, ⟨bB_⟩⟩
               ·
                rw [if_neg c18] at H
                have c18b0 : (x9_1 == 0) = false := beq_eq_false_iff_ne.mpr c18
                have c18b1 : (x9_1 != 0) = true := bne_iff_ne.mpr c18
                obtain ⟨ji19, hji19⟩ : ∃ j_ : Int, (wrap64 (x9_1 - 1)) = j_ := ⟨_, rfl⟩
                replace H : (if 0 ≤ (ji19) then (if (ji19) < (l1.length : Int) then (if x13_2 < ((rd_L5 l1 (ji19)).length : Int) then (if (rdOf false (rd_L5 l1 (ji19)) x13_2 = true) then (spec_l13Cost.l1 k2 l0 l1 l2 x8_2 x9_1 (wrap64 (x13_2 + 1))) else (spec_l13Cost.l1 k2 l0 l1 l2 (wrap64 (x8_2 + ((rd_T77 l0 x13_2).f4))) x9_1 (wrap64 (x13_2 + 1)))) else (none)) else (none)) else (none)) = some (r1, r2) := by first | (rw [hji19] at H; exact H) | (simp only [hji19] at H ⊢; exact H)
                have hji19w : (IntKind.i64.wrap (x9_1 - 1)) = ji19 := (i64_w _).trans hji19
                by_cases c20 : 0 ≤ (ji19)
                ·
                 rw [if_pos c20] at H
                 have c20b0 : decide (0 ≤ (ji19)) = true := decide_eq_true c20
                 clear c20
                 by_cases c21 : (ji19) < (l1.length : Int)
                 ·
                  rw [if_pos c21] at H
                  have c21b0 : decide ((ji19) < (l1.length : Int)) = true := decide_eq_true c21
                  clear c21
                  by_cases c22 : x13_2 < ((rd_L5 l1 (ji19)).length : Int)
                  ·
                   rw [if_pos c22] at H
                   have c22b0 : decide (x13_2 < ((rd_L5 l1 (ji19)).length : Int)) = true := decide_eq_true c22
                   clear c22
                   obtain ⟨bq23, hbq23⟩ : ∃ b_ : Bool, b_ = (rdOf false (rd_L5 l1 (ji19)) x13_2) := ⟨_, rfl⟩
                   replace H : (if (bq23 = true) then (spec_l13Cost.l1 k2 l0 l1 l2 x8_2 x9_1 (wrap64 (x13_2 + 1))) else (spec_l13Cost.l1 k2 l0 l1 l2 (wrap64 (x8_2 + ((rd_T77 l0 x13_2).f4))) x9_1 (wrap64 (x13_2 + 1)))) = some (r1, r2) := by rw [← hbq23] at H; exact H
                   have Nbq23 := Aside0.mk hbq23
                   clear hbq23
                   by_cases c24 : (bq23 = true)
                   ·
                    subst c24
                    have H1 : (spec_l13Cost.l1 k2 l0 l1 l2 x8_2 x9_1 (wrap64 (x13_2 + 1))) = some (r1, r2) := by rw [if_pos rfl] at H; exact H
                    clear H
                    have H := H1
                    clear H1
                    have H' := Aside0.mk H
                    clear H
                    have p227 : 0 ≤ (x9_1 : Int) := of_decide_eq_true as_
                    have q227 : x9_1 < (l1.length : Int) := of_decide_eq_true as_
                    obtain ⟨ad227, A227_0, c227_0, e227, hx227_0, hl227_0, hi227_0⟩ := at_L5 HR1.out x9_1 p227 q227
                    obtain rfl : ad220 = ad227 := (by injection e227)
                    replace hx227_0 := cl_ HB hx227_0
                    have HR227_0 := Aside0.mk hi227_0
                    have HC227_0 := Aside0.mk hl227_0
                    clear hi227_0 hl227_0
                    replace p227 := eq_true p227
                    replace q227 := eq_true q227
                    have p228 : 0 ≤ (x13_2 : Int) := of_decide_eq_true as_
                    have q228 : x13_2 < ((rd_L5 l1 x9_1).length : Int) := of_decide_eq_true as_
                    obtain ⟨ad228, e228, hx228_0⟩ := Kd.at_bool HR227_0.out x13_2 p228 q228
                    (try rw [← Nbq16.out] at hx228_0)
                    (try rw [← Nbq23.out] at hx228_0)
                    cases e228
                    replace hx228_0 := cl_ HB hx228_0
                    replace p228 := eq_true p228
                    replace q228 := eq_true q228
                    have p230 : 0 ≤ ((ji19) : Int) := of_decide_eq_true as_
                    have q230 : (ji19) < (l1.length : Int) := of_decide_eq_true as_
                    obtain ⟨ad230, A230_0, c230_0, e230, hx230_0, hl230_0, hi230_0⟩ := at_L5 HR1.out (ji19) p230 q230
                    obtain rfl : ad220 = ad230 := (by injection e230)
                    replace hx230_0 := cl_ HB hx230_0
                    have HR230_0 := Aside0.mk hi230_0
                    have HC230_0 := Aside0.mk hl230_0
                    clear hi230_0 hl230_0
                    replace p230 := eq_true p230
                    replace q230 := eq_true q230
                    have p231 : 0 ≤ (x13_2 : Int) := of_decide_eq_true as_
                    have q231 : x13_2 < ((rd_L5 l1 (ji19)).length : Int) := of_decide_eq_true as_
                    obtain ⟨ad231, e231, hx231_0⟩ := Kd.at_bool HR230_0.out x13_2 p231 q231
                    (try rw [← Nbq16.out] at hx231_0)
                    (try rw [← Nbq23.out] at hx231_0)
                    cases e231
                    replace hx231_0 := cl_ HB hx231_0
                    replace p231 := eq_true p231
                    replace q231 := eq_true q231
                    go_wp2
                    go_roundg k2
                    case measure => have := HK1.out; have := HK2.out; omega
                    case rel => exact ⟨(x8_2), (wrap64 (x13_2 + 1)), rs_, rs_, H', ⟨by have := HK1.out; have := HK2.out; omega⟩, ⟨bB_⟩⟩
                   ·
                    replace c24 := Bool.eq_false_iff.mpr c24
                    subst c24
                    have H1 : (spec_l13Cost.l1 k2 l0 l1 l2 (wrap64 (x8_2 + ((rd_T77 l0 x13_2).f4))) x9_1 (wrap64 (x13_2 + 1))) = some (r1, r2) := by rw [if_neg (show ¬ (false = true) by decide)] at H; exact H
                    clear H
                    have H := H1
                    clear H1
                    have H' := Aside0.mk H
                    clear H
                    have p227 : 0 ≤ (x9_1 : Int) := of_decide_eq_true as_
                    have q227 : x9_1 < (l1.length : Int) := of_decide_eq_true as_
                    obtain ⟨ad227, A227_0, c227_0, e227, hx227_0, hl227_0, hi227_0⟩ := at_L5 HR1.out x9_1 p227 q227
                    obtain rfl : ad220 = ad227 := (by injection e227)
                    replace hx227_0 := cl_ HB hx227_0
                    have HR227_0 := Aside0.mk hi227_0
                    have HC227_0 := Aside0.mk hl227_0
                    clear hi227_0 hl227_0
                    replace p227 := eq_true p227
                    replace q227 := eq_true q227
                    have p228 : 0 ≤ (x13_2 : Int) := of_decide_eq_true as_
                    have q228 : x13_2 < ((rd_L5 l1 x9_1).length : Int) := of_decide_eq_true as_
                    obtain ⟨ad228, e228, hx228_0⟩ := Kd.at_bool HR227_0.out x13_2 p228 q228
                    (try rw [← Nbq16.out] at hx228_0)
                    (try rw [← Nbq23.out] at hx228_0)
                    cases e228
                    replace hx228_0 := cl_ HB hx228_0
                    replace p228 := eq_true p228
                    replace q228 := eq_true q228
                    have p230 : 0 ≤ ((ji19) : Int) := of_decide_eq_true as_
                    have q230 : (ji19) < (l1.length : Int) := of_decide_eq_true as_
                    obtain ⟨ad230, A230_0, c230_0, e230, hx230_0, hl230_0, hi230_0⟩ := at_L5 HR1.out (ji19) p230 q230
                    obtain rfl : ad220 = ad230 := (by injection e230)
                    replace hx230_0 := cl_ HB hx230_0
                    have HR230_0 := Aside0.mk hi230_0
                    have HC230_0 := Aside0.mk hl230_0
                    clear hi230_0 hl230_0
                    replace p230 := eq_true p230
                    replace q230 := eq_true q230
                    have p231 : 0 ≤ (x13_2 : Int) := of_decide_eq_true as_
                    have q231 : x13_2 < ((rd_L5 l1 (ji19)).length : Int) := of_decide_eq_true as_
                    obtain ⟨ad231, e231, hx231_0⟩ := Kd.at_bool HR230_0.out x13_2 p231 q231
                    (try rw [← Nbq16.out] at hx231_0)
                    (try rw [← Nbq23.out] at hx231_0)
                    cases e231
                    replace hx231_0 := cl_ HB hx231_0
                    replace p231 := eq_true p231
                    replace q231 := eq_true q231
                    have p232 : 0 ≤ (x13_2 : Int) := of_decide_eq_true as_
                    have q232 : x13_2 < (l0.length : Int) := of_decide_eq_true as_
                    obtain ⟨ad232, e232, hx232_0, hx232_1, hx232_2, hx232_3, hx232_4, hx232_5, hx232_6⟩ := at_T77 HR0.out x13_2 p232 q232
                    cases e232
                    replace hx232_0 := cl_ HB hx232_0
                    replace hx232_1 := cl_ HB hx232_1
                    replace hx232_2 := cl_ HB hx232_2
                    replace hx232_3 := cl_ HB hx232_3
                    replace hx232_4 := cl_ HB hx232_4
                    replace hx232_5 := cl_ HB hx232_5
                    replace hx232_6 := cl_ HB hx232_6
                    replace p232 := eq_true p232
                    replace q232 := eq_true q232
                    go_wp2
                    go_roundg k2
                    case measure => have := HK1.out; have := HK2.out; omega
                    case rel => exact ⟨(wrap64 (x8_2 + ((rd_T77 l0 x13_2).f4))), (wrap64 (x13_2 + 1)), rs_, rs_, H', ⟨by have := HK1.out; have := HK2.out; omega⟩, ⟨bB_⟩⟩
                  ·
                   rw [if_neg c22] at H
                   exact absurd H (by simp)
                 ·
                  rw [if_neg c21] at H
                  exact absurd H (by simp)
                ·
                 rw [if_neg c20] at H
                 exact absurd H (by simp)
              ·
               replace c17 := Bool.eq_false_iff.mpr c17
               subst c17
               have H1 : (spec_l13Cost.l1 k2 l0 l1 l2 x8_2 x9_1 (wrap64 (x13_2 + 1))) = some (r1, r2) := by rw [if_neg (show ¬ (false = true) by decide)] at H; exact H
               clear H
               have H := H1
               clear H1
               have H' := Aside0.mk H
               clear H
               have p227 : 0 ≤ (x9_1 : Int) := of_decide_eq_true as_
               have q227 : x9_1 < (l1.length : Int) := of_decide_eq_true as_
               obtain ⟨ad227, A227_0, c227_0, e227, hx227_0, hl227_0, hi227_0⟩ := at_L5 HR1.out x9_1 p227 q227
               obtain rfl : ad220 = ad227 := (by injection e227)
               replace hx227_0 := cl_ HB hx227_0
               have HR227_0 := Aside0.mk hi227_0
               have HC227_0 := Aside0.mk hl227_0
               clear hi227_0 hl227_0
               replace p227 := eq_true p227
               replace q227 := eq_true q227
               have p228 : 0 ≤ (x13_2 : Int) := of_decide_eq_true as_
               have q228 : x13_2 < ((rd_L5 l1 x9_1).length : Int) := of_decide_eq_true as_
               obtain ⟨ad228, e228, hx228_0⟩ := Kd.at_bool HR227_0.out x13_2 p228 q228
               (try rw [← Nbq16.out] at hx228_0)
               cases e228
               replace hx228_0 := cl_ HB hx228_0
               replace p228 := eq_true p228
               replace q228 := eq_true q228
               go_wp2
               go_roundg k2
               case measure => have := HK1.out; have := HK2.out; omega
               case rel => exact ⟨(x8_2), (wrap64 (x13_2 + 1)), rs_, rs_, H', ⟨by have := HK1.out; have := HK2.out; omega⟩, ⟨bB_⟩⟩
             ·
              rw [if_neg c15] at H
              exact absurd H (by simp)
            ·
             rw [if_neg c14] at H
             exact absurd H (by simp)
           ·
            rw [if_neg c13] at H
            exact absurd H (by simp)
          ·
           rw [if_neg c12] at H
           exact absurd H (by simp)
         ·
          rw [if_neg c11] at H
          have c11b0 : decide (x13_2 < (l0.length : Int)) = false := decide_eq_false c11
          clear c11
          have H' := Aside0.mk H
          clear H
          go_wp2
          go_roundg k2
          case measure => have := HK1.out; have := HK2.out; omega
          case rel => exact ⟨(x8_2), (wrap64 (x9_1 + 1)), rs_, rs_, H', ⟨by have := HK1.out; have := HK2.out; omega⟩, ⟨bB_⟩⟩
      ·
       replace c8 := Bool.eq_false_iff.mpr c8
       subst c8
       have H1 : (some (0, false)) = some (r1, r2) := by rw [if_neg (show ¬ (false = true) by decide)] at H; exact H
       clear H
       have H := H1
       clear H1
       simp only [Option.some.injEq, Prod.mk.injEq] at H
       obtain ⟨rfl, rfl⟩ := H
       try go_wp2
       have n0_ := Aside0.mk (below_drew1 HB.out)
       clear HB
       have HB := n0_
       clear n0_
       have p220 : 0 ≤ (x9_1 : Int) := of_decide_eq_true as_
       have q220 : x9_1 < (l1.length : Int) := of_decide_eq_true as_
       obtain ⟨ad220, A220_0, c220_0, e220, hx220_0, hl220_0, hi220_0⟩ := at_L5 HR1.out x9_1 p220 q220
       have hw220_0 := hx220_0
       cases e220
       replace hx220_0 := cl_ HB hx220_0
       have HR220_0 := Aside0.mk hi220_0
       have HC220_0 := Aside0.mk hl220_0
       clear hi220_0 hl220_0
       replace p220 := eq_true p220
       replace q220 := eq_true q220
       have p221 : 0 ≤ (x9_1 : Int) := of_decide_eq_true as_
       have q221 : x9_1 < (l2.length : Int) := of_decide_eq_true as_
       obtain ⟨ad221, e221, hx221_0⟩ := Kd.at_int HR2.out x9_1 p221 q221
       have hw221_0 := hx221_0
       cases e221
       replace hx221_0 := cl_ HB hx221_0
       replace p221 := eq_true p221
       replace q221 := eq_true q221
       refine start_ (n := 17) (S := fun w' => w'.cell? (ad220.add (x9_1).toNat) = some (.slice A220_0 (rd_L5 l1 x9_1).length c220_0) ∧ w'.cell? (ad221.add (x9_1).toNat) = some (.int .i64 (rd l2 x9_1))) (ds := []) #[false, false, false, false, false, false, false, false, false, false, false, false, false, false, false, false, false] (by kernel_rfl) rfl rfl ⟨(cl_ HB hw220_0), (cl_ HB hw221_0)⟩ (fun hHeld => ?_); refine with_tabW spec_l13Cost.tab5 spec_l13Cost.bits5 (fun HT_ HW_ => ?_)
       generalize wr.drew = w25 at HB HR220_0 hx220_0 hx221_0 hHeld ⊢
       refine pure_ (i := 0) (N := some 21) (v := ?_) (a' := ?_) #[true, false, false, false, false, false, false, false, false, false, false, false, false, false, false, false, false] rfl rfl (any_of HT_.out (by kernel_rfl)) (fun _ _ _ h => h) (Or.inl ⟨by rfl, ?_⟩) ?_ ?_
       rotate_left
       ·
        intro w'
        go_simp
        with_reducible rfl
       rotate_left
       ·
        simp only [Act.put, q1_, q2_, q3_, i64_w, i32_w]
        rfl
       refine pure_ (i := 1) (N := some 22) (v := ?_) (a' := ?_) #[true, true, false, false, false, false, false, false, false, false, false, false, false, false, false, false, false] rfl rfl (any_of HT_.out (by kernel_rfl)) (fun _ _ _ h => h) (Or.inl ⟨by rfl, ?_⟩) ?_ ?_
       rotate_left
       ·
        intro w'
        go_simp
        with_reducible rfl
       rotate_left
       ·
        simp only [Act.put, q1_, q2_, q3_, i64_w, i32_w]
        rfl
       refine pure_ (i := 2) (N := some 23) (v := ?_) (a' := ?_) #[true, true, true, false, false, false, false, false, false, false, false, false, false, false, false, false, false] rfl rfl (any_of HT_.out (by kernel_rfl)) (fun _ _ _ h => h) (Or.inl ⟨by rfl, ?_⟩) ?_ ?_
       rotate_left
       ·
        intro w'
        go_simp
        with_reducible rfl
       rotate_left
       ·
        simp only [Act.put, q1_, q2_, q3_, i64_w, i32_w]
        rfl
       refine pure_ (i := 3) (N := some 24) (v := ?_) (a' := ?_) #[true, true, true, true, false, false, false, false, false, false, false, false, false, false, false, false, false] rfl rfl (any_of HT_.out (by kernel_rfl)) (fun _ _ _ h => h) (Or.inl ⟨by rfl, ?_⟩) ?_ ?_
       rotate_left
       ·
        intro w'
        go_simp
        with_reducible rfl
       rotate_left
       ·
        simp only [Act.put, q1_, q2_, q3_, i64_w, i32_w]
        rfl
       refine pure_ (i := 5) (N := some 26) (v := ?_) (a' := ?_) #[true, true, true, true, false, true, false, false, false, false, false, false, false, false, false, false, false] rfl rfl (any_of HT_.out (by kernel_rfl)) (fun _ _ _ h => h) (Or.inl ⟨by rfl, ?_⟩) ?_ ?_
       rotate_left
       ·
        intro w'
        go_simp
        with_reducible rfl
       rotate_left
       ·
        simp only [Act.put, q1_, q2_, q3_, i64_w, i32_w]
        rfl
       refine pure_ (i := 6) (N := some 27) (v := ?_) (a' := ?_) #[true, true, true, true, false, true, true, false, false, false, false, false, false, false, false, false, false] rfl rfl (any_of HT_.out (by kernel_rfl)) (fun _ _ _ h => h) (Or.inl ⟨by rfl, ?_⟩) ?_ ?_
       rotate_left
       ·
        intro w'
        go_simp
        with_reducible rfl
       rotate_left
       ·
        simp only [Act.put, q1_, q2_, q3_, i64_w, i32_w]
        rfl
       refine pure_ (i := 7) (N := some 28) (v := ?_) (a' := ?_) #[true, true, true, true, false, true, true, true, false, false, false, false, false, false, false, false, false] rfl rfl (any_of HT_.out (by kernel_rfl)) (fun _ _ _ h => h) (Or.inl ⟨by rfl, ?_⟩) ?_ ?_
       rotate_left
       ·
        intro w'
        go_simp
        with_reducible rfl
       rotate_left
       ·
        simp only [Act.put, q1_, q2_, q3_, i64_w, i32_w]
        rfl
       refine take_ (i := 4) (N := some 25) (v := ?_) (a' := ?_) #[true, true, true, true, true, true, true, true, false, false, false, false, false, false, false, false, false] rfl rfl (take_ofW HT_.out HW_.out (by kernel_rfl)) (fun _ _ _ h => h) (Or.inl ⟨by rfl, ?_⟩) hHeld ?_ ?_
       rotate_left
       ·
        rintro w' ⟨s0, s1⟩
        go_simp
        with_reducible rfl
       rotate_left
       ·
        simp only [Act.put, q1_, q2_, q3_, i64_w, i32_w]
        rfl
       refine take_ (i := 8) (N := some 29) (v := ?_) (a' := ?_) #[true, true, true, true, true, true, true, true, true, false, false, false, false, false, false, false, false] rfl rfl (take_ofW HT_.out HW_.out (by kernel_rfl)) (fun _ _ _ h => h) (Or.inl ⟨by rfl, ?_⟩) hHeld ?_ ?_
       rotate_left
       ·
        rintro w' ⟨s0, s1⟩
        go_simp
        with_reducible rfl
       rotate_left
       ·
        simp only [Act.put, q1_, q2_, q3_, i64_w, i32_w]
        rfl
       refine one_ (i := 9) (N := some 30) #[true, true, true, true, true, true, true, true, true, true, false, false, false, false, false, false, false] rfl rfl (one_of HT_.out (by kernel_rfl)) (by decide) (fun K hK => ?_)
       refine goes_ Try.func66 (by kernel_rfl) rfl #[.slice A0 l0.length c0, .slice A220_0 (rd_L5 l1 x9_1).length c220_0, .int .i64 (rd l2 x9_1)] (by rfl) rfl rfl mT_ ?_
       with_reducible refine (spec_l13Share.calls k1 _ _ l0 _ _ (rd_L5 l1 x9_1) (rd l2 x9_1) t222 t223 false _ ?side1 ?side2 ?side3 ?side4 A7.out).mono ?_
       (case side1 => exact cA_ (Kd.C_below HR0.out HB.out))
       (case side2 => exact HC0.out)
       (case side3 => exact cA_ (Kd.C_below HR220_0.out HB.out))
       (case side4 => exact HC220_0.out)
       rintro e w26 ⟨v225, rfl, ho0, hb⟩
       refine ⟨_, rfl, ?_⟩
       have n0_ := Aside0.mk (Kd.R_lower ho0 (below_size bB_))
       have n1_ := Aside0.mk (below_step bB_ hb)
       clear HB
       have HO226 := n0_
       have HB := n1_
       clear n0_ n1_
       (try clear hb)
       (try clear hb2)
       (try clear hk)
       (try clear hi)
       (try clear ho0)
       refine hK.out _ _ ⟨(cl_ HB hw220_0), (cl_ HB hw221_0)⟩ (fun hHeld => ?_)
       clear hK K
       refine norm_ (a' := ?_) ?_ ?_
       rotate_left
       ·
        show Act.put _ (some 30) _ = _
        simp only [Act.put, q1_, q2_, q3_, i64_w, i32_w]
        rfl
       refine pure_ (i := 10) (N := some 20) (v := ?_) (a' := ?_) #[true, true, true, true, true, true, true, true, true, true, true, false, false, false, false, false, false] rfl rfl (any_of HT_.out (by kernel_rfl)) (fun _ _ _ h => h) (Or.inl ⟨by rfl, ?_⟩) ?_ ?_
       rotate_left
       ·
        intro w'
        go_simp
        with_reducible rfl
       rotate_left
       ·
        simp only [Act.put, q1_, q2_, q3_, i64_w, i32_w]
        rfl
       refine pure_ (i := 11) (N := some 31) (v := ?_) (a' := ?_) #[true, true, true, true, true, true, true, true, true, true, true, true, false, false, false, false, false] rfl rfl (any_of HT_.out (by kernel_rfl)) (fun _ _ _ h => h) (Or.inl ⟨by rfl, ?_⟩) ?_ ?_
       rotate_left
       ·
        intro w'
        go_simp
        with_reducible rfl
       rotate_left
       ·
        simp only [Act.put, q1_, q2_, q3_, i64_w, i32_w]
        rfl
       refine pure_ (i := 12) (N := some 32) (v := ?_) (a' := ?_) #[true, true, true, true, true, true, true, true, true, true, true, true, true, false, false, false, false] rfl rfl (any_of HT_.out (by kernel_rfl)) (fun _ _ _ h => h) (Or.inl ⟨by rfl, ?_⟩) ?_ ?_
       rotate_left
       ·
        intro w'
        go_simp
        with_reducible rfl
       rotate_left
       ·
        simp only [Act.put, q1_, q2_, q3_, i64_w, i32_w]
        rfl
       refine pure_ (i := 13) (N := some 33) (v := ?_) (a' := ?_) #[true, true, true, true, true, true, true, true, true, true, true, true, true, true, false, false, false] rfl rfl (any_of HT_.out (by kernel_rfl)) (fun _ _ _ h => h) (Or.inl ⟨by rfl, ?_⟩) ?_ ?_
       rotate_left
       ·
        intro w'
        go_simp
        with_reducible rfl
       rotate_left
       ·
        simp only [Act.put, q1_, q2_, q3_, i64_w, i32_w]
        rfl
       refine pure_ (i := 14) (N := some 10) (v := ?_) (a' := ?_) #[true, true, true, true, true, true, true, true, true, true, true, true, true, true, true, false, false] rfl rfl (any_of HT_.out (by kernel_rfl)) (fun _ _ _ h => h) (Or.inl ⟨by rfl, ?_⟩) ?_ ?_
       rotate_left
       ·
        intro w'
        go_simp
        with_reducible rfl
       rotate_left
       ·
        simp only [Act.put, q1_, q2_, q3_, i64_w, i32_w]
        rfl
       refine pure_ (i := 15) (N := some 11) (v := ?_) (a' := ?_) #[true, true, true, true, true, true, true, true, true, true, true, true, true, true, true, true, false] rfl rfl (any_of HT_.out (by kernel_rfl)) (fun _ _ _ h => h) (Or.inl ⟨by rfl, ?_⟩) ?_ ?_
       rotate_left
       ·
        intro w'
        go_simp
        with_reducible rfl
       rotate_left
       ·
        simp only [Act.put, q1_, q2_, q3_, i64_w, i32_w]
        rfl
       refine pure_ (i := 16) (N := some 12) (v := ?_) (a' := ?_) #[true, true, true, true, true, true, true, true, true, true, true, true, true, true, true, true, true] rfl rfl (any_of HT_.out (by kernel_rfl)) (fun _ _ _ h => h) (Or.inl ⟨by rfl, ?_⟩) ?_ ?_
       rotate_left
       ·
        intro w'
        go_simp
        with_reducible rfl
       rotate_left
       ·
        simp only [Act.put, q1_, q2_, q3_, i64_w, i32_w]
        rfl
       refine done_ (done_of HT_.out (by kernel_rfl)) ?_
       try go_wp2
       go_ret2
       exact ⟨er_, bB_⟩
     ·
      rw [if_neg c6] at H
      exact absurd H (by simp)
    ·
     rw [if_neg c5] at H
     exact absurd H (by simp)
   ·
    rw [if_neg c4] at H
    have c4b0 : decide (x9_1 < (l1.length : Int)) = false := decide_eq_false c4
    clear c4
    simp only [Option.some.injEq, Prod.mk.injEq] at H
    obtain ⟨rfl, rfl⟩ := H
    go_wp2
    go_ret2
    exact ⟨er_, bB_⟩

/-! ### spec_IsPlan: function 36 -/
def spec_IsPlan.f (k : Nat) (l0 : List (S77)) (l1 : List (List Bool)) (l2 : List Int) : Option (Bool) := (spec_l13Ask.f k l0 l1 l2).bind fun t233 => (if t233 = 0 then ((spec_l13Runs.f k l0 l1).bind fun t234 => (if t234 = true then ((spec_l13Cost.f k l0 l1 l2).bind fun bt235 => (some bt235.2)) else (some false))) else (some false))
theorem spec_IsPlan.mono : ∀ a0 a1 a2 k, LeO (spec_IsPlan.f k a0 a1 a2) (spec_IsPlan.f (k + 1) a0 a1 a2) := by
 intro a0 a1 a2 k
 unfold spec_IsPlan.f
 repeat' first
   | (with_reducible exact spec_l13Ask.mono _ _ _ _)
   | (with_reducible exact spec_l13Cost.mono _ _ _ _)
   | (with_reducible exact spec_l13Runs.mono _ _ _)
   | (with_reducible exact LeO.refl _)
   | (with_reducible exact LeO.none _)
   | (with_reducible refine LeO.ite ?_ ?_)
   | (with_reducible refine LeO.bind ?_ (fun _ => ?_))
   | exact spec_l13Ask.mono _ _ _ _
   | exact spec_l13Cost.mono _ _ _ _
   | exact spec_l13Runs.mono _ _ _
   | exact LeO.none _
   | refine LeO.ite ?_ ?_
   | refine LeO.bind ?_ (fun _ => ?_)
set_option maxHeartbeats 8000000 in
set_option maxRecDepth 100000 in
theorem spec_IsPlan.calls (k : Nat) (A0 : Option Addr) (c0 : Nat) (l0 : List (S77)) (A1 : Option Addr) (c1 : Nat) (l1 : List (List Bool)) (A2 : Option Addr) (c2 : Nat) (l2 : List Int) (r : Bool) (w : World) (hr0 : Kd.C k77 w A0 l0.length l0) (hc0 : l0.length ≤ c0) (hr1 : Kd.C (Kd.slice 4 Kd.bool) w A1 l1.length l1) (hc1 : l1.length ≤ c1) (hr2 : Kd.C (Kd.int .i64) w A2 l2.length l2) (hc2 : l2.length ≤ c2) (h : spec_IsPlan.f k l0 l1 l2 = some r) :
  Calls Try.prog 36 #[.slice A0 l0.length c0, .slice A1 l1.length c1, .slice A2 l2.length c2] w fun e w' => e = .returned (.bool r) ∧ Below w.heap.size w w' := by
 have HR0 := Aside0.mk hr0
 have HC0 := Aside0.mk hc0
 clear hr0 hc0
 have HR1 := Aside0.mk hr1
 have HC1 := Aside0.mk hc1
 clear hr1 hc1
 have HR2 := Aside0.mk hr2
 have HC2 := Aside0.mk hc2
 clear hr2 hc2
 have HB := Aside0.mk (Below.refl w.heap.size w)
 have H : ((spec_l13Ask.f k l0 l1 l2).bind fun t233 => (if t233 = 0 then ((spec_l13Runs.f k l0 l1).bind fun t234 => (if t234 = true then ((spec_l13Cost.f k l0 l1 l2).bind fun bt235 => (some bt235.2)) else (some false))) else (some false))) = some r := h
 clear h
 replace H := Option.bind_eq_some_iff.mp H
 obtain ⟨t233, A40, H⟩ := H
 replace H : (if t233 = 0 then ((spec_l13Runs.f k l0 l1).bind fun t234 => (if t234 = true then ((spec_l13Cost.f k l0 l1 l2).bind fun bt235 => (some bt235.2)) else (some false))) else (some false)) = some r := H
 have A4 := Aside0.mk A40
 clear A40
 by_cases c5 : t233 = 0
 ·
  rw [if_pos c5] at H
  have c5b0 : (t233 == 0) = true := beq_iff_eq.mpr c5
  have c5b1 : (t233 != 0) = false := bne_eq_false_iff_eq.mpr c5
  clear c5
  replace H := Option.bind_eq_some_iff.mp H
  obtain ⟨t234, A60, H⟩ := H
  replace H : (if t234 = true then ((spec_l13Cost.f k l0 l1 l2).bind fun bt235 => (some bt235.2)) else (some false)) = some r := H
  have A6 := Aside0.mk A60
  clear A60
  by_cases c7 : t234 = true
  ·
   subst c7
   have H1 : ((spec_l13Cost.f k l0 l1 l2).bind fun bt235 => (some bt235.2)) = some r := by rw [if_pos rfl] at H; exact H
   clear H
   have H := H1
   clear H1
   replace H := Option.bind_eq_some_iff.mp H
   obtain ⟨⟨t235, t236⟩, A80, H⟩ := H
   replace H : (some t236) = some r := H
   have A8 := Aside0.mk A80
   clear A80
   obtain rfl := Option.some.inj H
   go_enter Try.func36, Try.ntmps36
   go_wp2_with (first | ((with_reducible refine gate_callee (f := 90) rfl ?_); refine goesL_ (some 12) rfl rfl Try.func90 (by kernel_rfl) rfl #[.slice A0 l0.length c0, .slice A1 l1.length c1, .slice A2 l2.length c2] rfl mT_ ?_; (with_reducible refine (spec_l13Ask.calls k _ _ l0 _ _ l1 _ _ l2 t233 _ ?side1 ?side2 ?side3 ?side4 ?side5 ?side6 A4.out).mono ?_); (case side1 => exact cA_ HR0.out); (case side2 => exact HC0.out); (case side3 => exact cA_ HR1.out); (case side4 => exact HC1.out); (case side5 => exact cA_ HR2.out); (case side6 => exact HC2.out); rintro e w' ⟨rfl, ⟨nd, rfl⟩⟩; refine ⟨_, rfl, ?_⟩) | (go_at_call 91; (with_reducible refine (spec_l13Runs.calls k _ _ l0 _ _ l1 true _ ?side1 ?side2 ?side3 ?side4 A6.out).mono ?_); (case side1 => exact cA_ HR0.out); (case side2 => exact HC0.out); (case side3 => exact cA_ HR1.out); (case side4 => exact HC1.out); rintro e w' ⟨rfl, ⟨nd, rfl⟩⟩) | ((with_reducible refine gate_callee (f := 92) rfl ?_); refine goesL_ (some 24) rfl rfl Try.func92 (by kernel_rfl) rfl #[.slice A0 l0.length c0, .slice A1 l1.length c1, .slice A2 l2.length c2] rfl mT_ ?_; (with_reducible refine (spec_l13Cost.calls k _ _ l0 _ _ l1 _ _ l2 t235 t236 _ ?side1 ?side2 ?side3 ?side4 ?side5 ?side6 A8.out).mono ?_); (case side1 => exact cA_ HR0.out); (case side2 => exact HC0.out); (case side3 => exact cA_ HR1.out); (case side4 => exact HC1.out); (case side5 => exact cA_ HR2.out); (case side6 => exact HC2.out); rintro e w9 ⟨rfl, hb⟩; refine ⟨_, rfl, ?_⟩; have n0_ := Aside0.mk (below_step bB_ hb); clear HB; have HB := n0_; clear n0_; (try clear hb); (try clear hb2); (try clear hk); (try clear hi)))
   go_ret
   exact ⟨er_, bB_⟩
  ·
   replace c7 := Bool.eq_false_iff.mpr c7
   subst c7
   have H1 : (some false) = some r := by rw [if_neg (show ¬ (false = true) by decide)] at H; exact H
   clear H
   have H := H1
   clear H1
   obtain rfl := Option.some.inj H
   go_enter Try.func36, Try.ntmps36
   go_wp2_with (first | ((with_reducible refine gate_callee (f := 90) rfl ?_); refine goesL_ (some 12) rfl rfl Try.func90 (by kernel_rfl) rfl #[.slice A0 l0.length c0, .slice A1 l1.length c1, .slice A2 l2.length c2] rfl mT_ ?_; (with_reducible refine (spec_l13Ask.calls k _ _ l0 _ _ l1 _ _ l2 t233 _ ?side1 ?side2 ?side3 ?side4 ?side5 ?side6 A4.out).mono ?_); (case side1 => exact cA_ HR0.out); (case side2 => exact HC0.out); (case side3 => exact cA_ HR1.out); (case side4 => exact HC1.out); (case side5 => exact cA_ HR2.out); (case side6 => exact HC2.out); rintro e w' ⟨rfl, ⟨nd, rfl⟩⟩; refine ⟨_, rfl, ?_⟩) | (go_at_call 91; (with_reducible refine (spec_l13Runs.calls k _ _ l0 _ _ l1 false _ ?side1 ?side2 ?side3 ?side4 A6.out).mono ?_); (case side1 => exact cA_ HR0.out); (case side2 => exact HC0.out); (case side3 => exact cA_ HR1.out); (case side4 => exact HC1.out); rintro e w' ⟨rfl, ⟨nd, rfl⟩⟩))
   go_ret
   exact ⟨er_, bB_⟩
 ·
  rw [if_neg c5] at H
  have c5b0 : (t233 == 0) = false := beq_eq_false_iff_ne.mpr c5
  have c5b1 : (t233 != 0) = true := bne_iff_ne.mpr c5
  obtain rfl := Option.some.inj H
  go_enter Try.func36, Try.ntmps36
  go_wp2_with (first | ((with_reducible refine gate_callee (f := 90) rfl ?_); refine goesL_ (some 12) rfl rfl Try.func90 (by kernel_rfl) rfl #[.slice A0 l0.length c0, .slice A1 l1.length c1, .slice A2 l2.length c2] rfl mT_ ?_; (with_reducible refine (spec_l13Ask.calls k _ _ l0 _ _ l1 _ _ l2 t233 _ ?side1 ?side2 ?side3 ?side4 ?side5 ?side6 A4.out).mono ?_); (case side1 => exact cA_ HR0.out); (case side2 => exact HC0.out); (case side3 => exact cA_ HR1.out); (case side4 => exact HC1.out); (case side5 => exact cA_ HR2.out); (case side6 => exact HC2.out); rintro e w' ⟨rfl, ⟨nd, rfl⟩⟩; refine ⟨_, rfl, ?_⟩))
  go_ret
  exact ⟨er_, bB_⟩

end Go.Proofs.Ytebkgebibammiaa.PFnExactIsWithin
