-- PRINTED by print.py (a twelfth state) out of the translation. Not trusted: Lean checks it.
import Derived.Test.YtfnheijpgldlcaaPFnExactImageRangex0
import Derived.Test.YtfnheijpgldlcaaPFnExactImageRangex2
namespace Go.Proofs.Ytfnheijpgldlcaa.PFnExactImageRange
open Go.RowKit Go.Proofs.YtfnheijpgldlcaaW.PrintWords Go.Proofs.YtfnheijpgldlcaaW.PrintLast Go.Proofs.YtfnheijpgldlcaaW.PrintMore
attribute [local go_sem] max2_int min2_int max_two min_two max_three min_three max_four min_four   -- for this text's walks alone
set_option linter.unusedVariables false
set_option linter.unusedSimpArgs false

/-! ### spec_ImageRange: function 26 -/
mutual
def spec_ImageRange.l0 : Nat → List (List Int) → Int → Int → Int → Option (Int × Int × Int)
  | 0, _, _, _, _ => none
  | k + 1, x0, x5, x6, x7 => if x7 < (x0.length : Int) then (spec_ImageRange.l1 k x0 x5 x6 x7 0) else (some (x5, x6, 0))
def spec_ImageRange.l1 : Nat → List (List Int) → Int → Int → Int → Int → Option (Int × Int × Int)
  | 0, _, _, _, _, _ => none
  | k + 1, x0, x5, x6, x7, x8 => if 0 ≤ x7 then (if x7 < (x0.length : Int) then (if x8 < ((rd_L1 x0 x7).length : Int) then (if 0 ≤ x8 then ((spec_l00Min.f x5 (rd (rd_L1 x0 x7) x8)).bind fun t136 => ((spec_l00Max.f x6 (rd (rd_L1 x0 x7) x8)).bind fun t139 => (spec_ImageRange.l1 k x0 t136 t139 x7 (wrap64 (x8 + 1))))) else (none)) else (spec_ImageRange.l0 k x0 x5 x6 (wrap64 (x7 + 1)))) else (none)) else (none)
end
def spec_ImageRange.f (k : Nat) (l0 : List (List Int)) : Option (Int × Int × Int) := (spec_l28Ok.f k l0).bind fun t130 => (if t130 = true then (if 0 < (l0.length : Int) then (if 0 < ((rd_L1 l0 0).length : Int) then (spec_ImageRange.l0 k l0 (rd (rd_L1 l0 0) 0) (rd (rd_L1 l0 0) 0) 0) else (none)) else (none)) else (some (0, 0, 1)))
theorem spec_ImageRange.mono_l : ∀ k, (∀ y0 y1 y2 y3, LeO (spec_ImageRange.l0 k y0 y1 y2 y3) (spec_ImageRange.l0 (k + 1) y0 y1 y2 y3)) ∧ (∀ y0 y1 y2 y3 y4, LeO (spec_ImageRange.l1 k y0 y1 y2 y3 y4) (spec_ImageRange.l1 (k + 1) y0 y1 y2 y3 y4))
  | 0 => ⟨fun _ _ _ _ r h => by simp [spec_ImageRange.l0] at h, fun _ _ _ _ _ r h => by simp [spec_ImageRange.l1] at h⟩
  | k + 1 => by
    obtain ⟨ih0, ih1⟩ := spec_ImageRange.mono_l k
    refine ⟨?_, ?_⟩
    · intro y0 y1 y2 y3
      unfold spec_ImageRange.l0
      repeat' first
      | (with_reducible exact ih0 _ _ _ _)
      | (with_reducible exact ih1 _ _ _ _ _)
      | (with_reducible exact spec_l28Ok.mono _ _)
      | (with_reducible exact LeO.refl _)
      | (with_reducible exact LeO.none _)
      | (with_reducible refine LeO.ite ?_ ?_)
      | (with_reducible refine LeO.bind ?_ (fun _ => ?_))
      | exact ih0 _ _ _ _
      | exact ih1 _ _ _ _ _
      | exact spec_l28Ok.mono _ _
      | exact LeO.none _
      | refine LeO.ite ?_ ?_
      | refine LeO.bind ?_ (fun _ => ?_)
    · intro y0 y1 y2 y3 y4
      unfold spec_ImageRange.l1
      repeat' first
      | (with_reducible exact ih0 _ _ _ _)
      | (with_reducible exact ih1 _ _ _ _ _)
      | (with_reducible exact spec_l28Ok.mono _ _)
      | (with_reducible exact LeO.refl _)
      | (with_reducible exact LeO.none _)
      | (with_reducible refine LeO.ite ?_ ?_)
      | (with_reducible refine LeO.bind ?_ (fun _ => ?_))
      | exact ih0 _ _ _ _
      | exact ih1 _ _ _ _ _
      | exact spec_l28Ok.mono _ _
      | exact LeO.none _
      | refine LeO.ite ?_ ?_
      | refine LeO.bind ?_ (fun _ => ?_)
theorem spec_ImageRange.mono : ∀ a0 k, LeO (spec_ImageRange.f k a0) (spec_ImageRange.f (k + 1) a0) := by
  intro a0 k
  obtain ⟨ih0, ih1⟩ := spec_ImageRange.mono_l k
  unfold spec_ImageRange.f
  repeat' first
      | (with_reducible exact ih0 _ _ _ _)
      | (with_reducible exact ih1 _ _ _ _ _)
      | (with_reducible exact spec_l28Ok.mono _ _)
      | (with_reducible exact LeO.refl _)
      | (with_reducible exact LeO.none _)
      | (with_reducible refine LeO.ite ?_ ?_)
      | (with_reducible refine LeO.bind ?_ (fun _ => ?_))
      | exact ih0 _ _ _ _
      | exact ih1 _ _ _ _ _
      | exact spec_l28Ok.mono _ _
      | exact LeO.none _
      | refine LeO.ite ?_ ?_
      | refine LeO.bind ?_ (fun _ => ?_)
set_option maxHeartbeats 8000000 in
set_option maxRecDepth 100000 in
theorem spec_ImageRange.calls (k : Nat) (A0 : Option Addr) (c0 : Nat) (l0 : List (List Int)) (r1 : Int) (r2 : Int) (r3 : Int) (w : World) (hr0 : Kd.C (Kd.slice 2 (Kd.int .i64)) w A0 l0.length l0) (hc0 : l0.length ≤ c0) (h : spec_ImageRange.f k l0 = some (r1, r2, r3)) :
    Calls Try.prog 26 #[.slice A0 l0.length c0] w fun e w' => e = .returned (.tuple #[.int .i64 r1, .int .i64 r2, .int .i64 r3]) ∧ Drawn0 w w' := by
  have HR0 := Aside0.mk hr0
  have HC0 := Aside0.mk hc0
  clear hr0 hc0
  have H : ((spec_l28Ok.f k l0).bind fun t130 => (if t130 = true then (if 0 < (l0.length : Int) then (if 0 < ((rd_L1 l0 0).length : Int) then (spec_ImageRange.l0 k l0 (rd (rd_L1 l0 0) 0) (rd (rd_L1 l0 0) 0) 0) else (none)) else (none)) else (some (0, 0, 1)))) = some (r1, r2, r3) := h
  clear h
  replace H := Option.bind_eq_some_iff.mp H
  obtain ⟨t130, A20, H⟩ := H
  replace H : (if t130 = true then (if 0 < (l0.length : Int) then (if 0 < ((rd_L1 l0 0).length : Int) then (spec_ImageRange.l0 k l0 (rd (rd_L1 l0 0) 0) (rd (rd_L1 l0 0) 0) 0) else (none)) else (none)) else (some (0, 0, 1))) = some (r1, r2, r3) := H
  have A2 := Aside0.mk A20
  clear A20
  by_cases c3 : t130 = true
  · subst c3
    have H1 : (if 0 < (l0.length : Int) then (if 0 < ((rd_L1 l0 0).length : Int) then (spec_ImageRange.l0 k l0 (rd (rd_L1 l0 0) 0) (rd (rd_L1 l0 0) 0) 0) else (none)) else (none)) = some (r1, r2, r3) := by rw [if_pos rfl] at H; exact H
    clear H
    have H := H1
    clear H1
    by_cases c4 : 0 < (l0.length : Int)
    · rw [if_pos c4] at H
      have c4b0 : decide (0 < (l0.length : Int)) = true := decide_eq_true c4
      have c4b1 : decide (0 < l0.length) = true := decide_eq_true (by omega)
      clear c4
      by_cases c5 : 0 < ((rd_L1 l0 0).length : Int)
      · rw [if_pos c5] at H
        have c5b0 : decide (0 < ((rd_L1 l0 0).length : Int)) = true := decide_eq_true c5
        have c5b1 : decide (0 < (rd_L1 l0 0).length) = true := decide_eq_true (by omega)
        clear c5
        have H' := Aside0.mk H
        clear H
        go_enter Try.func26, Try.ntmps26
        go_wp2_with (first | ((with_reducible refine gate_callee (f := 33) rfl ?_); refine goesL_ (some 10) rfl rfl Try.func33 (by kernel_rfl) rfl #[.slice A0 l0.length c0] rfl (by (try simp only [List.map_toArray, List.map_cons, List.map_nil]); first | done | rfl | (simp only [List.length_drop, List.length_take]; rfl)) ?_; (with_reducible refine (spec_l28Ok.calls k _ _ l0 true _ ?side1 ?side2 A2.out).mono ?_); (case side1 => repeat (first | exact HR0.out | (with_reducible refine Kd.C_alloc ?_ _) | (with_reducible refine Kd.C_drewN ?_ _) | (with_reducible refine Kd.C_drew ?_))); (case side2 => exact HC0.out); rintro e w' ⟨rfl, ⟨nd, rfl⟩⟩; refine ⟨_, rfl, ?_⟩; have p131 : 0 ≤ (0 : Int) := (by omega); have q131 : 0 < (l0.length : Int) := of_decide_eq_true (by first | (with_reducible assumption) | assumption); obtain ⟨ad131, A131_0, c131_0, e131, hx131_0, hl131_0, hi131_0⟩ := at_L1 HR0.out 0 p131 q131; cases e131; have qi131 : (0 < l0.length) = True := eq_true (by omega); (try rw [show ((0 : Int)).toNat = 0 from rfl] at hx131_0); (try rw [Addr.add_zero'] at hx131_0); have HR131_0 := Aside0.mk hi131_0; have HC131_0 := Aside0.mk hl131_0; clear hi131_0 hl131_0; replace p131 := eq_true p131; replace q131 := eq_true q131; have p132 : 0 ≤ (0 : Int) := (by omega); have q132 : 0 < ((rd_L1 l0 0).length : Int) := of_decide_eq_true (by first | (with_reducible assumption) | assumption); obtain ⟨ad132, e132, hx132_0⟩ := Kd.at_int HR131_0.out 0 p132 q132; cases e132; have qi132 : (0 < (rd_L1 l0 0).length) = True := eq_true (by omega); (try rw [show ((0 : Int)).toNat = 0 from rfl] at hx132_0); (try rw [Addr.add_zero'] at hx132_0); replace p132 := eq_true p132; replace q132 := eq_true q132))
        go_loopg [5, 6, 7] k (fun kq v5 v6 v7 w' => ∃ (x5_1 : Int) (x6_1 : Int) (x7_1 : Int), v5 = .int .i64 x5_1 ∧ v6 = .int .i64 x6_1 ∧ v7 = .int .i64 x7_1 ∧ Aside0 (spec_ImageRange.l0 kq l0 x5_1 x6_1 x7_1 = some (r1, r2, r3)) ∧ Aside0 (kq ≤ k) ∧ Drawn0 w w')
        case atStart => exact ⟨(rd (rd_L1 l0 0) 0), (rd (rd_L1 l0 0) 0), (0), (by first | rfl | (simp; done) | (simp [*]; done)), (by first | rfl | (simp; done) | (simp [*]; done)), (by first | rfl | (simp; done) | (simp [*]; done)), H', ⟨Nat.le_refl _⟩, by repeat (first | exact Drawn0.refl _ | apply Drawn0.step)⟩
        case round =>
          clear H'
          try clear c1
          try clear p1
          try clear q1
          try clear hx1
          try clear qi1
          try clear c2
          try clear p2
          try clear c3
          try clear c4
          try clear c4b0
          try clear c4b1
          try clear c5
          try clear c5b0
          try clear c5b1
          try clear hx131_0
          try clear hx132_0
          try clear p131
          try clear p132
          try clear q131
          try clear q132
          obtain ⟨x5_1, x6_1, x7_1, rfl, rfl, rfl, HA, HK1, ⟨m1, rfl⟩⟩ := hrel
          cases gk with
          | zero => exact absurd HA.out (by simp [spec_ImageRange.l0])
          | succ k1 =>
            have H := HA.out
            clear HA
            simp only [spec_ImageRange.l0] at H
            by_cases c6 : x7_1 < (l0.length : Int)
            · rw [if_pos c6] at H
              have c6b0 : decide (x7_1 < (l0.length : Int)) = true := decide_eq_true c6
              clear c6
              have H' := Aside0.mk H
              clear H
              go_wp2
              go_loopg [5, 6, 8] k1 (fun kq v5 v6 v8 w' => ∃ (x5_2 : Int) (x6_2 : Int) (x8_2 : Int), v5 = .int .i64 x5_2 ∧ v6 = .int .i64 x6_2 ∧ v8 = .int .i64 x8_2 ∧ Aside0 (spec_ImageRange.l1 kq l0 x5_2 x6_2 x7_1 x8_2 = some (r1, r2, r3)) ∧ Aside0 (kq ≤ k1) ∧ Drawn0 w w')
              case atStart => exact ⟨(x5_1), (x6_1), (0), (by first | rfl | (simp; done) | (simp [*]; done)), (by first | rfl | (simp; done) | (simp [*]; done)), (by first | rfl | (simp; done) | (simp [*]; done)), H', ⟨Nat.le_refl _⟩, by repeat (first | exact Drawn0.refl _ | apply Drawn0.step)⟩
              case round =>
                clear H'
                try clear c1
                try clear p1
                try clear q1
                try clear hx1
                try clear qi1
                try clear c2
                try clear p2
                try clear c3
                try clear c4
                try clear c4b0
                try clear c4b1
                try clear c5
                try clear c5b0
                try clear c5b1
                try clear c6
                try clear c6b0
                try clear hx131_0
                try clear hx132_0
                try clear p1
                try clear p131
                try clear p132
                try clear p2
                try clear q1
                try clear q131
                try clear q132
                obtain ⟨x5_2, x6_2, x8_2, rfl, rfl, rfl, HA, HK2, ⟨m2, rfl⟩⟩ := hrel
                cases gk with
                | zero => exact absurd HA.out (by simp [spec_ImageRange.l1])
                | succ k2 =>
                  have H := HA.out
                  clear HA
                  simp only [spec_ImageRange.l1] at H
                  by_cases c7 : 0 ≤ x7_1
                  · rw [if_pos c7] at H
                    have c7b0 : decide (0 ≤ x7_1) = true := decide_eq_true c7
                    clear c7
                    by_cases c8 : x7_1 < (l0.length : Int)
                    · rw [if_pos c8] at H
                      have c8b0 : decide (x7_1 < (l0.length : Int)) = true := decide_eq_true c8
                      clear c8
                      by_cases c9 : x8_2 < ((rd_L1 l0 x7_1).length : Int)
                      · rw [if_pos c9] at H
                        have c9b0 : decide (x8_2 < ((rd_L1 l0 x7_1).length : Int)) = true := decide_eq_true c9
                        clear c9
                        by_cases c10 : 0 ≤ x8_2
                        · rw [if_pos c10] at H
                          have c10b0 : decide (0 ≤ x8_2) = true := decide_eq_true c10
                          clear c10
                          replace H := Option.bind_eq_some_iff.mp H
                          obtain ⟨t136, A110, H⟩ := H
                          replace H : ((spec_l00Max.f x6_2 (rd (rd_L1 l0 x7_1) x8_2)).bind fun t139 => (spec_ImageRange.l1 k2 l0 t136 t139 x7_1 (wrap64 (x8_2 + 1)))) = some (r1, r2, r3) := H
                          have A11 := Aside0.mk A110
                          clear A110
                          replace H := Option.bind_eq_some_iff.mp H
                          obtain ⟨t139, A120, H⟩ := H
                          replace H : (spec_ImageRange.l1 k2 l0 t136 t139 x7_1 (wrap64 (x8_2 + 1))) = some (r1, r2, r3) := H
                          have A12 := Aside0.mk A120
                          clear A120
                          have H' := Aside0.mk H
                          clear H
                          have p133 : 0 ≤ (x7_1 : Int) := of_decide_eq_true (by first | (with_reducible assumption) | assumption)
                          have q133 : x7_1 < (l0.length : Int) := of_decide_eq_true (by first | (with_reducible assumption) | assumption)
                          obtain ⟨ad133, A133_0, c133_0, e133, hx133_0, hl133_0, hi133_0⟩ := at_L1 HR0.out x7_1 p133 q133
                          obtain rfl : ad131 = ad133 := (by injection e133)
                          have HR133_0 := Aside0.mk hi133_0
                          have HC133_0 := Aside0.mk hl133_0
                          clear hi133_0 hl133_0
                          replace p133 := eq_true p133
                          replace q133 := eq_true q133
                          have p134 : 0 ≤ (x7_1 : Int) := of_decide_eq_true (by first | (with_reducible assumption) | assumption)
                          have q134 : x7_1 < (l0.length : Int) := of_decide_eq_true (by first | (with_reducible assumption) | assumption)
                          obtain ⟨ad134, A134_0, c134_0, e134, hx134_0, hl134_0, hi134_0⟩ := at_L1 HR0.out x7_1 p134 q134
                          obtain rfl : ad131 = ad134 := (by injection e134)
                          have HR134_0 := Aside0.mk hi134_0
                          have HC134_0 := Aside0.mk hl134_0
                          clear hi134_0 hl134_0
                          replace p134 := eq_true p134
                          replace q134 := eq_true q134
                          have ea_ := Option.some.inj (hx133_0.symm.trans hx134_0)
                          injection ea_ with ea_ en_ ec_
                          subst ea_
                          subst ec_
                          clear en_
                          have p135 : 0 ≤ (x8_2 : Int) := of_decide_eq_true (by first | (with_reducible assumption) | assumption)
                          have q135 : x8_2 < ((rd_L1 l0 x7_1).length : Int) := of_decide_eq_true (by first | (with_reducible assumption) | assumption)
                          obtain ⟨ad135, e135, hx135_0⟩ := Kd.at_int HR134_0.out x8_2 p135 q135
                          cases e135
                          replace p135 := eq_true p135
                          replace q135 := eq_true q135
                          go_wp2_with (first | ((with_reducible refine gate_callee (f := 39) rfl ?_); refine goesL_ (some 41) rfl rfl Try.func39 (by kernel_rfl) rfl #[.int .i64 x5_2, .int .i64 (rd (rd_L1 l0 x7_1) x8_2)] rfl (by (try simp only [List.map_toArray, List.map_cons, List.map_nil]); first | done | rfl | (simp only [List.length_drop, List.length_take]; rfl)) ?_; (with_reducible refine (spec_l00Min.calls x5_2 (rd (rd_L1 l0 x7_1) x8_2) t136 _ A11.out).mono ?_); rintro e w' ⟨rfl, ⟨nd, rfl⟩⟩; refine ⟨_, rfl, ?_⟩; have p137 : 0 ≤ (x7_1 : Int) := of_decide_eq_true (by first | (with_reducible assumption) | assumption); have q137 : x7_1 < (l0.length : Int) := of_decide_eq_true (by first | (with_reducible assumption) | assumption); obtain ⟨ad137, A137_0, c137_0, e137, hx137_0, hl137_0, hi137_0⟩ := at_L1 HR0.out x7_1 p137 q137; obtain rfl : ad131 = ad137 := (by injection e137); have HR137_0 := Aside0.mk hi137_0; have HC137_0 := Aside0.mk hl137_0; clear hi137_0 hl137_0; replace p137 := eq_true p137; replace q137 := eq_true q137; have ea_ := Option.some.inj (hx133_0.symm.trans hx137_0); injection ea_ with ea_ en_ ec_; subst ea_; subst ec_; clear en_; have p138 : 0 ≤ (x8_2 : Int) := of_decide_eq_true (by first | (with_reducible assumption) | assumption); have q138 : x8_2 < ((rd_L1 l0 x7_1).length : Int) := of_decide_eq_true (by first | (with_reducible assumption) | assumption); obtain ⟨ad138, e138, hx138_0⟩ := Kd.at_int HR137_0.out x8_2 p138 q138; cases e138; replace p138 := eq_true p138; replace q138 := eq_true q138) | ((with_reducible refine gate_callee (f := 40) rfl ?_); refine goesL_ (some 50) rfl rfl Try.func40 (by kernel_rfl) rfl #[.int .i64 x6_2, .int .i64 (rd (rd_L1 l0 x7_1) x8_2)] rfl (by (try simp only [List.map_toArray, List.map_cons, List.map_nil]); first | done | rfl | (simp only [List.length_drop, List.length_take]; rfl)) ?_; (with_reducible refine (spec_l00Max.calls x6_2 (rd (rd_L1 l0 x7_1) x8_2) t139 _ A12.out).mono ?_); rintro e w' ⟨rfl, ⟨nd, rfl⟩⟩; refine ⟨_, rfl, ?_⟩))
                          go_roundg k2
                          case measure => have := HK1.out; have := HK2.out; omega
                          case rel => exact ⟨(t136), (t139), (wrap64 (x8_2 + 1)), (by first | rfl | (simp; done) | (simp [*]; done)), (by first | rfl | (simp; done) | (simp [*]; done)), (by first | rfl | (simp; done) | (simp [*]; done)), H', ⟨by have := HK1.out; have := HK2.out; omega⟩, by repeat (first | exact Drawn0.refl _ | apply Drawn0.step)⟩
                        · rw [if_neg c10] at H
                          exact absurd H (by simp)
                      · rw [if_neg c9] at H
                        have c9b0 : decide (x8_2 < ((rd_L1 l0 x7_1).length : Int)) = false := decide_eq_false c9
                        clear c9
                        have H' := Aside0.mk H
                        clear H
                        have p133 : 0 ≤ (x7_1 : Int) := of_decide_eq_true (by first | (with_reducible assumption) | assumption)
                        have q133 : x7_1 < (l0.length : Int) := of_decide_eq_true (by first | (with_reducible assumption) | assumption)
                        obtain ⟨ad133, A133_0, c133_0, e133, hx133_0, hl133_0, hi133_0⟩ := at_L1 HR0.out x7_1 p133 q133
                        obtain rfl : ad131 = ad133 := (by injection e133)
                        have HR133_0 := Aside0.mk hi133_0
                        have HC133_0 := Aside0.mk hl133_0
                        clear hi133_0 hl133_0
                        replace p133 := eq_true p133
                        replace q133 := eq_true q133
                        go_wp2
                        go_roundg k2
                        case measure => have := HK1.out; have := HK2.out; omega
                        case rel => exact ⟨(x5_2), (x6_2), (wrap64 (x7_1 + 1)), (by first | rfl | (simp; done) | (simp [*]; done)), (by first | rfl | (simp; done) | (simp [*]; done)), (by first | rfl | (simp; done) | (simp [*]; done)), H', ⟨by have := HK1.out; have := HK2.out; omega⟩, by repeat (first | exact Drawn0.refl _ | apply Drawn0.step)⟩
                    · rw [if_neg c8] at H
                      exact absurd H (by simp)
                  · rw [if_neg c7] at H
                    exact absurd H (by simp)
            · rw [if_neg c6] at H
              have c6b0 : decide (x7_1 < (l0.length : Int)) = false := decide_eq_false c6
              clear c6
              simp only [Option.some.injEq, Prod.mk.injEq] at H
              obtain ⟨rfl, rfl, rfl⟩ := H
              go_wp2
              go_ret3
              exact ⟨by first | rfl | (simp; done) | (simp [*]; done), by repeat (first | exact Drawn0.refl _ | apply Drawn0.step)⟩
      · rw [if_neg c5] at H
        exact absurd H (by simp)
    · rw [if_neg c4] at H
      exact absurd H (by simp)
  · replace c3 := Bool.eq_false_iff.mpr c3
    subst c3
    have H1 : (some (0, 0, 1)) = some (r1, r2, r3) := by rw [if_neg (show ¬ (false = true) by decide)] at H; exact H
    clear H
    have H := H1
    clear H1
    simp only [Option.some.injEq, Prod.mk.injEq] at H
    obtain ⟨rfl, rfl, rfl⟩ := H
    go_enter Try.func26, Try.ntmps26
    go_wp2_with (first | ((with_reducible refine gate_callee (f := 33) rfl ?_); refine goesL_ (some 10) rfl rfl Try.func33 (by kernel_rfl) rfl #[.slice A0 l0.length c0] rfl (by (try simp only [List.map_toArray, List.map_cons, List.map_nil]); first | done | rfl | (simp only [List.length_drop, List.length_take]; rfl)) ?_; (with_reducible refine (spec_l28Ok.calls k _ _ l0 false _ ?side1 ?side2 A2.out).mono ?_); (case side1 => repeat (first | exact HR0.out | (with_reducible refine Kd.C_alloc ?_ _) | (with_reducible refine Kd.C_drewN ?_ _) | (with_reducible refine Kd.C_drew ?_))); (case side2 => exact HC0.out); rintro e w' ⟨rfl, ⟨nd, rfl⟩⟩; refine ⟨_, rfl, ?_⟩))
    go_ret3
    exact ⟨by first | rfl | (simp; done) | (simp [*]; done), by repeat (first | exact Drawn0.refl _ | apply Drawn0.step)⟩



/-! ### impl_allWithin: function 30 -/
def inB (lo hi x : Int) : Bool := decide (lo ≤ x) && decide (x ≤ hi)
theorem within_all (a0 a1 a2 : Int) (w : World) :
    Calls Try.prog 45 #[.int .i64 a0, .int .i64 a1, .int .i64 a2] w fun e w' => e = .returned (.bool (inB a1 a2 a0)) ∧ w = w' := by
  by_cases h : a1 ≤ a0
  · go_enter Try.func45, Try.ntmps45
    go_wp2
    go_ret
    exact ⟨by simp [inB, h], rfl⟩
  · go_enter Try.func45, Try.ntmps45
    go_wp2
    go_ret
    exact ⟨by simp [inB]; omega, rfl⟩

def GivesB (P : Program) (g : Nat) (lb : Array Value) (w0 : World) (x : Value) (b : Bool) : Prop :=
  ∀ W, Below w0.heap.size w0 W → Calls P g (#[x] ++ lb) W fun e w' => e = .returned (.bool b) ∧ Below w0.heap.size w0 w'
def idxF {α : Type} (p : α → Bool) : List α → Nat → Int
  | [], _ => -1
  | x :: xs, n => if p x then n else idxF p xs (n + 1)
theorem idxF_drop_hit {α : Type} (p : α → Bool) (d : α) : ∀ (l : List α) (k n : Nat), k < l.length → (∀ j, j < k → p (l.getD j d) = false) → p (l.getD k d) = true → idxF p l n = ((n + k : Nat) : Int)
  | [], k, n, h, _, _ => absurd h (by simp)
  | x :: xs, 0, n, h, h1, h2 => by simp at h2; simp [idxF, h2]
  | x :: xs, k + 1, n, h, h1, h2 => by
    have h0 := h1 0 (by omega)
    simp at h0
    simp only [idxF, h0]
    have := idxF_drop_hit p d xs k (n + 1) (by simpa using h) (fun j hj => by have := h1 (j + 1) (by omega); simpa using this) (by simpa using h2)
    simp only [Bool.false_eq_true, if_false, this]
    congr 1; omega
theorem idxF_miss {α : Type} (p : α → Bool) (d : α) : ∀ (l : List α) (n : Nat), (∀ j, j < l.length → p (l.getD j d) = false) → idxF p l n = -1
  | [], n, _ => rfl
  | x :: xs, n, h1 => by
    have h0 := h1 0 (by simp)
    simp at h0
    simp only [idxF, h0]
    have := idxF_miss p d xs (n + 1) (fun j hj => by have := h1 (j + 1) (by simpa using hj); simpa using this)
    simpa using this
theorem idxF_any {α : Type} (p : α → Bool) : ∀ (l : List α) (n : Nat), decide (0 ≤ idxF p l n) = l.any p
  | [], n => by simp [idxF]
  | x :: xs, n => by
    unfold idxF
    by_cases h : p x = true
    · simp [h]
    · simp only [Bool.not_eq_true] at h
      simp only [h, Bool.false_eq_true, if_false, List.any_cons, Bool.false_or]
      exact idxF_any p xs (n + 1)

set_option maxHeartbeats 2000000 in
theorem slices_IndexFunc_i64 (p : Int → Bool) (g : Nat) (lb : Array Value) (eg : ∀ args w, (callFunc g args).run Try.prog w = .ok (.enter g args) w)
    (A : Option Addr) (c : Nat) (l : List Int) (w : World) (hr : Kd.C (Kd.int .i64) w A l.length l) (hbig : l.length < 9223372036854775807)
    (hp : ∀ x, x ∈ l → GivesB Try.prog g lb w (.int .i64 x) (p x)) :
    Calls Try.prog 49 #[.slice A l.length c, .func (.func g) #[] lb] w fun e w' => e = .returned (.int .i64 (idxF p l 0)) ∧ Below w.heap.size w w' := by
  have HR := Aside0.mk hr
  have HP := Aside0.mk hp
  clear hr hp
  go_enter Try.func49, Try.ntmps49
  go_wp2
  go_loopg [5, 8] l.length (fun gg _ s8 wr => ∃ kk : Nat, kk ≤ l.length ∧ l.length - kk ≤ gg ∧ s8 = .int .i64 kk ∧ Aside0 (Below w.heap.size w wr) ∧ Aside0 (∀ j, j < kk → p (l.getD j 0) = false))
  case atStart => exact ⟨0, Nat.zero_le _, by omega, rfl, ⟨Below.refl _ w⟩, ⟨fun j hj => absurd hj (Nat.not_lt_zero _)⟩⟩
  case round =>
    obtain ⟨kk, hkk, hg, rfl, BW, A0⟩ := hrel
    by_cases hlt : kk < l.length
    · have hltz : (kk : Int) < (l.length : Int) := by omega
      have HR1 := Aside0.mk (Kd.C_below HR.out BW.out)
      obtain ⟨ad, rfl, hx⟩ := Kd.at_int HR1.out (kk : Int) (by omega) hltz
      rw [Int.toNat_natCast] at hx
      have hmem : rd l (kk : Int) ∈ l := by
        unfold rd
        rw [Int.toNat_natCast, List.getD_eq_getElem?_getD, List.getElem?_eq_getElem hlt]
        exact List.getElem_mem _
      have hcall := HP.out _ hmem wr BW.out
      have ey : rd l (kk : Int) = l.getD kk 0 := by unfold rd; rw [Int.toNat_natCast]
      generalize rd l (kk : Int) = y at hx hcall ey
      have B := Aside0.mk ey
      clear ey
      cases hq : p y with
      | true =>
        rw [hq] at hcall
        go_wp2_with (go_at_fn g; refine hcall.mono ?_; rintro e w' ⟨rfl, hb'⟩)
        go_ret
        refine ⟨?_, hb'⟩
        rw [idxF_drop_hit p 0 l kk 0 hlt A0.out (by rw [← B.out]; exact hq), Nat.zero_add]
        rfl
      | false =>
        rw [hq] at hcall
        go_wp2_with (go_at_fn g; refine hcall.mono ?_; rintro e w' ⟨rfl, hb'⟩)
        go_roundg (l.length - (kk + 1))
        case measure => omega
        case rel =>
          refine ⟨kk + 1, by omega, by omega, by go_num, ⟨hb'⟩, ⟨fun j hj => ?_⟩⟩
          by_cases e : j = kk
          · subst e
            rw [← B.out]; exact hq
          · exact A0.out j (by omega)
    · have hltz : ¬ (kk : Int) < (l.length : Int) := by omega
      have : kk = l.length := by omega
      subst this
      go_wp2
      go_ret
      refine ⟨?_, BW.out⟩
      rw [idxF_miss p 0 l 0 A0.out]
      rfl

set_option maxHeartbeats 2000000 in
theorem slices_ContainsFunc_i64 (p : Int → Bool) (g : Nat) (lb : Array Value) (eg : ∀ args w, (callFunc g args).run Try.prog w = .ok (.enter g args) w)
    (A : Option Addr) (c : Nat) (l : List Int) (w : World) (hr : Kd.C (Kd.int .i64) w A l.length l) (hbig : l.length < 9223372036854775807)
    (hp : ∀ x, x ∈ l → GivesB Try.prog g lb w (.int .i64 x) (p x)) :
    Calls Try.prog 43 #[.slice A l.length c, .func (.func g) #[] lb] w fun e w' => e = .returned (.bool (decide (0 ≤ idxF p l 0))) ∧ Below w.heap.size w w' := by
  have HR := Aside0.mk hr
  have HP := Aside0.mk hp
  clear hr hp
  go_enter Try.func43, Try.ntmps43
  go_wp2_with (go_at_call 49; refine (slices_IndexFunc_i64 p g lb eg A c l _ HR.out hbig HP.out).mono ?_; rintro e w' ⟨rfl, hb'⟩)
  go_ret
  exact ⟨rfl, hb'⟩

theorem allWithin_1 (w : World) (B C : Nat) (lo hi : Int) (hB : B < w.heap.size) (hC : C < w.heap.size)
    (hb : w.cell? ⟨B, 0, none⟩ = some (.int .i64 lo)) (hc : w.cell? ⟨C, 0, none⟩ = some (.int .i64 hi)) (x : Int) :
    GivesB Try.prog 44 #[.pointer (some ⟨B, 0, none⟩), .pointer (some ⟨C, 0, none⟩)] w (.int .i64 x) (!inB lo hi x) := fun W hbel => by
  have hb' : W.cell? ⟨B, 0, none⟩ = some (.int .i64 lo) := (hbel.cell (p := ⟨B, 0, none⟩) hB).trans hb
  have hc' : W.cell? ⟨C, 0, none⟩ = some (.int .i64 hi) := (hbel.cell (p := ⟨C, 0, none⟩) hC).trans hc
  go_enter Try.func44, Try.ntmps44
  go_wp2_with (go_at_call 45; refine (within_all _ _ _ _).mono ?_; rintro e w' ⟨rfl, rfl⟩)
  go_ret
  exact ⟨rfl, hbel⟩
def impl_allWithin.f (l0 : List Int) (a1 : Int) (a2 : Int) : Option Bool :=
  if l0.length < 9223372036854775807 then some (l0.all (inB a1 a2)) else none
theorem impl_allWithin.calls (A0 : Option Addr) (c0 : Nat) (l0 : List Int) (a1 : Int) (a2 : Int) (r : Bool) (w : World) (hr0 : Kd.C (Kd.int .i64) w A0 l0.length l0) (hc0 : l0.length ≤ c0) (h : impl_allWithin.f l0 a1 a2 = some r) :
    Calls Try.prog 30 #[.slice A0 l0.length c0, .int .i64 a1, .int .i64 a2] w fun e w' => e = .returned (.bool r) ∧ Below w.heap.size w w' := by
  unfold impl_allWithin.f at h
  split at h
  · rename_i hlen
    have hrr : r = !decide (0 ≤ idxF (fun x => !inB a1 a2 x) l0 0) := by
      rw [idxF_any]
      rw [← Option.some.inj h, List.not_any_eq_all_not]
      simp
    have HR := Aside0.mk hr0
    have HRR := Aside0.mk hrr
    clear h hr0 hc0 hrr
    have hC := fun (W : World) (hbel : Below w.heap.size w W) (hB : w.heap.size < W.heap.size) (hC : w.heap.size + 1 < W.heap.size) (hb : W.cell? ⟨w.heap.size, 0, none⟩ = some (.int .i64 a1)) (hc : W.cell? ⟨w.heap.size + 1, 0, none⟩ = some (.int .i64 a2)) =>
      slices_ContainsFunc_i64 (fun x => !inB a1 a2 x) 44 #[.pointer (some ⟨w.heap.size, 0, none⟩), .pointer (some ⟨w.heap.size + 1, 0, none⟩)] (enters_of Try.func44 (by kernel_rfl) rfl) A0 c0 l0 W (Kd.C_below HR.out hbel) hlen (fun x _ => allWithin_1 W _ _ a1 a2 hB hC hb hc x)
    go_enter Try.func30, Try.ntmps30
    go_wp2_with (go_at_call 43; refine (hC _ (((Below.refl _ w).alloc (Nat.le_refl _) _).alloc (by simp) _) (by simp; omega) (by simp) (by simp) (by simp)).mono ?_; rintro e w' ⟨rfl, hb⟩)
    go_ret
    exact ⟨by rw [HRR.out]; rfl, (((Below.refl _ w).alloc (Nat.le_refl _) _).alloc (by simp) _).trans (hb.mono (by simp; omega))⟩
  · cases h

/-! ### impl_ValidImage: function 18 -/
mutual
def impl_ValidImage.j0 : Nat → List (List Int) → Bool → Option (Bool)
  | 0, _, _ => none
  | k + 1, x0, x12 => if x12 = true then (some false) else (impl_ValidImage.l0 k x0 x0 (x0.length : Int) 0)
def impl_ValidImage.l0 : Nat → List (List Int) → List (List Int) → Int → Int → Option (Bool)
  | 0, _, _, _, _ => none
  | k + 1, x0, x13, x14, x15 => if x15 < x14 then (if 0 ≤ x15 then (if x15 < (x13.length : Int) then (if ((rd_L1 x13 x15).length : Int) < 1 then (some false) else (if ((rd_L1 x13 x15).length : Int) > 16 then (some false) else (if 0 < (x0.length : Int) then (if ((rd_L1 x13 x15).length : Int) = ((rd_L1 x0 0).length : Int) then ((impl_allWithin.f (rd_L1 x13 x15) (-5000) 20000).bind fun t142 => (if t142 = true then (impl_ValidImage.l0 k x0 x13 x14 (wrap64 (x15 + 1))) else (some false))) else (some false)) else (none)))) else (none)) else (none)) else (some true)
end
def impl_ValidImage.f (k : Nat) (l0 : List (List Int)) : Option (Bool) := if (l0.length : Int) < 1 then (impl_ValidImage.j0 k l0 true) else (impl_ValidImage.j0 k l0 (decide ((l0.length : Int) > 16)))
theorem impl_ValidImage.mono_l : ∀ k, (∀ y0 y1, LeO (impl_ValidImage.j0 k y0 y1) (impl_ValidImage.j0 (k + 1) y0 y1)) ∧ (∀ y0 y1 y2 y3, LeO (impl_ValidImage.l0 k y0 y1 y2 y3) (impl_ValidImage.l0 (k + 1) y0 y1 y2 y3))
  | 0 => ⟨fun _ _ r h => by simp [impl_ValidImage.j0] at h, fun _ _ _ _ r h => by simp [impl_ValidImage.l0] at h⟩
  | k + 1 => by
    obtain ⟨ih0, ih1⟩ := impl_ValidImage.mono_l k
    refine ⟨?_, ?_⟩
    · intro y0 y1
      unfold impl_ValidImage.j0
      repeat' first
      | (with_reducible exact ih0 _ _)
      | (with_reducible exact ih1 _ _ _ _)
      | (with_reducible exact LeO.refl _)
      | (with_reducible exact LeO.none _)
      | (with_reducible refine LeO.ite ?_ ?_)
      | (with_reducible refine LeO.bind ?_ (fun _ => ?_))
      | exact ih0 _ _
      | exact ih1 _ _ _ _
      | exact LeO.none _
      | refine LeO.ite ?_ ?_
      | refine LeO.bind ?_ (fun _ => ?_)
    · intro y0 y1 y2 y3
      unfold impl_ValidImage.l0
      repeat' first
      | (with_reducible exact ih0 _ _)
      | (with_reducible exact ih1 _ _ _ _)
      | (with_reducible exact LeO.refl _)
      | (with_reducible exact LeO.none _)
      | (with_reducible refine LeO.ite ?_ ?_)
      | (with_reducible refine LeO.bind ?_ (fun _ => ?_))
      | exact ih0 _ _
      | exact ih1 _ _ _ _
      | exact LeO.none _
      | refine LeO.ite ?_ ?_
      | refine LeO.bind ?_ (fun _ => ?_)
theorem impl_ValidImage.mono : ∀ a0 k, LeO (impl_ValidImage.f k a0) (impl_ValidImage.f (k + 1) a0) := by
  intro a0 k
  obtain ⟨ih0, ih1⟩ := impl_ValidImage.mono_l k
  unfold impl_ValidImage.f
  repeat' first
      | (with_reducible exact ih0 _ _)
      | (with_reducible exact ih1 _ _ _ _)
      | (with_reducible exact LeO.refl _)
      | (with_reducible exact LeO.none _)
      | (with_reducible refine LeO.ite ?_ ?_)
      | (with_reducible refine LeO.bind ?_ (fun _ => ?_))
      | exact ih0 _ _
      | exact ih1 _ _ _ _
      | exact LeO.none _
      | refine LeO.ite ?_ ?_
      | refine LeO.bind ?_ (fun _ => ?_)
set_option maxHeartbeats 8000000 in
set_option maxRecDepth 100000 in
theorem impl_ValidImage.calls (k : Nat) (A0 : Option Addr) (c0 : Nat) (l0 : List (List Int)) (r : Bool) (w : World) (hr0 : Kd.C (Kd.slice 2 (Kd.int .i64)) w A0 l0.length l0) (hc0 : l0.length ≤ c0) (h : impl_ValidImage.f k l0 = some r) :
    Calls Try.prog 18 #[.slice A0 l0.length c0] w fun e w' => e = .returned (.bool r) ∧ Below w.heap.size w w' := by
  have HR0 := Aside0.mk hr0
  have HC0 := Aside0.mk hc0
  clear hr0 hc0
  have HB := Aside0.mk (Below.refl w.heap.size w)
  have H : (if (l0.length : Int) < 1 then (impl_ValidImage.j0 k l0 true) else (impl_ValidImage.j0 k l0 (decide ((l0.length : Int) > 16)))) = some r := h
  clear h
  have HC2 := Aside0.mk H
  clear H
  go_enter Try.func18, Try.ntmps18
  go_upto_region 1 with (fail)
  go_cut [12] (fun v12 wc => ∃ (kq : Nat) (x12_1 : Bool), v12 = .bool x12_1 ∧ Aside0 (impl_ValidImage.j0 kq l0 x12_1 = some r) ∧ Aside0 (kq ≤ k) ∧ Aside0 (Below w.heap.size w wc))
  case first =>
    have H := HC2.out
    clear HC2
    by_cases c3 : (l0.length : Int) < 1
    · rw [if_pos c3] at H
      have c3b0 : decide ((l0.length : Int) < 1) = true := decide_eq_true c3
      have c3b1 : decide (l0.length < 1) = true := decide_eq_true (by omega)
      clear c3
      (first | rw [c3b0] | (simp only [i64_w, i32_w]; rw [c3b0]) | skip)
      have H' := Aside0.mk H
      clear H
      go_wp2
      go_meet
      case rel => exact ⟨_, (true), (by first | rfl | (simp; done) | (simp [*]; done)), H', ⟨by first | omega | exact Nat.le_refl _⟩, ⟨by repeat (first | (with_reducible first | exact HB.out | apply below_alloc | apply pw_below_drewN | apply below_drew1) | exact HB.out)⟩⟩
    · rw [if_neg c3] at H
      have c3b0 : decide ((l0.length : Int) < 1) = false := decide_eq_false c3
      have c3b1 : decide (l0.length < 1) = false := decide_eq_false (by omega)
      clear c3
      (first | rw [c3b0] | (simp only [i64_w, i32_w]; rw [c3b0]) | skip)
      have H' := Aside0.mk H
      clear H
      go_wp2
      go_meet
      case rel => exact ⟨_, (decide ((l0.length : Int) > 16)), (by first | rfl | (simp; done) | (simp [*]; done)), H', ⟨by first | omega | exact Nat.le_refl _⟩, ⟨by repeat (first | (with_reducible first | exact HB.out | apply below_alloc | apply pw_below_drewN | apply below_drew1) | exact HB.out)⟩⟩
  case rest =>
    clear HC2
    try clear c1
    try clear p2
    try clear c3
    try clear c3b0
    try clear c3b1
    obtain ⟨kq, x12_1, rfl, HA, HJ1, HB⟩ := hcut
    cases kq with
    | zero => exact absurd HA.out (by simp [impl_ValidImage.j0])
    | succ kj1 =>
      have H := HA.out
      clear HA
      simp only [impl_ValidImage.j0] at H
      by_cases c4 : x12_1 = true
      · subst c4
        have H1 : (some false) = some r := by rw [if_pos rfl] at H; exact H
        clear H
        have H := H1
        clear H1
        obtain rfl := Option.some.inj H
        go_wp2
        go_ret
        exact ⟨by first | rfl | (simp [errW_none, errW_some] <;> rfl) | (simp [*, errW_none, errW_some] <;> rfl), by repeat (first | (with_reducible first | exact HB.out | apply below_alloc | apply pw_below_drewN | apply below_drew1) | exact HB.out)⟩
      · replace c4 := Bool.eq_false_iff.mpr c4
        subst c4
        have H1 : (impl_ValidImage.l0 kj1 l0 l0 (l0.length : Int) 0) = some r := by rw [if_neg (show ¬ (false = true) by decide)] at H; exact H
        clear H
        have H := H1
        clear H1
        have H' := Aside0.mk H
        clear H
        go_wp2
        go_loopg [15] kj1 (fun kq v15 w' => ∃ (x15_2 : Int), v15 = .int .i64 x15_2 ∧ Aside0 (impl_ValidImage.l0 kq l0 l0 (l0.length : Int) x15_2 = some r) ∧ Aside0 (kq ≤ kj1) ∧ Aside0 (Below w.heap.size w w'))
        case atStart => exact ⟨(0), (by first | rfl | (simp; done) | (simp [*]; done)), H', ⟨Nat.le_refl _⟩, ⟨by repeat (first | (with_reducible first | exact HB.out | apply below_alloc | apply pw_below_drewN | apply below_drew1) | exact HB.out)⟩⟩
        case round =>
          clear H'
          try clear c1
          try clear p2
          try clear c3
          try clear c3b0
          try clear c3b1
          try clear c4
          try clear p2
          obtain ⟨x15_2, rfl, HA, HK2, HB⟩ := hrel
          cases gk with
          | zero => exact absurd HA.out (by simp [impl_ValidImage.l0])
          | succ k2 =>
            have H := HA.out
            clear HA
            simp only [impl_ValidImage.l0] at H
            by_cases c5 : x15_2 < (l0.length : Int)
            · rw [if_pos c5] at H
              have c5b0 : decide (x15_2 < (l0.length : Int)) = true := decide_eq_true c5
              clear c5
              by_cases c6 : 0 ≤ x15_2
              · rw [if_pos c6] at H
                have c6b0 : decide (0 ≤ x15_2) = true := decide_eq_true c6
                clear c6
                by_cases c7 : x15_2 < (l0.length : Int)
                · rw [if_pos c7] at H
                  have c7b0 : decide (x15_2 < (l0.length : Int)) = true := decide_eq_true c7
                  clear c7
                  by_cases c8 : ((rd_L1 l0 x15_2).length : Int) < 1
                  · rw [if_pos c8] at H
                    have c8b0 : decide (((rd_L1 l0 x15_2).length : Int) < 1) = true := decide_eq_true c8
                    have c8b1 : decide ((rd_L1 l0 x15_2).length < 1) = true := decide_eq_true (by omega)
                    clear c8
                    obtain rfl := Option.some.inj H
                    have p140 : 0 ≤ (x15_2 : Int) := of_decide_eq_true (by first | (with_reducible assumption) | assumption)
                    have q140 : x15_2 < (l0.length : Int) := of_decide_eq_true (by first | (with_reducible assumption) | assumption)
                    obtain ⟨ad140, A140_0, c140_0, e140, hx140_0, hl140_0, hi140_0⟩ := at_L1 HR0.out x15_2 p140 q140
                    cases e140
                    replace hx140_0 := (HB.out.cell (World.block_lt_of_cell? w _ hx140_0)).trans hx140_0
                    have HR140_0 := Aside0.mk hi140_0
                    have HC140_0 := Aside0.mk hl140_0
                    clear hi140_0 hl140_0
                    replace p140 := eq_true p140
                    replace q140 := eq_true q140
                    go_wp2
                    go_ret
                    exact ⟨by first | rfl | (simp [errW_none, errW_some] <;> rfl) | (simp [*, errW_none, errW_some] <;> rfl), by repeat (first | (with_reducible first | exact HB.out | apply below_alloc | apply pw_below_drewN | apply below_drew1) | exact HB.out)⟩
                  · rw [if_neg c8] at H
                    have c8b0 : decide (((rd_L1 l0 x15_2).length : Int) < 1) = false := decide_eq_false c8
                    have c8b1 : decide ((rd_L1 l0 x15_2).length < 1) = false := decide_eq_false (by omega)
                    clear c8
                    by_cases c9 : ((rd_L1 l0 x15_2).length : Int) > 16
                    · rw [if_pos c9] at H
                      have c9b0 : decide (16 < ((rd_L1 l0 x15_2).length : Int)) = true := decide_eq_true c9
                      have c9b1 : decide (16 < (rd_L1 l0 x15_2).length) = true := decide_eq_true (by omega)
                      clear c9
                      obtain rfl := Option.some.inj H
                      have p140 : 0 ≤ (x15_2 : Int) := of_decide_eq_true (by first | (with_reducible assumption) | assumption)
                      have q140 : x15_2 < (l0.length : Int) := of_decide_eq_true (by first | (with_reducible assumption) | assumption)
                      obtain ⟨ad140, A140_0, c140_0, e140, hx140_0, hl140_0, hi140_0⟩ := at_L1 HR0.out x15_2 p140 q140
                      cases e140
                      replace hx140_0 := (HB.out.cell (World.block_lt_of_cell? w _ hx140_0)).trans hx140_0
                      have HR140_0 := Aside0.mk hi140_0
                      have HC140_0 := Aside0.mk hl140_0
                      clear hi140_0 hl140_0
                      replace p140 := eq_true p140
                      replace q140 := eq_true q140
                      go_wp2
                      go_ret
                      exact ⟨by first | rfl | (simp [errW_none, errW_some] <;> rfl) | (simp [*, errW_none, errW_some] <;> rfl), by repeat (first | (with_reducible first | exact HB.out | apply below_alloc | apply pw_below_drewN | apply below_drew1) | exact HB.out)⟩
                    · rw [if_neg c9] at H
                      have c9b0 : decide (16 < ((rd_L1 l0 x15_2).length : Int)) = false := decide_eq_false c9
                      have c9b1 : decide (16 < (rd_L1 l0 x15_2).length) = false := decide_eq_false (by omega)
                      clear c9
                      by_cases c10 : 0 < (l0.length : Int)
                      · rw [if_pos c10] at H
                        have c10b0 : decide (0 < (l0.length : Int)) = true := decide_eq_true c10
                        have c10b1 : decide (0 < l0.length) = true := decide_eq_true (by omega)
                        clear c10
                        by_cases c11 : ((rd_L1 l0 x15_2).length : Int) = ((rd_L1 l0 0).length : Int)
                        · rw [if_pos c11] at H
                          have c11b0 : (((rd_L1 l0 x15_2).length : Int) == ((rd_L1 l0 0).length : Int)) = true := beq_iff_eq.mpr c11
                          have c11b1 : (((rd_L1 l0 x15_2).length : Int) != ((rd_L1 l0 0).length : Int)) = false := bne_eq_false_iff_eq.mpr c11
                          have c11b2 : ((rd_L1 l0 x15_2).length == (rd_L1 l0 0).length) = true := by first | simpa using c11 | (simp at c11 ⊢; omega)
                          clear c11
                          replace H := Option.bind_eq_some_iff.mp H
                          obtain ⟨t142, A120, H⟩ := H
                          replace H : (if t142 = true then (impl_ValidImage.l0 k2 l0 l0 (l0.length : Int) (wrap64 (x15_2 + 1))) else (some false)) = some r := H
                          have A12 := Aside0.mk A120
                          clear A120
                          by_cases c13 : t142 = true
                          · subst c13
                            have H1 : (impl_ValidImage.l0 k2 l0 l0 (l0.length : Int) (wrap64 (x15_2 + 1))) = some r := by rw [if_pos rfl] at H; exact H
                            clear H
                            have H := H1
                            clear H1
                            have H' := Aside0.mk H
                            clear H
                            have p140 : 0 ≤ (x15_2 : Int) := of_decide_eq_true (by first | (with_reducible assumption) | assumption)
                            have q140 : x15_2 < (l0.length : Int) := of_decide_eq_true (by first | (with_reducible assumption) | assumption)
                            obtain ⟨ad140, A140_0, c140_0, e140, hx140_0, hl140_0, hi140_0⟩ := at_L1 HR0.out x15_2 p140 q140
                            cases e140
                            replace hx140_0 := (HB.out.cell (World.block_lt_of_cell? w _ hx140_0)).trans hx140_0
                            have HR140_0 := Aside0.mk hi140_0
                            have HC140_0 := Aside0.mk hl140_0
                            clear hi140_0 hl140_0
                            replace p140 := eq_true p140
                            replace q140 := eq_true q140
                            have p141 : 0 ≤ (0 : Int) := (by omega)
                            have q141 : 0 < (l0.length : Int) := of_decide_eq_true (by first | (with_reducible assumption) | assumption)
                            obtain ⟨ad141, A141_0, c141_0, e141, hx141_0, hl141_0, hi141_0⟩ := at_L1 HR0.out 0 p141 q141
                            obtain rfl : ad140 = ad141 := (by injection e141)
                            have qi141 : (0 < l0.length) = True := eq_true (by omega)
                            (try rw [show ((0 : Int)).toNat = 0 from rfl] at hx141_0)
                            (try rw [Addr.add_zero'] at hx141_0)
                            replace hx141_0 := (HB.out.cell (World.block_lt_of_cell? w _ hx141_0)).trans hx141_0
                            have HR141_0 := Aside0.mk hi141_0
                            have HC141_0 := Aside0.mk hl141_0
                            clear hi141_0 hl141_0
                            replace p141 := eq_true p141
                            replace q141 := eq_true q141
                            go_wp2_with (first | (go_at_call 30; (with_reducible refine (impl_allWithin.calls _ _ (rd_L1 l0 x15_2) (-5000) 20000 true _ ?side1 ?side2 A12.out).mono ?_); (case side1 => repeat (first | exact (Kd.C_below HR140_0.out HB.out) | (with_reducible refine Kd.C_alloc ?_ _) | (with_reducible refine Kd.C_drewN ?_ _) | (with_reducible refine Kd.C_drew ?_))); (case side2 => exact HC140_0.out); rintro e w14 ⟨rfl, hb⟩; have n0_ := Aside0.mk (below_step (by repeat (first | (with_reducible first | exact HB.out | apply below_alloc | apply pw_below_drewN | apply below_drew1) | exact HB.out)) hb); clear HB; have HB := n0_; clear n0_; (try clear hb); (try clear hb2); (try clear hk); (try clear hi)))
                            go_roundg k2
                            case measure => have := HJ1.out; have := HK2.out; omega
                            case rel => exact ⟨(wrap64 (x15_2 + 1)), (by first | rfl | (simp; done) | (simp [*]; done)), H', ⟨by have := HJ1.out; have := HK2.out; omega⟩, ⟨by repeat (first | (with_reducible first | exact HB.out | apply below_alloc | apply pw_below_drewN | apply below_drew1) | exact HB.out)⟩⟩
                          · replace c13 := Bool.eq_false_iff.mpr c13
                            subst c13
                            have H1 : (some false) = some r := by rw [if_neg (show ¬ (false = true) by decide)] at H; exact H
                            clear H
                            have H := H1
                            clear H1
                            obtain rfl := Option.some.inj H
                            have p140 : 0 ≤ (x15_2 : Int) := of_decide_eq_true (by first | (with_reducible assumption) | assumption)
                            have q140 : x15_2 < (l0.length : Int) := of_decide_eq_true (by first | (with_reducible assumption) | assumption)
                            obtain ⟨ad140, A140_0, c140_0, e140, hx140_0, hl140_0, hi140_0⟩ := at_L1 HR0.out x15_2 p140 q140
                            cases e140
                            replace hx140_0 := (HB.out.cell (World.block_lt_of_cell? w _ hx140_0)).trans hx140_0
                            have HR140_0 := Aside0.mk hi140_0
                            have HC140_0 := Aside0.mk hl140_0
                            clear hi140_0 hl140_0
                            replace p140 := eq_true p140
                            replace q140 := eq_true q140
                            have p141 : 0 ≤ (0 : Int) := (by omega)
                            have q141 : 0 < (l0.length : Int) := of_decide_eq_true (by first | (with_reducible assumption) | assumption)
                            obtain ⟨ad141, A141_0, c141_0, e141, hx141_0, hl141_0, hi141_0⟩ := at_L1 HR0.out 0 p141 q141
                            obtain rfl : ad140 = ad141 := (by injection e141)
                            have qi141 : (0 < l0.length) = True := eq_true (by omega)
                            (try rw [show ((0 : Int)).toNat = 0 from rfl] at hx141_0)
                            (try rw [Addr.add_zero'] at hx141_0)
                            replace hx141_0 := (HB.out.cell (World.block_lt_of_cell? w _ hx141_0)).trans hx141_0
                            have HR141_0 := Aside0.mk hi141_0
                            have HC141_0 := Aside0.mk hl141_0
                            clear hi141_0 hl141_0
                            replace p141 := eq_true p141
                            replace q141 := eq_true q141
                            go_wp2_with (first | (go_at_call 30; (with_reducible refine (impl_allWithin.calls _ _ (rd_L1 l0 x15_2) (-5000) 20000 false _ ?side1 ?side2 A12.out).mono ?_); (case side1 => repeat (first | exact (Kd.C_below HR140_0.out HB.out) | (with_reducible refine Kd.C_alloc ?_ _) | (with_reducible refine Kd.C_drewN ?_ _) | (with_reducible refine Kd.C_drew ?_))); (case side2 => exact HC140_0.out); rintro e w15 ⟨rfl, hb⟩; have n0_ := Aside0.mk (below_step (by repeat (first | (with_reducible first | exact HB.out | apply below_alloc | apply pw_below_drewN | apply below_drew1) | exact HB.out)) hb); clear HB; have HB := n0_; clear n0_; (try clear hb); (try clear hb2); (try clear hk); (try clear hi)))
                            go_ret
                            exact ⟨by first | rfl | (simp [errW_none, errW_some] <;> rfl) | (simp [*, errW_none, errW_some] <;> rfl), by repeat (first | (with_reducible first | exact HB.out | apply below_alloc | apply pw_below_drewN | apply below_drew1) | exact HB.out)⟩
                        · rw [if_neg c11] at H
                          have c11b0 : (((rd_L1 l0 x15_2).length : Int) == ((rd_L1 l0 0).length : Int)) = false := beq_eq_false_iff_ne.mpr c11
                          have c11b1 : (((rd_L1 l0 x15_2).length : Int) != ((rd_L1 l0 0).length : Int)) = true := bne_iff_ne.mpr c11
                          have c11b2 : ((rd_L1 l0 x15_2).length == (rd_L1 l0 0).length) = false := by first | simpa using c11 | (simp at c11 ⊢; omega)
                          obtain rfl := Option.some.inj H
                          have p140 : 0 ≤ (x15_2 : Int) := of_decide_eq_true (by first | (with_reducible assumption) | assumption)
                          have q140 : x15_2 < (l0.length : Int) := of_decide_eq_true (by first | (with_reducible assumption) | assumption)
                          obtain ⟨ad140, A140_0, c140_0, e140, hx140_0, hl140_0, hi140_0⟩ := at_L1 HR0.out x15_2 p140 q140
                          cases e140
                          replace hx140_0 := (HB.out.cell (World.block_lt_of_cell? w _ hx140_0)).trans hx140_0
                          have HR140_0 := Aside0.mk hi140_0
                          have HC140_0 := Aside0.mk hl140_0
                          clear hi140_0 hl140_0
                          replace p140 := eq_true p140
                          replace q140 := eq_true q140
                          have p141 : 0 ≤ (0 : Int) := (by omega)
                          have q141 : 0 < (l0.length : Int) := of_decide_eq_true (by first | (with_reducible assumption) | assumption)
                          obtain ⟨ad141, A141_0, c141_0, e141, hx141_0, hl141_0, hi141_0⟩ := at_L1 HR0.out 0 p141 q141
                          obtain rfl : ad140 = ad141 := (by injection e141)
                          have qi141 : (0 < l0.length) = True := eq_true (by omega)
                          (try rw [show ((0 : Int)).toNat = 0 from rfl] at hx141_0)
                          (try rw [Addr.add_zero'] at hx141_0)
                          replace hx141_0 := (HB.out.cell (World.block_lt_of_cell? w _ hx141_0)).trans hx141_0
                          have HR141_0 := Aside0.mk hi141_0
                          have HC141_0 := Aside0.mk hl141_0
                          clear hi141_0 hl141_0
                          replace p141 := eq_true p141
                          replace q141 := eq_true q141
                          go_wp2
                          go_ret
                          exact ⟨by first | rfl | (simp [errW_none, errW_some] <;> rfl) | (simp [*, errW_none, errW_some] <;> rfl), by repeat (first | (with_reducible first | exact HB.out | apply below_alloc | apply pw_below_drewN | apply below_drew1) | exact HB.out)⟩
                      · rw [if_neg c10] at H
                        exact absurd H (by simp)
                · rw [if_neg c7] at H
                  exact absurd H (by simp)
              · rw [if_neg c6] at H
                exact absurd H (by simp)
            · rw [if_neg c5] at H
              have c5b0 : decide (x15_2 < (l0.length : Int)) = false := decide_eq_false c5
              clear c5
              obtain rfl := Option.some.inj H
              go_wp2
              go_ret
              exact ⟨by first | rfl | (simp [errW_none, errW_some] <;> rfl) | (simp [*, errW_none, errW_some] <;> rfl), by repeat (first | (with_reducible first | exact HB.out | apply below_alloc | apply pw_below_drewN | apply below_drew1) | exact HB.out)⟩


/-! ### slices_Concat_int64_int64: function 37 -/
set_option maxHeartbeats 1000000 in
theorem Grow_nil_i64 (n : Int) (w : World) (h0 : 0 ≤ n) (h1 : n ≤ 17592186044416) :
    Calls Try.prog 48 #[.slice none 0 0, .int .i64 n] w fun e w' => ∃ v : Value, e = .returned v ∧ Kd.R (Kd.int .i64) 2 w' w.heap.size (fun _ => True) v [] ∧ Below w.heap.size w w' := by
  by_cases hn : n = 0
  · subst hn
    go_enter Try.func48, Try.ntmps48
    go_wp2
    go_ret
    exact ⟨_, rfl, Kd.R_nil _ _ _ _ _, Below.refl _ _⟩
  · have hpos : 0 < n := by omega
    clear hn
    go_enter Try.func48, Try.ntmps48
    go_wp2_with (at_builtin; refine Kd.R_append_zeros (Kd.int .i64) (w0 := w) w.heap.size rfl (.tmp 20) (.tmp 21) 24 3 2 (.int .i64 0) 8 rfl Try.underlying24 Try.underlying3 info2 rfl (by decide) (by omega) (.slice none 0 0) [] 0 n (fun _ => True) rfl rfl rfl (fun _ _ => trivial) (Kd.R_nil _ _ _ _ _) h0 (Below.refl _ _) (Nat.le_refl _) (by simp; omega) ?_)
    intro v1 w1 hR hB _ _
    obtain ⟨A, c, rfl⟩ := Kd.R_slice hR
    simp only [List.nil_append, List.length_replicate] at hR ⊢
    have hT := Aside0.mk (Kd.R_take hR (m := 0) (Nat.zero_le _))
    have hB1 := Aside0.mk hB
    clear hR hB
    go_wp2
    go_ret
    exact ⟨_, rfl, by simpa using hT.out, hB1.out⟩

def slices_Concat_int64_int64.f (l0 : List (List Int)) : Option (List Int) := if l0.flatten.length ≤ 17592186044415 then some l0.flatten else none
theorem flatten_take_succ (l : List (List Int)) (i : Nat) (h : i < l.length) : (l.take (i + 1)).flatten = (l.take i).flatten ++ l.getD i [] := by
  rw [List.take_succ_eq_append_getElem h, List.flatten_append, List.getD_eq_getElem?_getD, List.getElem?_eq_getElem h]
  simp
theorem flatten_take_le (l : List (List Int)) (i : Nat) : (l.take i).flatten.length ≤ l.flatten.length := by
  conv => rhs; rw [← List.take_append_drop i l, List.flatten_append, List.length_append]
  omega
set_option maxHeartbeats 2000000 in
theorem slices_Concat_int64_int64.calls (A0 : Option Addr) (c0 : Nat) (l0 : List (List Int)) (r : List Int) (w : World) (hr0 : Kd.C (Kd.slice 2 (Kd.int .i64)) w A0 l0.length l0) (hc0 : l0.length ≤ c0) (h : slices_Concat_int64_int64.f l0 = some r) :
    Calls Try.prog 37 #[.slice A0 l0.length c0] w fun e w' => ∃ v0_ : Value, e = .returned (v0_) ∧ Kd.R (Kd.int .i64) 2 w' w.heap.size (fun _ => True) v0_ r ∧ Below w.heap.size w w' := by
  unfold slices_Concat_int64_int64.f at h
  split at h
  · rename_i hlen
    obtain rfl := Option.some.inj h
    have hmax := Kd.C_max hr0
    have HR := Aside0.mk hr0
    clear h hr0 hc0
    have read : ∀ (W : World) (i : Nat), i < l0.length → Kd.C (Kd.slice 2 (Kd.int .i64)) W A0 l0.length l0 → ∃ ad A1 c1, A0 = some ad ∧ W.cell? (ad.add i) = some (.slice A1 (l0.getD i []).length c1) ∧ (l0.getD i []).length ≤ c1 ∧ Kd.C (Kd.int .i64) W A1 (l0.getD i []).length (l0.getD i []) := by
      intro W i hi hC
      obtain ⟨ad, cs, e, _, hK, hc⟩ := Kd.C_get hC ([] : List Int) (i : Int) (by omega) (by omega)
      rw [Int.toNat_natCast] at hK hc
      obtain ⟨A1, c1, rfl, hl, hC1⟩ := hK
      have hq := hc 0 _ rfl
      have hz : i * (Kd.slice 2 (Kd.int .i64)).sz + 0 = i := by show i * 1 + 0 = i; omega
      rw [hz] at hq
      exact ⟨ad, A1, c1, e, hq, hl, hC1⟩
    have RD := Aside0.mk read
    clear read
    go_enter Try.func37, Try.ntmps37
    go_wp2
    go_loop [3, 11] (fun s3 s11 => ∃ i : Nat, i ≤ l0.length ∧ s3 = .int .i64 (l0.take i).flatten.length ∧ s11 = .int .i64 i) (fun _ s11 => l0.length - (intOf s11).toNat)
    case atStart => exact ⟨0, Nat.zero_le _, rfl, rfl⟩
    case round =>
      obtain ⟨i, hi, rfl, rfl⟩ := hrel
      by_cases hlt : i < l0.length
      · obtain ⟨ad, A1, c1, e, hx, _, _⟩ := RD.out w i hlt HR.out
        subst e
        have hs := flatten_take_succ l0 i hlt
        have hb := flatten_take_le l0 (i + 1)
        have hs2 : (l0.take (i + 1)).flatten.length = (l0.take i).flatten.length + (l0.getD i []).length := by rw [hs, List.length_append]
        have hb2 : (l0.take i).flatten.length + (l0.getD i []).length ≤ 17592186044415 := by omega
        have HS := Aside0.mk hs2
        clear hs hs2 hb
        generalize l0.getD i [] = row at hx HS hb2
        generalize (l0.take i).flatten.length = s at HS hb2 ⊢
        have hlz : (i : Int) < (l0.length : Int) := by omega
        go_wp2
        go_round
        case rel => exact ⟨i + 1, by omega, by rw [HS.out]; go_num, by go_num⟩
        case measure => simp [intOf]; omega
      · have : i = l0.length := by omega
        subst this
        have hlz : ¬ (l0.length : Int) < (l0.length : Int) := by omega
        obtain ⟨tot, hft⟩ : ∃ tot : Nat, (l0.take l0.length).flatten.length = tot := ⟨_, rfl⟩
        have hft2 : l0.flatten.length = tot := by rw [List.take_length] at hft; exact hft
        rw [hft]
        have hb3 : (0 : Int) ≤ (tot : Int) ∧ (tot : Int) ≤ 17592186044416 := by omega
        clear hft hft2
        go_wp2_with (fail)
        ((with_reducible refine (Grow_nil_i64 _ w hb3.1 hb3.2).mono ?_))
        rintro e w1 ⟨v1, rfl, hR, hB⟩
        have HR1 := Aside0.mk hR
        have HB1 := Aside0.mk hB
        clear hR hB hb3 hlz
        go_wp2
        go_loopg [6, 27] l0.length (fun gg s6 s27 wr => ∃ i : Nat, i ≤ l0.length ∧ l0.length - i ≤ gg ∧ s27 = .int .i64 i ∧ Aside0 (Kd.R (Kd.int .i64) 2 wr w.heap.size (fun _ => True) s6 (l0.take i).flatten) ∧ Aside0 (Below w.heap.size w wr))
        case atStart => exact ⟨0, Nat.zero_le _, by omega, rfl, ⟨by simpa using HR1.out⟩, HB1⟩
        case round =>
          obtain ⟨i, hi, hg, rfl, HR2, HB2⟩ := hrel
          rename Value => s6
          by_cases hlt : i < l0.length
          · have hCw := Kd.C_below HR.out HB2.out
            obtain ⟨ad, A1, c1, e, hx, _, hC1⟩ := RD.out _ i hlt hCw
            subst e
            have hs := flatten_take_succ l0 i hlt
            have hb := flatten_take_le l0 (i + 1)
            have hb2 : (l0.take i).flatten.length + (l0.getD i []).length ≤ 17592186044415 := by rw [hs, List.length_append] at hb; omega
            have HS := Aside0.mk hs
            have HC1 := Aside0.mk hC1
            clear hs hb hC1 hCw
            generalize l0.getD i [] = row at hx HS hb2 HC1
            obtain ⟨A6, c6, e6⟩ := Kd.R_slice HR2.out
            have hlz : (i : Int) < (l0.length : Int) := by omega
            have HN := Aside0.mk hb2
            clear hb2 e6
            go_wp2_with (at_builtin; refine Kd.R_append_rows (Kd.int .i64) (w0 := w) w.heap.size rfl (.tmp 31) (.tmp 32) 24 2 (.int .i64 0) 8 rfl Try.underlying24 info2 rfl (by decide) (by omega) _ (l0.take i).flatten row _ _ _ (fun _ => True) (fun _ => False) rfl rfl ?aO ?aR (fun _ _ h => h) (fun _ h => h.elim) ?aF ?aB ?aS ?aL ?_)
            case aO => exact HR2.out
            case aR => exact HC1.out
            case aF => exact fun _ _ => trivial
            case aB => exact HB2.out
            case aS => exact HB2.out.size
            case aL => have := HN.out; omega
            intro v3 w3 hR3 hB3 _ _
            have HR3 := Aside0.mk hR3
            have HB3 := Aside0.mk hB3
            clear hR3 hB3
            go_wp2
            go_roundg (l0.length - (i + 1))
            case measure => omega
            case rel => exact ⟨i + 1, by omega, by omega, by go_num, ⟨by rw [HS.out]; exact HR3.out⟩, HB3⟩
          · have : i = l0.length := by omega
            subst this
            have hlz : ¬ (l0.length : Int) < (l0.length : Int) := by omega
            have hR4 := HR2.out
            rw [List.take_length] at hR4
            have HR4 := Aside0.mk hR4
            clear hR4
            clear HR2
            go_wp2
            go_ret
            exact ⟨_, rfl, HR4.out, HB2.out⟩
  · cases h

end Go.Proofs.Ytfnheijpgldlcaa.PFnExactImageRange
