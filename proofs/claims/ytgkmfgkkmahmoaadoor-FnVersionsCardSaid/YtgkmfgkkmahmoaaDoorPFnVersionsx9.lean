-- PRINTED by print.py (a twelfth state) out of the translation. Not trusted: Lean checks it.
import Derived.Test.YtgkmfgkkmahmoaaDoorPFnVersionsx0
import Derived.Test.YtgkmfgkkmahmoaaDoorPFnVersionsx4
import Derived.Test.YtgkmfgkkmahmoaaDoorPFnVersionsx5
import Derived.Test.YtgkmfgkkmahmoaaDoorPFnVersionsx6
import Derived.Test.YtgkmfgkkmahmoaaDoorPFnVersionsx8
namespace Go.Proofs.YtgkmfgkkmahmoaaDoor.PFnVersions
open Go.RowKit Go.Proofs.YtgkmfgkkmahmoaaDoorW.PrintWords Go.Proofs.YtgkmfgkkmahmoaaDoorW.PrintLast Go.Proofs.YtgkmfgkkmahmoaaDoorW.PrintMore
attribute [local go_sem] max2_int min2_int max_two min_two max_three min_three max_four min_four   -- for this text's walks alone
set_option linter.unusedVariables false
set_option linter.unusedSimpArgs false

/-! ### impl_withVersion: function 64 -/
def impl_withVersion.l0 : Nat → List (S48) → List (S48) → Int → Int → Option ((List (S48)) × Int)
 | 0, _, _, _, _ => none
 | k + 1, x10, x26, x27, x28 => if x28 < x27 then (if 0 ≤ x28 then (if x28 < (x26.length : Int) then ((impl_Setting.f ((rd_T48 x26 x28).f3)).bind fun t386 => (if x10.length < 2513169434916 then (impl_withVersion.l0 k (x10 ++ [(⟨(rd_T48 x26 x28).f0, (rd_T48 x26 x28).f1, (rd_T48 x26 x28).f2, t386⟩ : S48)]) x26 x27 (wrap64 (x28 + 1))) else (none))) else (none)) else (none)) else (some (x10, 0))
def impl_withVersion.f (k : Nat) (l0 : List (S48)) (a1 : Int) (a2 : ByteArray) (l3 : List (S96)) : Option ((List (S48)) × Int) := if (l0.length : Int) = 32 then (some (([] : List (S48)), 5)) else ((impl_Version.f l0).bind fun t378 => (if t378.length < 2513169434916 then ((some (t378 ++ [(⟨wrap64 ((l0.length : Int) + 1), a1, a2, l3⟩ : S48)] : List (S48))).bind fun y381 => (impl_withVersion.l0 k ([] : List (S48)) y381 (y381.length : Int) 0)) else (none)))
theorem impl_withVersion.mono_l : ∀ k, (∀ y0 y1 y2 y3, LeO (impl_withVersion.l0 k y0 y1 y2 y3) (impl_withVersion.l0 (k + 1) y0 y1 y2 y3))
 | 0 => fun _ _ _ _ r h => by simp [impl_withVersion.l0] at h
 | k + 1 => by
  have ih0 := impl_withVersion.mono_l k
  ·
   intro y0 y1 y2 y3
   unfold impl_withVersion.l0
   repeat' first
   | (with_reducible exact ih0 _ _ _ _)
   | (with_reducible exact LeO.refl _)
   | (with_reducible exact LeO.none _)
   | (with_reducible refine LeO.ite ?_ ?_)
   | (with_reducible refine LeO.bind ?_ (fun _ => ?_))
   | exact ih0 _ _ _ _
   | exact LeO.none _
   | refine LeO.ite ?_ ?_
   | refine LeO.bind ?_ (fun _ => ?_)
theorem impl_withVersion.mono : ∀ a0 a1 a2 a3 k, LeO (impl_withVersion.f k a0 a1 a2 a3) (impl_withVersion.f (k + 1) a0 a1 a2 a3) := by
 intro a0 a1 a2 a3 k
 have ih0 := impl_withVersion.mono_l k
 unfold impl_withVersion.f
 repeat' first
   | (with_reducible exact ih0 _ _ _ _)
   | (with_reducible exact LeO.refl _)
   | (with_reducible exact LeO.none _)
   | (with_reducible refine LeO.ite ?_ ?_)
   | (with_reducible refine LeO.bind ?_ (fun _ => ?_))
   | exact ih0 _ _ _ _
   | exact LeO.none _
   | refine LeO.ite ?_ ?_
   | refine LeO.bind ?_ (fun _ => ?_)
set_option maxHeartbeats 8000000 in
set_option maxRecDepth 100000 in
theorem impl_withVersion.calls (k : Nat) (A0 : Option Addr) (c0 : Nat) (l0 : List (S48)) (a1 : Int) (a2 : ByteArray) (A3 : Option Addr) (c3 : Nat) (l3 : List (S96)) (r1 : List (S48)) (r2 : Int) (w : World) (hr0 : Kd.C k48 w A0 l0.length l0) (hc0 : l0.length ≤ c0) (hr3 : Kd.C k96 w A3 l3.length l3) (hc3 : l3.length ≤ c3) (h : impl_withVersion.f k l0 a1 a2 l3 = some (r1, r2)) :
  Calls Tryd.prog 64 #[.slice A0 l0.length c0, .int .i64 a1, .string a2, .slice A3 l3.length c3] w fun e w' => ∃ v0_ : Value, e = .returned (.tuple #[v0_, .int .i64 r2]) ∧ Kd.S k48 48 w' w.heap.size (fun _ => True) v0_ r1 ∧ Below w.heap.size w w' := by
 have hu104 := Tryd.underlying48
 have hs0 : Kd.V k48 48 w w.heap.size (fun k_ => True) (.slice A0 l0.length c0) l0 := Kd.V_mk hc0 (Kd.F_mono (Kd.C_F k48_heap hr0) (fun _ _ => trivial))
 have hs3 : Kd.V k96 96 w w.heap.size (fun k_ => True) (.slice A3 l3.length c3) l3 := Kd.V_mk hc3 (Kd.F_mono (Kd.C_F k96_heap hr3) (fun _ _ => trivial))
 clear hr0 hc0 hr3 hc3
 have HO0 := Aside0.mk (show Kd.V k48 48 w w.heap.size (fun k_ => ((True ∨ True) ∨ w.heap.size ≤ k_)) (.slice A0 l0.length c0) l0 from Kd.V_mono hs0 (fun k_ hk => .inl (.inl hk)))
 have HO3 := Aside0.mk (show Kd.V k96 96 w w.heap.size (fun k_ => ((True ∨ True) ∨ w.heap.size ≤ k_)) (.slice A3 l3.length c3) l3 from Kd.V_mono hs3 (fun k_ hk => .inl (.inr hk)))
 have HB := Aside0.mk (Below.refl w.heap.size w)
 have H : (if (l0.length : Int) = 32 then (some (([] : List (S48)), 5)) else ((impl_Version.f l0).bind fun t378 => (if t378.length < 2513169434916 then ((some (t378 ++ [(⟨wrap64 ((l0.length : Int) + 1), a1, a2, l3⟩ : S48)] : List (S48))).bind fun y381 => (impl_withVersion.l0 k ([] : List (S48)) y381 (y381.length : Int) 0)) else (none)))) = some (r1, r2) := h
 clear h
 by_cases c5 : (l0.length : Int) = 32
 ·
  rw [if_pos c5] at H
  have c5b0 : ((l0.length : Int) == 32) = true := beq_iff_eq.mpr c5
  have c5b1 : ((l0.length : Int) != 32) = false := bne_eq_false_iff_eq.mpr c5
  clear c5
  simp only [Option.some.injEq, Prod.mk.injEq] at H
  obtain ⟨rfl, rfl⟩ := H
  go_enter Tryd.func64, Tryd.ntmps64
  go_wp2
  go_ret2
  exact ⟨_, er_, by first | exact Kd.S_nil _ _ _ _ _ | exact Kd.N_nil _ _ _ _ _ | exact Kd.V_nil _ _ _ _ _ | exact Kd.Q_nil _ _ _ _ _ | exact Kd.R_nil _ _ _ _ _, bB_⟩
 ·
  rw [if_neg c5] at H
  have c5b0 : ((l0.length : Int) == 32) = false := beq_eq_false_iff_ne.mpr c5
  have c5b1 : ((l0.length : Int) != 32) = true := bne_iff_ne.mpr c5
  replace H := Option.bind_eq_some_iff.mp H
  obtain ⟨t378, A60, H⟩ := H
  replace H : (if t378.length < 2513169434916 then ((some (t378 ++ [(⟨wrap64 ((l0.length : Int) + 1), a1, a2, l3⟩ : S48)] : List (S48))).bind fun y381 => (impl_withVersion.l0 k ([] : List (S48)) y381 (y381.length : Int) 0)) else (none)) = some (r1, r2) := H
  have A6 := Aside0.mk A60
  clear A60
  by_cases c7 : t378.length < 2513169434916
  ·
   rw [if_pos c7] at H
   have LMc7 := Aside0.mk c7
   clear c7
   obtain ⟨y381, hy381⟩ : ∃ y_ : List (S48), y_ = (t378 ++ [(⟨wrap64 ((l0.length : Int) + 1), a1, a2, l3⟩ : S48)]) := ⟨_, rfl⟩
   replace H : (impl_withVersion.l0 k ([] : List (S48)) y381 (y381.length : Int) 0) = some (r1, r2) := by first | (rw [hy381]; with_reducible exact H) | (have H2_ := (Option.bind_some _ _).symm.trans H; rw [hy381]; with_reducible exact H2_) | (have H2_ := (Option.bind_some _ _).symm.trans H; with_reducible exact H2_) | with_reducible exact H | (rw [hy381]; exact H) | exact H
   have Ny381 := Aside0.mk hy381
   clear hy381
   have H' := Aside0.mk H
   clear H
   go_enter Tryd.func64, Tryd.ntmps64
   go_wp2_with (first | ((with_reducible refine gate_callee (f := 117) rfl ?_); refine goesL_ (some 17) rfl rfl Tryd.func117 (by kernel_rfl) rfl #[.slice A0 l0.length c0] rfl mT_ ?_; (with_reducible refine (impl_Version.calls (fun k_ => ((True ∨ True) ∨ w.heap.size ≤ k_)) _ _ l0 t378 _ ?side1 A6.out).mono ?_); (case side1 => exact HO0.out); rintro e w8 ⟨v379, rfl, ho0, hb⟩; refine ⟨_, rfl, ?_⟩; have n0_ := Aside0.mk (Kd.V_elder' (vA_ HO0.out) (Kd.N_base ho0) hb); have n1_ := Aside0.mk (Kd.V_elder' (vA_ HO3.out) (Kd.N_base ho0) hb); have n2_ := Aside0.mk (Kd.N_lower (Kd.N_mono (ok' := fun k_ => ((True ∨ True) ∨ w.heap.size ≤ k_)) ho0 (fun k_ hk_ => Or.elim hk_ (fun hs_ => hs_) (fun hn_ => (.inr (Nat.le_trans (below_size bB_) hn_))))) (below_size bB_)); have n3_ := Aside0.mk (below_step bB_ hb); clear HO0; clear HO3; clear HB; have HO0 := n0_; have HO3 := n1_; have HO380 := n2_; have HB := n3_; clear n0_ n1_ n2_ n3_; (try clear hb); (try clear hb2); (try clear hk); (try clear hi); (try clear ho0)) | ((with_reducible refine gate_builtin (b := .append) (xs := #[.tmp 17, .tmp 25]) rfl ?_); at_builtin; refine Kd.N_append k48 (w0 := w) w.heap.size rfl (.tmp 17) (.tmp 25) 24 48 (.agg #[(.int .i64 0), (.int .i64 0), (.string ⟨#[]⟩), (.slice none 0 0)]) 56 rfl Tryd.underlying24 info48 rfl (by decide) (by omega) v379 t378 (⟨wrap64 ((l0.length : Int) + 1), a1, a2, l3⟩ : S48) [.int .i64 (wrap64 ((l0.length : Int) + 1)), .int .i64 a1, .string a2, .slice A3 l3.length c3] (fun k_ => ((True ∨ True) ∨ w.heap.size ≤ k_)) (fun k_ => ((fun k_ => ((True ∨ True) ∨ w.heap.size ≤ k_))) k_ ∧ some k_ ≠ (v379 : Value).ownBlock) rfl rfl ?aP (fun _ hk => hk) ?aF ?aO ?aB ?aS ?aL ?_; (case aP => exact (k48_mkF _ _ (⟨wrap64 ((l0.length : Int) + 1), a1, a2, l3⟩ : S48) (Kd.V_reads' (Kd.V_mono (ok' := (fun k_ => ((fun k_ => ((True ∨ True) ∨ w.heap.size ≤ k_))) k_ ∧ some k_ ≠ (v379 : Value).ownBlock)) (HO3.out) (fun k_ hk => ⟨hk.1, hk.2⟩))).2.1 (Kd.V_F (Kd.V_mono (ok' := (fun k_ => ((fun k_ => ((True ∨ True) ∨ w.heap.size ≤ k_))) k_ ∧ some k_ ≠ (v379 : Value).ownBlock)) (HO3.out) (fun k_ hk => ⟨hk.1, hk.2⟩))))); (case aB => exact bB_); (case aF => exact (fun k_ hk => (.inr (Nat.le_trans (below_size bB_) hk)))); (case aO => exact (nA_ HO380.out)); (case aS => exact (below_size bB_)); (case aL => have := LMc7.out; omega); intro v382 w9 ho hb hg hat; rw [← Ny381.out] at ho; have n0_ := Aside0.mk (Kd.V_afterv (ok := (fun k_ => ((True ∨ True) ∨ w.heap.size ≤ k_))) (vA_ HO0.out) hg hat); have n1_ := Aside0.mk (Kd.V_afterv (ok := (fun k_ => ((True ∨ True) ∨ w.heap.size ≤ k_))) (vA_ HO3.out) hg hat); have n2_ := Aside0.mk (hb); have n3_ := Aside0.mk (ho); clear HO0; clear HO3; clear HB; clear HO380; have HO0 := n0_; have HO3 := n1_; have HB := n2_; have HO383 := n3_; clear n0_ n1_ n2_ n3_; clear ho hb hg hat; obtain ⟨Ao10, co10, eo10⟩ := Kd.N_slice HO383.out; subst eo10))
   obtain ⟨Z, hZ⟩ : ∃ Z, Z = w9.heap.size := ⟨_, rfl⟩
   have n0_ : Aside0 (Kd.N k48 48 w9 w.heap.size (fun k_ => k_ < Z) (.slice Ao10 y381.length co10) y381) := ⟨Kd.N_mono (Kd.N_bound HO383.out) (fun k_ h_ => by rw [hZ]; exact h_.2)⟩
   have HZ : Aside0 (Z ≤ w9.heap.size) := ⟨by rw [hZ]; exact Nat.le_refl _⟩
   clear HO383 hZ HO0 HO3
   have HO383 := n0_
   clear n0_
   go_loopg [10, 28] k (fun kq v10 v28 w' => ∃ (x10_1 : List (S48)) (x28_1 : Int), v28 = .int .i64 x28_1 ∧ Aside0 (impl_withVersion.l0 kq x10_1 y381 (y381.length : Int) x28_1 = some (r1, r2)) ∧ Aside0 (kq ≤ k) ∧ Aside0 (Kd.S k48 48 w' w.heap.size (fun k_ => Z ≤ k_) v10 x10_1) ∧ Aside0 (Kd.N k48 48 w' w.heap.size (fun k_ => k_ < Z) (.slice Ao10 y381.length co10) y381) ∧ Aside0 (Z ≤ w'.heap.size) ∧ Aside0 (Below w.heap.size w w'))
   case atStart => exact ⟨(([] : List (S48))), (0), rs_, H', ⟨Nat.le_refl _⟩, ⟨Kd.S_nil _ _ _ _ _⟩, HO383, HZ, HB⟩
   case round =>
    clear H' HZ HB HO383
    try clear c5
    try clear c5b0
    try clear c5b1
    obtain ⟨x10_1, x28_1, rfl, HA, HK1, HO_10, HO_26, HZ, HB⟩ := hrel
    cases gk with
    | zero => exact absurd HA.out (by simp [impl_withVersion.l0])
    | succ k1 =>
     have H := HA.out
     clear HA
     simp only [impl_withVersion.l0] at H
     by_cases c11 : x28_1 < (y381.length : Int)
     ·
      rw [if_pos c11] at H
      have c11b0 : decide (x28_1 < (y381.length : Int)) = true := decide_eq_true c11
      clear c11
      by_cases c12 : 0 ≤ x28_1
      ·
       rw [if_pos c12] at H
       have c12b0 : decide (0 ≤ x28_1) = true := decide_eq_true c12
       clear c12
       by_cases c13 : x28_1 < (y381.length : Int)
       ·
        rw [if_pos c13] at H
        have c13b0 : decide (x28_1 < (y381.length : Int)) = true := decide_eq_true c13
        clear c13
        replace H := Option.bind_eq_some_iff.mp H
        obtain ⟨t386, A140, H⟩ := H
        replace H : (if x10_1.length < 2513169434916 then (impl_withVersion.l0 k1 (x10_1 ++ [(⟨(rd_T48 y381 x28_1).f0, (rd_T48 y381 x28_1).f1, (rd_T48 y381 x28_1).f2, t386⟩ : S48)]) y381 (y381.length : Int) (wrap64 (x28_1 + 1))) else (none)) = some (r1, r2) := H
        have A14 := Aside0.mk A140
        clear A140
        by_cases c15 : x10_1.length < 2513169434916
        ·
         rw [if_pos c15] at H
         have LMc15 := Aside0.mk c15
         clear c15
         obtain ⟨y389, hy389⟩ : ∃ y_ : List (S48), y_ = (x10_1 ++ [(⟨(rd_T48 y381 x28_1).f0, (rd_T48 y381 x28_1).f1, (rd_T48 y381 x28_1).f2, t386⟩ : S48)]) := ⟨_, rfl⟩
         replace H : (impl_withVersion.l0 k1 y389 y381 (y381.length : Int) (wrap64 (x28_1 + 1))) = some (r1, r2) := by first | (rw [hy389]; with_reducible exact H) | (have H2_ := (Option.bind_some _ _).symm.trans H; rw [hy389]; with_reducible exact H2_) | (have H2_ := (Option.bind_some _ _).symm.trans H; with_reducible exact H2_) | with_reducible exact H | (rw [hy389]; exact H) | exact H
         have Ny389 := Aside0.mk hy389
         clear hy389
         have H' := Aside0.mk H
         clear H
         have p384 : 0 ≤ (x28_1 : Int) := of_decide_eq_true as_
         have q384 : x28_1 < (y381.length : Int) := of_decide_eq_true as_
         obtain ⟨ad384, A384_3, c384_3, e384, hx384_0, hx384_1, hx384_2, hx384_3, hl384_3, hi384_3⟩ := at_T48 (Kd.N_reads' HO_26.out).2.2 x28_1 p384 q384
         cases e384
         have HR384_3 := Aside0.mk hi384_3
         have HC384_3 := Aside0.mk hl384_3
         clear hi384_3 hl384_3
         replace p384 := eq_true p384
         replace q384 := eq_true q384
         have n0_ := Aside0.mk (Kd.S_mono (ok' := fun k_ => Z ≤ k_ ∧ k_ < wr.heap.size) (Kd.S_bound HO_10.out) (fun k_ h_ => ⟨h_.1, h_.2.2.1⟩))
         clear HO_10
         have HO_10 := n0_
         clear n0_
         go_wp2_with (first | ((with_reducible refine gate_dst (N := 12) rfl ?_); refine box_event ?hg (N := 12) ?hd (cs := #[.int .i64 0, .int .i64 0, .string (⟨#[]⟩ : ByteArray), .slice none 0 0]) (t := 48) ?hr ?_; (case hd => rfl); (case hg => rfl); (case hr => first | (go_simp; done) | (go_simp; rfl)); intro gb385 hg w16 hbox hb; have BK385 := Aside0.mk hbox; have HBR := Aside0.mk hb; have GE385 := Aside0.mk (Nat.le_of_eq hg.symm); clear hb hbox hg; have hcz17_0 : w16.cell? ⟨gb385, 0, none⟩ = some (.int .i64 0) := (blk_cell BK385.out 0).trans rfl; have hcz17_1 : w16.cell? ⟨gb385, 1, none⟩ = some (.int .i64 0) := (blk_cell BK385.out 1).trans rfl; have hcz17_2 : w16.cell? ⟨gb385, 2, none⟩ = some (.string (⟨#[]⟩ : ByteArray)) := (blk_cell BK385.out 2).trans rfl; have hcz17_3 : w16.cell? ⟨gb385, 3, none⟩ = some (.slice none 0 0) := (blk_cell BK385.out 3).trans rfl; have hfz17_0 := blk_frozen BK385.out 0; have hfz17_1 := blk_frozen BK385.out 1; have hfz17_2 := blk_frozen BK385.out 2; have hfz17_3 := blk_frozen BK385.out 3) | ((with_reducible refine gate_callee (f := 55) rfl ?_); refine goesL_ (some 34) rfl rfl Tryd.func55 (by kernel_rfl) rfl #[.slice A384_3 ((rd_T48 y381 x28_1).f3).length c384_3] rfl mT_ ?_; (with_reducible refine (impl_Setting.calls _ _ ((rd_T48 y381 x28_1).f3) t386 _ ?side1 ?side2 A14.out).mono ?_); (case side1 => exact Kd.C_below HR384_3.out (by repeat (first | exact HBR.out | refine below_set ?_ GE385.out))); (case side2 => exact HC384_3.out); rintro e w18 ⟨v387, rfl, ho0, hb⟩; refine ⟨_, rfl, ?_⟩; have n0_ := Aside0.mk (below_step (by repeat (first | exact HBR.out | refine below_set ?_ GE385.out)) hb); have n1_ := Aside0.mk (blk_below (g := gb385) (o := .cells #[.int .i64 ((rd_T48 y381 x28_1).f0), .int .i64 ((rd_T48 y381 x28_1).f1), .string ((rd_T48 y381 x28_1).f2), .slice A384_3 ((rd_T48 y381 x28_1).f3).length c384_3] 48 (0, 0)) (by refine blk_put (cs := #[.int .i64 ((rd_T48 y381 x28_1).f0), .int .i64 ((rd_T48 y381 x28_1).f1), .string ((rd_T48 y381 x28_1).f2), .slice none 0 0]) ?_ 3 _ rfl; refine blk_put (cs := #[.int .i64 ((rd_T48 y381 x28_1).f0), .int .i64 ((rd_T48 y381 x28_1).f1), .string (⟨#[]⟩ : ByteArray), .slice none 0 0]) ?_ 2 _ rfl; refine blk_put (cs := #[.int .i64 ((rd_T48 y381 x28_1).f0), .int .i64 0, .string (⟨#[]⟩ : ByteArray), .slice none 0 0]) ?_ 1 _ rfl; refine blk_put (cs := #[.int .i64 0, .int .i64 0, .string (⟨#[]⟩ : ByteArray), .slice none 0 0]) ?_ 0 _ rfl; exact BK385.out) hb); have n2_ := Aside0.mk (Kd.R_lower (Kd.R_tight rfl ho0) (Nat.le_trans HB.out.size (below_size (by repeat (first | exact HBR.out | refine below_set ?_ GE385.out))))); have n3_ := Aside0.mk (fun k_ (h_ : v387.ownBlock = some k_) => (⟨Nat.le_trans (below_size (by repeat (first | exact HBR.out | refine below_set ?_ GE385.out))) (Kd.R_base ho0 k_ h_), Kd.freshB (g := gb385) (o := .cells #[.int .i64 ((rd_T48 y381 x28_1).f0), .int .i64 ((rd_T48 y381 x28_1).f1), .string ((rd_T48 y381 x28_1).f2), .slice A384_3 ((rd_T48 y381 x28_1).f3).length c384_3] 48 (0, 0)) (by refine blk_put (cs := #[.int .i64 ((rd_T48 y381 x28_1).f0), .int .i64 ((rd_T48 y381 x28_1).f1), .string ((rd_T48 y381 x28_1).f2), .slice none 0 0]) ?_ 3 _ rfl; refine blk_put (cs := #[.int .i64 ((rd_T48 y381 x28_1).f0), .int .i64 ((rd_T48 y381 x28_1).f1), .string (⟨#[]⟩ : ByteArray), .slice none 0 0]) ?_ 2 _ rfl; refine blk_put (cs := #[.int .i64 ((rd_T48 y381 x28_1).f0), .int .i64 0, .string (⟨#[]⟩ : ByteArray), .slice none 0 0]) ?_ 1 _ rfl; refine blk_put (cs := #[.int .i64 0, .int .i64 0, .string (⟨#[]⟩ : ByteArray), .slice none 0 0]) ?_ 0 _ rfl; exact BK385.out) k_ (Kd.R_base ho0 k_ h_)⟩ : _ ∧ k_ ≠ gb385)); clear HBR BK385 hb ho0; have HBR := n0_; have BK385 := n1_; have HO388 := n2_; have NB := n3_; clear n0_ n1_ n2_ n3_; obtain ⟨Ao19, co19, eo19⟩ := Kd.R_slice HO388.out; subst eo19; have hcz20_0 : w18.cell? ⟨gb385, 0, none⟩ = some (.int .i64 ((rd_T48 y381 x28_1).f0)) := (blk_cell BK385.out 0).trans rfl; have hcz20_1 : w18.cell? ⟨gb385, 1, none⟩ = some (.int .i64 ((rd_T48 y381 x28_1).f1)) := (blk_cell BK385.out 1).trans rfl; have hcz20_2 : w18.cell? ⟨gb385, 2, none⟩ = some (.string ((rd_T48 y381 x28_1).f2)) := (blk_cell BK385.out 2).trans rfl; have hcz20_3 : w18.cell? ⟨gb385, 3, none⟩ = some (.slice A384_3 ((rd_T48 y381 x28_1).f3).length c384_3) := (blk_cell BK385.out 3).trans rfl; have hfz20_0 := blk_frozen BK385.out 0; have hfz20_1 := blk_frozen BK385.out 1; have hfz20_2 := blk_frozen BK385.out 2; have hfz20_3 := blk_frozen BK385.out 3) | ((with_reducible refine gate_store (t := 26) (p := 35) rfl ?_); refine store_event (t := 26) (p := 35) (v := ?vo_w21) (w1 := (w18.setCell ⟨gb385, 3, none⟩ (.slice Ao19 t386.length co19))) ?hg ?ho ?hn ?hr ?_; (case ho => rfl); (case hg => rfl); (case hn => rfl); (case hr => first | (go_simp; done) | (go_simp; rfl)); intro w21 hw; have n0_ : Aside0 (Kd.R k96 96 w21 w.heap.size (fun k_ => some k_ = (.slice Ao19 t386.length co19 : Value).ownBlock) (.slice Ao19 t386.length co19) t386) := ⟨(by rw [hw]; exact Kd.R_far (p := ⟨gb385, 3, none⟩) HO388.out (fun k_ h_ => (NB.out k_ h_.symm).2) (.slice Ao19 t386.length co19))⟩; have n1_ : Aside0 (w21.heap[gb385]? = some (.cells #[.int .i64 ((rd_T48 y381 x28_1).f0), .int .i64 ((rd_T48 y381 x28_1).f1), .string ((rd_T48 y381 x28_1).f2), .slice Ao19 t386.length co19] 48 (0, 0))) := ⟨(by rw [hw]; refine blk_put (cs := #[.int .i64 ((rd_T48 y381 x28_1).f0), .int .i64 ((rd_T48 y381 x28_1).f1), .string ((rd_T48 y381 x28_1).f2), .slice A384_3 ((rd_T48 y381 x28_1).f3).length c384_3]) ?_ 3 _ rfl; exact BK385.out)⟩; have n2_ : Aside0 (Below wr.heap.size wr w21) := ⟨(by rw [hw]; exact below_set HBR.out GE385.out)⟩; clear hw; clear HO388 BK385 HBR; have HO388 := n0_; have BK385 := n1_; have HBR := n2_; clear n0_ n1_ n2_; have hcz22_0 : w21.cell? ⟨gb385, 0, none⟩ = some (.int .i64 ((rd_T48 y381 x28_1).f0)) := (blk_cell BK385.out 0).trans rfl; have hcz22_1 : w21.cell? ⟨gb385, 1, none⟩ = some (.int .i64 ((rd_T48 y381 x28_1).f1)) := (blk_cell BK385.out 1).trans rfl; have hcz22_2 : w21.cell? ⟨gb385, 2, none⟩ = some (.string ((rd_T48 y381 x28_1).f2)) := (blk_cell BK385.out 2).trans rfl; have hcz22_3 : w21.cell? ⟨gb385, 3, none⟩ = some (.slice Ao19 t386.length co19) := (blk_cell BK385.out 3).trans rfl; have hfz22_0 := blk_frozen BK385.out 0; have hfz22_1 := blk_frozen BK385.out 1; have hfz22_2 := blk_frozen BK385.out 2; have hfz22_3 := blk_frozen BK385.out 3) | ((with_reducible refine gate_builtin (b := .append) (xs := #[.tmp 36, .tmp 38]) rfl ?_); at_builtin; refine Kd.S_append k48 (w0 := w) w.heap.size rfl (.tmp 36) (.tmp 38) 24 48 (.agg #[(.int .i64 0), (.int .i64 0), (.string ⟨#[]⟩), (.slice none 0 0)]) 56 rfl Tryd.underlying24 info48 rfl (by decide) (by omega) u10 x10_1 (⟨(rd_T48 y381 x28_1).f0, (rd_T48 y381 x28_1).f1, (rd_T48 y381 x28_1).f2, t386⟩ : S48) [.int .i64 ((rd_T48 y381 x28_1).f0), .int .i64 ((rd_T48 y381 x28_1).f1), .string ((rd_T48 y381 x28_1).f2), .slice Ao19 t386.length co19] (fun k_ => Z ≤ k_) (fun k_ => some k_ = (.slice Ao19 t386.length co19 : Value).ownBlock) rfl rfl (k48_mkM _ _ _ (⟨(rd_T48 y381 x28_1).f0, (rd_T48 y381 x28_1).f1, (rd_T48 y381 x28_1).f2, t386⟩ : S48) HO388.out) ?aP ?aF ?aO ?aB ?aS ?aL ?_; (case aP => exact (fun k_ hk => ⟨Nat.le_trans HZ.out (NB.out k_ hk.symm).1, fun e_ => Nat.lt_irrefl _ (Nat.lt_of_lt_of_le (Kd.S_lt HO_10.out k_ e_.symm) (NB.out k_ hk.symm).1)⟩)); (case aF => exact (fun k_ hk => Nat.le_trans HZ.out (Nat.le_trans (below_size HBR.out) hk))); (case aO => exact Kd.S_mono (Kd.S_below HO_10.out HBR.out) (fun k_ h_ => ⟨h_.1, fun e_ => Nat.lt_irrefl _ (Nat.lt_of_lt_of_le h_.2 (NB.out k_ e_.symm).1)⟩)); (case aB => exact below_step HB.out HBR.out); (case aS => exact Nat.le_trans HB.out.size (below_size HBR.out)); (case aL => have h_ := LMc15.out; omega); intro v390 w23 ho hb hg hat; rw [← Ny389.out] at ho; have n0_ := Aside0.mk (Kd.N_grown (Kd.N_below HO_26.out HBR.out) hg (fun k_ hk e_ => by have h_ := ((Kd.S_R HO_10.out).1 k_ e_.symm).1; omega)); have n1_ := Aside0.mk ho; have n2_ := Aside0.mk hb; have n3_ := Aside0.mk (Nat.le_trans HZ.out (Nat.le_trans (below_size HBR.out) hg.size)); clear HO_10 HO_26 HB HBR HZ HO388 BK385 ho hb hg hat; have HO_10 := n1_; have HO_26 := n0_; have HB := n2_; have HZ := n3_; clear n0_ n1_ n2_ n3_))
         go_roundg k1
         case measure => have := HK1.out; omega
         case rel => exact ⟨(y389), (wrap64 (x28_1 + 1)), rs_, H', ⟨by have := HK1.out; omega⟩, HO_10, HO_26, HZ, HB⟩
        ·
         rw [if_neg c15] at H
         exact absurd H (by simp)
       ·
        rw [if_neg c13] at H
        exact absurd H (by simp)
      ·
       rw [if_neg c12] at H
       exact absurd H (by simp)
     ·
      rw [if_neg c11] at H
      have c11b0 : decide (x28_1 < (y381.length : Int)) = false := decide_eq_false c11
      clear c11
      simp only [Option.some.injEq, Prod.mk.injEq] at H
      obtain ⟨rfl, rfl⟩ := H
      go_wp2
      go_ret2
      exact ⟨_, er_, Kd.S_mono HO_10.out (fun _ _ => trivial), bB_⟩
  ·
   rw [if_neg c7] at H
   exact absurd H (by simp)


/-! ### impl_CommitState: function 15 -/
def impl_CommitState.j0 : Nat → List (S48) → Int → ByteArray → List (S96) → Bool → Option ((List (S48)) × Int)
 | 0, _, _, _, _, _ => none
 | k + 1, x0, x1, x2, x3, x10 => if x10 = true then (some (([] : List (S48)), 1)) else ((impl_within.f x1 0 (x0.length : Int)).bind fun t311 => (if t311 = true then ((impl_withVersion.f k x0 x1 x2 x3).bind fun bt312 => (some (bt312.1, bt312.2))) else (some (([] : List (S48)), 3))))
def impl_CommitState.f (k : Nat) (l0 : List (S48)) (a1 : Int) (a2 : ByteArray) (l3 : List (S96)) : Option ((List (S48)) × Int) := (impl_ValidHistory.f k l0).bind fun t308 => (if t308 = true then ((impl_memoValid.f k a2).bind fun t309 => (if t309 = true then ((impl_ValidState.f k l3).bind fun t310 => (impl_CommitState.j0 k l0 a1 a2 l3 (!t310))) else (impl_CommitState.j0 k l0 a1 a2 l3 true))) else (impl_CommitState.j0 k l0 a1 a2 l3 true))
theorem impl_CommitState.mono_l : ∀ k, (∀ y0 y1 y2 y3 y4, LeO (impl_CommitState.j0 k y0 y1 y2 y3 y4) (impl_CommitState.j0 (k + 1) y0 y1 y2 y3 y4))
 | 0 => fun _ _ _ _ _ r h => by simp [impl_CommitState.j0] at h
 | k + 1 => by
  have ih0 := impl_CommitState.mono_l k
  ·
   intro y0 y1 y2 y3 y4
   unfold impl_CommitState.j0
   repeat' first
   | (with_reducible exact ih0 _ _ _ _ _)
   | (with_reducible exact impl_ValidHistory.mono _ _)
   | (with_reducible exact impl_ValidState.mono _ _)
   | (with_reducible exact impl_memoValid.mono _ _)
   | (with_reducible exact impl_withVersion.mono _ _ _ _ _)
   | (with_reducible exact LeO.refl _)
   | (with_reducible exact LeO.none _)
   | (with_reducible refine LeO.ite ?_ ?_)
   | (with_reducible refine LeO.bind ?_ (fun _ => ?_))
   | exact ih0 _ _ _ _ _
   | exact impl_ValidHistory.mono _ _
   | exact impl_ValidState.mono _ _
   | exact impl_memoValid.mono _ _
   | exact impl_withVersion.mono _ _ _ _ _
   | exact LeO.none _
   | refine LeO.ite ?_ ?_
   | refine LeO.bind ?_ (fun _ => ?_)
theorem impl_CommitState.mono : ∀ a0 a1 a2 a3 k, LeO (impl_CommitState.f k a0 a1 a2 a3) (impl_CommitState.f (k + 1) a0 a1 a2 a3) := by
 intro a0 a1 a2 a3 k
 have ih0 := impl_CommitState.mono_l k
 unfold impl_CommitState.f
 repeat' first
   | (with_reducible exact ih0 _ _ _ _ _)
   | (with_reducible exact impl_ValidHistory.mono _ _)
   | (with_reducible exact impl_ValidState.mono _ _)
   | (with_reducible exact impl_memoValid.mono _ _)
   | (with_reducible exact impl_withVersion.mono _ _ _ _ _)
   | (with_reducible exact LeO.refl _)
   | (with_reducible exact LeO.none _)
   | (with_reducible refine LeO.ite ?_ ?_)
   | (with_reducible refine LeO.bind ?_ (fun _ => ?_))
   | exact ih0 _ _ _ _ _
   | exact impl_ValidHistory.mono _ _
   | exact impl_ValidState.mono _ _
   | exact impl_memoValid.mono _ _
   | exact impl_withVersion.mono _ _ _ _ _
   | exact LeO.none _
   | refine LeO.ite ?_ ?_
   | refine LeO.bind ?_ (fun _ => ?_)
set_option maxHeartbeats 8000000 in
set_option maxRecDepth 100000 in
theorem impl_CommitState.calls (k : Nat) (A0 : Option Addr) (c0 : Nat) (l0 : List (S48)) (a1 : Int) (a2 : ByteArray) (A3 : Option Addr) (c3 : Nat) (l3 : List (S96)) (r1 : List (S48)) (r2 : Int) (w : World) (hr0 : Kd.C k48 w A0 l0.length l0) (hc0 : l0.length ≤ c0) (hr3 : Kd.C k96 w A3 l3.length l3) (hc3 : l3.length ≤ c3) (h : impl_CommitState.f k l0 a1 a2 l3 = some (r1, r2)) :
  Calls Tryd.prog 15 #[.slice A0 l0.length c0, .int .i64 a1, .string a2, .slice A3 l3.length c3] w fun e w' => ∃ v0_ : Value, e = .returned (.tuple #[v0_, .int .i64 r2]) ∧ Kd.S k48 48 w' w.heap.size (fun _ => True) v0_ r1 ∧ Below w.heap.size w w' := by
 have HR0 := Aside0.mk hr0
 have HC0 := Aside0.mk hc0
 clear hr0 hc0
 have HR3 := Aside0.mk hr3
 have HC3 := Aside0.mk hc3
 clear hr3 hc3
 have HB := Aside0.mk (Below.refl w.heap.size w)
 have H : ((impl_ValidHistory.f k l0).bind fun t308 => (if t308 = true then ((impl_memoValid.f k a2).bind fun t309 => (if t309 = true then ((impl_ValidState.f k l3).bind fun t310 => (impl_CommitState.j0 k l0 a1 a2 l3 (!t310))) else (impl_CommitState.j0 k l0 a1 a2 l3 true))) else (impl_CommitState.j0 k l0 a1 a2 l3 true))) = some (r1, r2) := h
 clear h
 have HC5 := Aside0.mk H
 clear H
 go_enter Tryd.func15, Tryd.ntmps15
 go_upto_region 1 with (fail)
 go_cut [10] (fun v10 wc => ∃ (kq : Nat) (x10_4 : Bool), v10 = .bool x10_4 ∧ Aside0 (impl_CommitState.j0 kq l0 a1 a2 l3 x10_4 = some (r1, r2)) ∧ Aside0 (kq ≤ k) ∧ Aside0 (Below w.heap.size w wc))
 case first =>
  have H := HC5.out
  clear HC5
  replace H := Option.bind_eq_some_iff.mp H
  obtain ⟨t308, A60, H⟩ := H
  replace H : (if t308 = true then ((impl_memoValid.f k a2).bind fun t309 => (if t309 = true then ((impl_ValidState.f k l3).bind fun t310 => (impl_CommitState.j0 k l0 a1 a2 l3 (!t310))) else (impl_CommitState.j0 k l0 a1 a2 l3 true))) else (impl_CommitState.j0 k l0 a1 a2 l3 true)) = some (r1, r2) := H
  have A6 := Aside0.mk A60
  clear A60
  by_cases c7 : t308 = true
  ·
   subst c7
   have H1 : ((impl_memoValid.f k a2).bind fun t309 => (if t309 = true then ((impl_ValidState.f k l3).bind fun t310 => (impl_CommitState.j0 k l0 a1 a2 l3 (!t310))) else (impl_CommitState.j0 k l0 a1 a2 l3 true))) = some (r1, r2) := by rw [if_pos rfl] at H; exact H
   clear H
   have H := H1
   clear H1
   replace H := Option.bind_eq_some_iff.mp H
   obtain ⟨t309, A80, H⟩ := H
   replace H : (if t309 = true then ((impl_ValidState.f k l3).bind fun t310 => (impl_CommitState.j0 k l0 a1 a2 l3 (!t310))) else (impl_CommitState.j0 k l0 a1 a2 l3 true)) = some (r1, r2) := H
   have A8 := Aside0.mk A80
   clear A80
   by_cases c9 : t309 = true
   ·
    subst c9
    have H1 : ((impl_ValidState.f k l3).bind fun t310 => (impl_CommitState.j0 k l0 a1 a2 l3 (!t310))) = some (r1, r2) := by rw [if_pos rfl] at H; exact H
    clear H
    have H := H1
    clear H1
    replace H := Option.bind_eq_some_iff.mp H
    obtain ⟨t310, A100, H⟩ := H
    replace H : (impl_CommitState.j0 k l0 a1 a2 l3 (!t310)) = some (r1, r2) := H
    have A10 := Aside0.mk A100
    clear A100
    have H' := Aside0.mk H
    clear H
    go_wp2_with (first | ((with_reducible refine gate_callee (f := 61) rfl ?_); refine goesL_ (some 12) rfl rfl Tryd.func61 (by kernel_rfl) rfl #[.slice A0 l0.length c0] rfl mT_ ?_; (with_reducible refine (impl_ValidHistory.calls k _ _ l0 true _ ?side1 ?side2 A6.out).mono ?_); (case side1 => exact cA_ (Kd.C_below HR0.out HB.out)); (case side2 => exact HC0.out); rintro e w11 ⟨rfl, hb⟩; refine ⟨_, rfl, ?_⟩; have n0_ := Aside0.mk (below_step bB_ hb); clear HB; have HB := n0_; clear n0_; (try clear hb); (try clear hb2); (try clear hk); (try clear hi)) | (go_at_call 62; (with_reducible refine (impl_memoValid.calls k a2 true _ A8.out).mono ?_); rintro e w' ⟨rfl, ⟨nd, rfl⟩⟩) | (go_at_call 50; (with_reducible refine (impl_ValidState.calls k _ _ l3 t310 _ ?side1 ?side2 A10.out).mono ?_); (case side1 => exact cA_ (Kd.C_below HR3.out bB_)); (case side2 => exact HC3.out); rintro e w12 ⟨rfl, hb⟩; have n0_ := Aside0.mk (below_step bB_ hb); clear HB; have HB := n0_; clear n0_; (try clear hb); (try clear hb2); (try clear hk); (try clear hi)))
    go_meet
    case rel => exact ⟨_, (!t310), rs_, H', ⟨by first | omega | exact Nat.le_refl _⟩, ⟨bB_⟩⟩
   ·
    replace c9 := Bool.eq_false_iff.mpr c9
    subst c9
    have H1 : (impl_CommitState.j0 k l0 a1 a2 l3 true) = some (r1, r2) := by rw [if_neg (show ¬ (false = true) by decide)] at H; exact H
    clear H
    have H := H1
    clear H1
    have H' := Aside0.mk H
    clear H
    go_wp2_with (first | ((with_reducible refine gate_callee (f := 61) rfl ?_); refine goesL_ (some 12) rfl rfl Tryd.func61 (by kernel_rfl) rfl #[.slice A0 l0.length c0] rfl mT_ ?_; (with_reducible refine (impl_ValidHistory.calls k _ _ l0 true _ ?side1 ?side2 A6.out).mono ?_); (case side1 => exact cA_ (Kd.C_below HR0.out HB.out)); (case side2 => exact HC0.out); rintro e w13 ⟨rfl, hb⟩; refine ⟨_, rfl, ?_⟩; have n0_ := Aside0.mk (below_step bB_ hb); clear HB; have HB := n0_; clear n0_; (try clear hb); (try clear hb2); (try clear hk); (try clear hi)) | (go_at_call 62; (with_reducible refine (impl_memoValid.calls k a2 false _ A8.out).mono ?_); rintro e w' ⟨rfl, ⟨nd, rfl⟩⟩))
    go_meet
    case rel => exact ⟨_, (true), rs_, H', ⟨by first | omega | exact Nat.le_refl _⟩, ⟨bB_⟩⟩
  ·
   replace c7 := Bool.eq_false_iff.mpr c7
   subst c7
   have H1 : (impl_CommitState.j0 k l0 a1 a2 l3 true) = some (r1, r2) := by rw [if_neg (show ¬ (false = true) by decide)] at H; exact H
   clear H
   have H := H1
   clear H1
   have H' := Aside0.mk H
   clear H
   go_wp2_with (first | ((with_reducible refine gate_callee (f := 61) rfl ?_); refine goesL_ (some 12) rfl rfl Tryd.func61 (by kernel_rfl) rfl #[.slice A0 l0.length c0] rfl mT_ ?_; (with_reducible refine (impl_ValidHistory.calls k _ _ l0 false _ ?side1 ?side2 A6.out).mono ?_); (case side1 => exact cA_ (Kd.C_below HR0.out HB.out)); (case side2 => exact HC0.out); rintro e w14 ⟨rfl, hb⟩; refine ⟨_, rfl, ?_⟩; have n0_ := Aside0.mk (below_step bB_ hb); clear HB; have HB := n0_; clear n0_; (try clear hb); (try clear hb2); (try clear hk); (try clear hi)))
   go_meet
   case rel => exact ⟨_, (true), rs_, H', ⟨by first | omega | exact Nat.le_refl _⟩, ⟨bB_⟩⟩
 case rest =>
  clear HC5
  try clear c1
  try clear p2
  try clear c3
  try clear c6
  try clear c7
  try clear c9
  obtain ⟨kq, x10_4, rfl, HA, HJ4, HB⟩ := hcut
  cases kq with
  | zero => exact absurd HA.out (by simp [impl_CommitState.j0])
  | succ kj4 =>
   have H := HA.out
   clear HA
   simp only [impl_CommitState.j0] at H
   by_cases c15 : x10_4 = true
   ·
    subst c15
    have H1 : (some (([] : List (S48)), 1)) = some (r1, r2) := by rw [if_pos rfl] at H; exact H
    clear H
    have H := H1
    clear H1
    simp only [Option.some.injEq, Prod.mk.injEq] at H
    obtain ⟨rfl, rfl⟩ := H
    go_wp2
    go_ret2
    exact ⟨_, er_, by first | exact Kd.S_nil _ _ _ _ _ | exact Kd.N_nil _ _ _ _ _ | exact Kd.V_nil _ _ _ _ _ | exact Kd.Q_nil _ _ _ _ _ | exact Kd.R_nil _ _ _ _ _, bB_⟩
   ·
    replace c15 := Bool.eq_false_iff.mpr c15
    subst c15
    have H1 : ((impl_within.f a1 0 (l0.length : Int)).bind fun t311 => (if t311 = true then ((impl_withVersion.f kj4 l0 a1 a2 l3).bind fun bt312 => (some (bt312.1, bt312.2))) else (some (([] : List (S48)), 3)))) = some (r1, r2) := by rw [if_neg (show ¬ (false = true) by decide)] at H; exact H
    clear H
    have H := H1
    clear H1
    replace H := Option.bind_eq_some_iff.mp H
    obtain ⟨t311, A160, H⟩ := H
    replace H : (if t311 = true then ((impl_withVersion.f kj4 l0 a1 a2 l3).bind fun bt312 => (some (bt312.1, bt312.2))) else (some (([] : List (S48)), 3))) = some (r1, r2) := H
    have A16 := Aside0.mk A160
    clear A160
    by_cases c17 : t311 = true
    ·
     subst c17
     have H1 : ((impl_withVersion.f kj4 l0 a1 a2 l3).bind fun bt312 => (some (bt312.1, bt312.2))) = some (r1, r2) := by rw [if_pos rfl] at H; exact H
     clear H
     have H := H1
     clear H1
     replace H := Option.bind_eq_some_iff.mp H
     obtain ⟨⟨t312, t313⟩, A180, H⟩ := H
     replace H : (some (t312, t313)) = some (r1, r2) := H
     have A18 := Aside0.mk A180
     clear A180
     simp only [Option.some.injEq, Prod.mk.injEq] at H
     obtain ⟨rfl, rfl⟩ := H
     go_wp2_with (first | ((with_reducible refine gate_callee (f := 63) rfl ?_); refine goesL_ (some 28) rfl rfl Tryd.func63 (by kernel_rfl) rfl #[.int .i64 a1, .int .i64 0, .int .i64 (l0.length : Int)] rfl mT_ ?_; (with_reducible refine (impl_within.calls a1 0 (l0.length : Int) true _ A16.out).mono ?_); rintro e w' ⟨rfl, ⟨nd, rfl⟩⟩; refine ⟨_, rfl, ?_⟩) | ((with_reducible refine gate_callee (f := 64) rfl ?_); refine goesL_ (some 34) rfl rfl Tryd.func64 (by kernel_rfl) rfl #[.slice A0 l0.length c0, .int .i64 a1, .string a2, .slice A3 l3.length c3] rfl mT_ ?_; (with_reducible refine (impl_withVersion.calls kj4 _ _ l0 a1 a2 _ _ l3 t312 t313 _ ?side1 ?side2 ?side3 ?side4 A18.out).mono ?_); (case side1 => exact cA_ (Kd.C_below HR0.out bB_)); (case side2 => exact HC0.out); (case side3 => exact cA_ (Kd.C_below HR3.out bB_)); (case side4 => exact HC3.out); rintro e w19 ⟨v314, rfl, ho0, hb⟩; refine ⟨_, rfl, ?_⟩; have n0_ := Aside0.mk (Kd.S_lower ho0 (below_size bB_)); have n1_ := Aside0.mk (below_step bB_ hb); clear HB; have HO315 := n0_; have HB := n1_; clear n0_ n1_; (try clear hb); (try clear hb2); (try clear hk); (try clear hi); (try clear ho0)))
     go_ret2
     exact ⟨_, er_, sA_ HO315.out, bB_⟩
    ·
     replace c17 := Bool.eq_false_iff.mpr c17
     subst c17
     have H1 : (some (([] : List (S48)), 3)) = some (r1, r2) := by rw [if_neg (show ¬ (false = true) by decide)] at H; exact H
     clear H
     have H := H1
     clear H1
     simp only [Option.some.injEq, Prod.mk.injEq] at H
     obtain ⟨rfl, rfl⟩ := H
     go_wp2_with (first | ((with_reducible refine gate_callee (f := 63) rfl ?_); refine goesL_ (some 28) rfl rfl Tryd.func63 (by kernel_rfl) rfl #[.int .i64 a1, .int .i64 0, .int .i64 (l0.length : Int)] rfl mT_ ?_; (with_reducible refine (impl_within.calls a1 0 (l0.length : Int) false _ A16.out).mono ?_); rintro e w' ⟨rfl, ⟨nd, rfl⟩⟩; refine ⟨_, rfl, ?_⟩))
     go_ret2
     exact ⟨_, er_, by first | exact Kd.S_nil _ _ _ _ _ | exact Kd.N_nil _ _ _ _ _ | exact Kd.V_nil _ _ _ _ _ | exact Kd.Q_nil _ _ _ _ _ | exact Kd.R_nil _ _ _ _ _, bB_⟩

/-! ### impl_allWithin: function 118 -/
def GivesB (P : Program) (g : Nat) (lb : Array Value) (w0 : World) (x : Value) (b : Bool) : Prop :=
 ∀ W, Below w0.heap.size w0 W → Calls P g (#[x] ++ lb) W fun e w' => e = .returned (.bool b) ∧ Below w0.heap.size w0 w'
def idxF {α : Type} (p : α → Bool) : List α → Nat → Int
 | [], _ => -1
 | x :: xs, n => if p x then n else idxF p xs (n + 1)
theorem idxF_drop_hit {α : Type} (p : α → Bool) (d : α) : ∀ (l : List α) (k n : Nat), k < l.length → (∀ j, j < k → p (l.getD j d) = false) → p (l.getD k d) = true → idxF p l n = ((n + k : Nat) : Int)
 | [], k, n, h, _, _ => absurd h (by simp)
 | x :: xs, 0, n, h, h1, h2 => by simp at h2; simp [idxF, h2]
 | x :: xs, k + 1, n, h, h1, h2 => by
  have h0 := h1 0 (by omega)
  simp at h0
  simp only [idxF, h0]
  have := idxF_drop_hit p d xs k (n + 1) (by simpa using h) (fun j hj => by have := h1 (j + 1) (by omega); simpa using this) (by simpa using h2)
  simp only [Bool.false_eq_true, if_false, this]
  congr 1; omega
theorem idxF_miss {α : Type} (p : α → Bool) (d : α) : ∀ (l : List α) (n : Nat), (∀ j, j < l.length → p (l.getD j d) = false) → idxF p l n = -1
 | [], n, _ => rfl
 | x :: xs, n, h1 => by
  have h0 := h1 0 (by simp)
  simp at h0
  simp only [idxF, h0]
  have := idxF_miss p d xs (n + 1) (fun j hj => by have := h1 (j + 1) (by simpa using hj); simpa using this)
  simpa using this
theorem idxF_any {α : Type} (p : α → Bool) : ∀ (l : List α) (n : Nat), decide (0 ≤ idxF p l n) = l.any p
 | [], n => by simp [idxF]
 | x :: xs, n => by
  unfold idxF
  by_cases h : p x = true
  ·
   simp [h]
  ·
   simp only [Bool.not_eq_true] at h
   simp only [h, Bool.false_eq_true, if_false, List.any_cons, Bool.false_or]
   exact idxF_any p xs (n + 1)

set_option maxHeartbeats 2000000 in
theorem slices_IndexFunc_i64 (p : Int → Bool) (g : Nat) (lb : Array Value) (eg : ∀ args w, (callFunc g args).run Tryd.prog w = .ok (.enter g args) w)
  (A : Option Addr) (c : Nat) (l : List Int) (w : World) (hr : Kd.C (Kd.int .i64) w A l.length l) (hbig : l.length < 9223372036854775807)
  (hp : ∀ x, x ∈ l → GivesB Tryd.prog g lb w (.int .i64 x) (p x)) :
  Calls Tryd.prog 166 #[.slice A l.length c, .func (.func g) #[] lb] w fun e w' => e = .returned (.int .i64 (idxF p l 0)) ∧ Below w.heap.size w w' := by
 have HR := Aside0.mk hr
 have HP := Aside0.mk hp
 clear hr hp
 go_enter Tryd.func166, Tryd.ntmps166
 go_wp2
 go_loopg [5, 8] l.length (fun gg _ s8 wr => ∃ kk : Nat, kk ≤ l.length ∧ l.length - kk ≤ gg ∧ s8 = .int .i64 kk ∧ Aside0 (Below w.heap.size w wr) ∧ Aside0 (∀ j, j < kk → p (l.getD j 0) = false))
 case atStart => exact ⟨0, Nat.zero_le _, by omega, rfl, ⟨Below.refl _ w⟩, ⟨fun j hj => absurd hj (Nat.not_lt_zero _)⟩⟩
 case round =>
  obtain ⟨kk, hkk, hg, rfl, BW, A0⟩ := hrel
  by_cases hlt : kk < l.length
  ·
   have hltz : (kk : Int) < (l.length : Int) := by omega
   have HR1 := Aside0.mk (Kd.C_below HR.out BW.out)
   obtain ⟨ad, rfl, hx⟩ := Kd.at_int HR1.out (kk : Int) (by omega) hltz
   rw [Int.toNat_natCast] at hx
   have hmem : rd l (kk : Int) ∈ l := by
    unfold rd
    rw [Int.toNat_natCast, List.getD_eq_getElem?_getD, List.getElem?_eq_getElem hlt]
    exact List.getElem_mem _
   have hcall := HP.out _ hmem wr BW.out
   have ey : rd l (kk : Int) = l.getD kk 0 := by unfold rd; rw [Int.toNat_natCast]
   generalize rd l (kk : Int) = y at hx hcall ey
   have B := Aside0.mk ey
   clear ey
   cases hq : p y with
   | true =>
    rw [hq] at hcall
    go_wp2_with (go_at_fn g; refine hcall.mono ?_; rintro e w' ⟨rfl, hb'⟩)
    go_ret
    refine ⟨?_, hb'⟩
    rw [idxF_drop_hit p 0 l kk 0 hlt A0.out (by rw [← B.out]; exact hq), Nat.zero_add]
    rfl
   | false =>
    rw [hq] at hcall
    go_wp2_with (go_at_fn g; refine hcall.mono ?_; rintro e w' ⟨rfl, hb'⟩)
    go_roundg (l.length - (kk + 1))
    case measure => omega
    case rel =>
     refine ⟨kk + 1, by omega, by omega, by go_num, ⟨hb'⟩, ⟨fun j hj => ?_⟩⟩
     by_cases e : j = kk
     ·
      subst e
      rw [← B.out]; exact hq
     ·
      exact A0.out j (by omega)
  ·
   have hltz : ¬ (kk : Int) < (l.length : Int) := by omega
   have : kk = l.length := by omega
   subst this
   go_wp2
   go_ret
   refine ⟨?_, BW.out⟩
   rw [idxF_miss p 0 l 0 A0.out]
   rfl

set_option maxHeartbeats 2000000 in
theorem slices_ContainsFunc_i64 (p : Int → Bool) (g : Nat) (lb : Array Value) (eg : ∀ args w, (callFunc g args).run Tryd.prog w = .ok (.enter g args) w)
  (A : Option Addr) (c : Nat) (l : List Int) (w : World) (hr : Kd.C (Kd.int .i64) w A l.length l) (hbig : l.length < 9223372036854775807)
  (hp : ∀ x, x ∈ l → GivesB Tryd.prog g lb w (.int .i64 x) (p x)) :
  Calls Tryd.prog 146 #[.slice A l.length c, .func (.func g) #[] lb] w fun e w' => e = .returned (.bool (decide (0 ≤ idxF p l 0))) ∧ Below w.heap.size w w' := by
 have HR := Aside0.mk hr
 have HP := Aside0.mk hp
 clear hr hp
 go_enter Tryd.func146, Tryd.ntmps146
 go_wp2_with (go_at_call 166; refine (slices_IndexFunc_i64 p g lb eg A c l _ HR.out hbig HP.out).mono ?_; rintro e w' ⟨rfl, hb'⟩)
 go_ret
 exact ⟨rfl, hb'⟩

theorem allWithin_1 (w : World) (B C : Nat) (lo hi : Int) (hB : B < w.heap.size) (hC : C < w.heap.size)
  (hb : w.cell? ⟨B, 0, none⟩ = some (.int .i64 lo)) (hc : w.cell? ⟨C, 0, none⟩ = some (.int .i64 hi)) (x : Int) :
  GivesB Tryd.prog 147 #[.pointer (some ⟨B, 0, none⟩), .pointer (some ⟨C, 0, none⟩)] w (.int .i64 x) (!inB lo hi x) := fun W hbel => by
 have hb' : W.cell? ⟨B, 0, none⟩ = some (.int .i64 lo) := (hbel.cell (p := ⟨B, 0, none⟩) hB).trans hb
 have hc' : W.cell? ⟨C, 0, none⟩ = some (.int .i64 hi) := (hbel.cell (p := ⟨C, 0, none⟩) hC).trans hc
 go_enter Tryd.func147, Tryd.ntmps147
 go_wp2_with (go_at_call 63; refine (within_all _ _ _ _).mono ?_; rintro e w' ⟨rfl, rfl⟩)
 go_ret
 exact ⟨rfl, hbel⟩
def impl_allWithin.f (l0 : List Int) (a1 : Int) (a2 : Int) : Option Bool :=
 if l0.length < 9223372036854775807 then some (l0.all (inB a1 a2)) else none
theorem impl_allWithin.calls (A0 : Option Addr) (c0 : Nat) (l0 : List Int) (a1 : Int) (a2 : Int) (r : Bool) (w : World) (hr0 : Kd.C (Kd.int .i64) w A0 l0.length l0) (hc0 : l0.length ≤ c0) (h : impl_allWithin.f l0 a1 a2 = some r) :
  Calls Tryd.prog 118 #[.slice A0 l0.length c0, .int .i64 a1, .int .i64 a2] w fun e w' => e = .returned (.bool r) ∧ Below w.heap.size w w' := by
 unfold impl_allWithin.f at h
 split at h
 ·
  rename_i hlen
  have hrr : r = !decide (0 ≤ idxF (fun x => !inB a1 a2 x) l0 0) := by
   rw [idxF_any]
   rw [← Option.some.inj h, List.not_any_eq_all_not]
   simp
  have HR := Aside0.mk hr0
  have HRR := Aside0.mk hrr
  clear h hr0 hc0 hrr
  have hC := fun (W : World) (hbel : Below w.heap.size w W) (hB : w.heap.size < W.heap.size) (hC : w.heap.size + 1 < W.heap.size) (hb : W.cell? ⟨w.heap.size, 0, none⟩ = some (.int .i64 a1)) (hc : W.cell? ⟨w.heap.size + 1, 0, none⟩ = some (.int .i64 a2)) =>
   slices_ContainsFunc_i64 (fun x => !inB a1 a2 x) 147 #[.pointer (some ⟨w.heap.size, 0, none⟩), .pointer (some ⟨w.heap.size + 1, 0, none⟩)] (enters_of Tryd.func147 (by kernel_rfl) rfl) A0 c0 l0 W (Kd.C_below HR.out hbel) hlen (fun x _ => allWithin_1 W _ _ a1 a2 hB hC hb hc x)
  go_enter Tryd.func118, Tryd.ntmps118
  go_wp2_with (go_at_call 146; refine (hC _ (((Below.refl _ w).alloc (Nat.le_refl _) _).alloc (by simp) _) (by simp; omega) (by simp) (by simp) (by simp)).mono ?_; rintro e w' ⟨rfl, hb⟩)
  go_ret
  exact ⟨by rw [HRR.out]; rfl, (((Below.refl _ w).alloc (Nat.le_refl _) _).alloc (by simp) _).trans (hb.mono (by simp; omega))⟩
 ·
  cases h

/-! ### impl_versionsCode: function 65 -/
def impl_versionsCode.f (k : Nat) (l0 : List (S48)) (l1 : List Int) : Option (Int) := (impl_ValidHistory.f k l0).bind fun t316 => (if t316 = true then ((impl_allWithin.f l1 1 (l0.length : Int)).bind fun t317 => (if t317 = true then (some 0) else (some 3))) else (some 1))
theorem impl_versionsCode.mono : ∀ a0 a1 k, LeO (impl_versionsCode.f k a0 a1) (impl_versionsCode.f (k + 1) a0 a1) := by
 intro a0 a1 k
 unfold impl_versionsCode.f
 repeat' first
   | (with_reducible exact impl_ValidHistory.mono _ _)
   | (with_reducible exact LeO.refl _)
   | (with_reducible exact LeO.none _)
   | (with_reducible refine LeO.ite ?_ ?_)
   | (with_reducible refine LeO.bind ?_ (fun _ => ?_))
   | exact impl_ValidHistory.mono _ _
   | exact LeO.none _
   | refine LeO.ite ?_ ?_
   | refine LeO.bind ?_ (fun _ => ?_)
set_option maxHeartbeats 8000000 in
set_option maxRecDepth 100000 in
theorem impl_versionsCode.calls (k : Nat) (A0 : Option Addr) (c0 : Nat) (l0 : List (S48)) (A1 : Option Addr) (c1 : Nat) (l1 : List Int) (r : Int) (w : World) (hr0 : Kd.C k48 w A0 l0.length l0) (hc0 : l0.length ≤ c0) (hr1 : Kd.C (Kd.int .i64) w A1 l1.length l1) (hc1 : l1.length ≤ c1) (h : impl_versionsCode.f k l0 l1 = some r) :
  Calls Tryd.prog 65 #[.slice A0 l0.length c0, .slice A1 l1.length c1] w fun e w' => e = .returned (.int .i64 r) ∧ Below w.heap.size w w' := by
 have HR0 := Aside0.mk hr0
 have HC0 := Aside0.mk hc0
 clear hr0 hc0
 have HR1 := Aside0.mk hr1
 have HC1 := Aside0.mk hc1
 clear hr1 hc1
 have HB := Aside0.mk (Below.refl w.heap.size w)
 have H : ((impl_ValidHistory.f k l0).bind fun t316 => (if t316 = true then ((impl_allWithin.f l1 1 (l0.length : Int)).bind fun t317 => (if t317 = true then (some 0) else (some 3))) else (some 1))) = some r := h
 clear h
 replace H := Option.bind_eq_some_iff.mp H
 obtain ⟨t316, A30, H⟩ := H
 replace H : (if t316 = true then ((impl_allWithin.f l1 1 (l0.length : Int)).bind fun t317 => (if t317 = true then (some 0) else (some 3))) else (some 1)) = some r := H
 have A3 := Aside0.mk A30
 clear A30
 by_cases c4 : t316 = true
 ·
  subst c4
  have H1 : ((impl_allWithin.f l1 1 (l0.length : Int)).bind fun t317 => (if t317 = true then (some 0) else (some 3))) = some r := by rw [if_pos rfl] at H; exact H
  clear H
  have H := H1
  clear H1
  replace H := Option.bind_eq_some_iff.mp H
  obtain ⟨t317, A50, H⟩ := H
  replace H : (if t317 = true then (some 0) else (some 3)) = some r := H
  have A5 := Aside0.mk A50
  clear A50
  by_cases c6 : t317 = true
  ·
   subst c6
   have H1 : (some 0) = some r := by rw [if_pos rfl] at H; exact H
   clear H
   have H := H1
   clear H1
   obtain rfl := Option.some.inj H
   go_enter Tryd.func65, Tryd.ntmps65
   go_wp2_with (first | ((with_reducible refine gate_callee (f := 61) rfl ?_); refine goesL_ (some 7) rfl rfl Tryd.func61 (by kernel_rfl) rfl #[.slice A0 l0.length c0] rfl mT_ ?_; (with_reducible refine (impl_ValidHistory.calls k _ _ l0 true _ ?side1 ?side2 A3.out).mono ?_); (case side1 => exact cA_ HR0.out); (case side2 => exact HC0.out); rintro e w7 ⟨rfl, hb⟩; refine ⟨_, rfl, ?_⟩; have n0_ := Aside0.mk (below_step bB_ hb); clear HB; have HB := n0_; clear n0_; (try clear hb); (try clear hb2); (try clear hk); (try clear hi)) | ((with_reducible refine gate_callee (f := 118) rfl ?_); refine goesL_ (some 13) rfl rfl Tryd.func118 (by kernel_rfl) rfl #[.slice A1 l1.length c1, .int .i64 1, .int .i64 (l0.length : Int)] rfl mT_ ?_; (with_reducible refine (impl_allWithin.calls _ _ l1 1 (l0.length : Int) true _ ?side1 ?side2 A5.out).mono ?_); (case side1 => exact cA_ (Kd.C_below HR1.out HB.out)); (case side2 => exact HC1.out); rintro e w8 ⟨rfl, hb⟩; refine ⟨_, rfl, ?_⟩; have n0_ := Aside0.mk (below_step bB_ hb); clear HB; have HB := n0_; clear n0_; (try clear hb); (try clear hb2); (try clear hk); (try clear hi)))
   go_ret
   exact ⟨er_, bB_⟩
  ·
   replace c6 := Bool.eq_false_iff.mpr c6
   subst c6
   have H1 : (some 3) = some r := by rw [if_neg (show ¬ (false = true) by decide)] at H; exact H
   clear H
   have H := H1
   clear H1
   obtain rfl := Option.some.inj H
   go_enter Tryd.func65, Tryd.ntmps65
   go_wp2_with (first | ((with_reducible refine gate_callee (f := 61) rfl ?_); refine goesL_ (some 7) rfl rfl Tryd.func61 (by kernel_rfl) rfl #[.slice A0 l0.length c0] rfl mT_ ?_; (with_reducible refine (impl_ValidHistory.calls k _ _ l0 true _ ?side1 ?side2 A3.out).mono ?_); (case side1 => exact cA_ HR0.out); (case side2 => exact HC0.out); rintro e w9 ⟨rfl, hb⟩; refine ⟨_, rfl, ?_⟩; have n0_ := Aside0.mk (below_step bB_ hb); clear HB; have HB := n0_; clear n0_; (try clear hb); (try clear hb2); (try clear hk); (try clear hi)) | ((with_reducible refine gate_callee (f := 118) rfl ?_); refine goesL_ (some 13) rfl rfl Tryd.func118 (by kernel_rfl) rfl #[.slice A1 l1.length c1, .int .i64 1, .int .i64 (l0.length : Int)] rfl mT_ ?_; (with_reducible refine (impl_allWithin.calls _ _ l1 1 (l0.length : Int) false _ ?side1 ?side2 A5.out).mono ?_); (case side1 => exact cA_ (Kd.C_below HR1.out HB.out)); (case side2 => exact HC1.out); rintro e w10 ⟨rfl, hb⟩; refine ⟨_, rfl, ?_⟩; have n0_ := Aside0.mk (below_step bB_ hb); clear HB; have HB := n0_; clear n0_; (try clear hb); (try clear hb2); (try clear hk); (try clear hi)))
   go_ret
   exact ⟨er_, bB_⟩
 ·
  replace c4 := Bool.eq_false_iff.mpr c4
  subst c4
  have H1 : (some 1) = some r := by rw [if_neg (show ¬ (false = true) by decide)] at H; exact H
  clear H
  have H := H1
  clear H1
  obtain rfl := Option.some.inj H
  go_enter Tryd.func65, Tryd.ntmps65
  go_wp2_with (first | ((with_reducible refine gate_callee (f := 61) rfl ?_); refine goesL_ (some 7) rfl rfl Tryd.func61 (by kernel_rfl) rfl #[.slice A0 l0.length c0] rfl mT_ ?_; (with_reducible refine (impl_ValidHistory.calls k _ _ l0 false _ ?side1 ?side2 A3.out).mono ?_); (case side1 => exact cA_ HR0.out); (case side2 => exact HC0.out); rintro e w11 ⟨rfl, hb⟩; refine ⟨_, rfl, ?_⟩; have n0_ := Aside0.mk (below_step bB_ hb); clear HB; have HB := n0_; clear n0_; (try clear hb); (try clear hb2); (try clear hk); (try clear hi)))
  go_ret
  exact ⟨er_, bB_⟩

/-! ### impl_Decimal: function 66 -/
/-- What the listed variables of Go's library hold. -/
def WOK (w : World) : Prop := Lib.TabIs Tryd.prog w "internal/strconv.uint64pow10" .u64 Lib.pow10Tab ∧ (∃ m, w.cell? ⟨1, 0, none⟩ = some (.int .i64 m)) ∧ True
theorem wok_tab {w W : World} (h : Lib.TabIs Tryd.prog w "internal/strconv.uint64pow10" .u64 Lib.pow10Tab) (hb : Below w.heap.size w W) : Lib.TabIs Tryd.prog W "internal/strconv.uint64pow10" .u64 Lib.pow10Tab := by
 unfold Lib.TabIs World.var? at h ⊢
 cases hg : Tryd.prog.globalNamed "internal/strconv.uint64pow10" with
 | none => rw [hg] at h; cases h
 | some g =>
  rw [hg] at h
  simp only [Option.bind_some] at h ⊢
  have hlt : g < w.heap.size := by
   rcases Nat.lt_or_ge g w.heap.size with h' | h'
   ·
    exact h'
   ·
    rw [Array.getElem?_eq_none h'] at h; cases h
  rw [hb.block g hlt]
  exact h
theorem wok_ {w W : World} (h : WOK w) (hb : Below w.heap.size w W) : WOK W :=
 ⟨wok_tab h.1 hb, h.2.1.imp fun _ hm => (hb.cell (World.block_lt_of_cell? w _ hm)).trans hm, trivial⟩
theorem below_grow_ (w : World) (k : Nat) (os : Array Obj) : Below w.heap.size w (Go.Sort.grow (w.drewN k) os) :=
 ⟨rfl, rfl, rfl, by show w.heap.size ≤ (w.heap ++ os).size; rw [Array.size_append]; omega, fun j hj => by show (w.heap ++ os)[j]? = w.heap[j]?; exact Array.getElem?_append_left hj⟩
theorem spot_none {w : World} {a : Addr} {v : Value} (h : w.cell? a = some v) : a.spot = none := by
 cases hs : a.spot with
 | none => rfl
 | some s =>
  obtain ⟨b, o, sp⟩ := a
  simp only at hs
  subst hs
  unfold World.cell? at h
  split at h <;> simp at h

def impl_Decimal.f (a0 : Int) : Option ByteArray := if -9223372036854775808 ≤ a0 ∧ a0 ≤ 9223372036854775807 then some ⟨(Lib.itoa a0).toArray⟩ else none
theorem impl_Decimal.calls (a0 : Int) (r : ByteArray) (w : World) (ht_ : WOK w) (h : impl_Decimal.f a0 = some r) :
  Calls Tryd.prog 66 #[.int .i64 a0] w fun e w' => e = .returned (.string r) ∧ Below w.heap.size w w' := by
 unfold impl_Decimal.f at h
 split at h
 ·
  rename_i hr
  obtain rfl := Option.some.inj h
  have hc := Tryd.strconv_FormatInt_10 a0 hr.1 hr.2 w ht_.1
  clear ht_
  go_enter Tryd.func66, Tryd.ntmps66
  go_wp2_with (go_at_call 119; refine hc.mono ?_; rintro e w' ⟨rfl, kk, os, rfl⟩)
  go_ret
  exact ⟨rfl, below_grow_ _ _ _⟩
 ·
  cases h

/-! ### impl_versionState: function 67 -/
def impl_versionState.f (l0 : List (S48)) (a1 : Int) : Option ((List (S96))) := if a1 = 0 then (some ([] : List (S96))) else (if 0 ≤ (wrap64 (a1 - 1)) then (if (wrap64 (a1 - 1)) < (l0.length : Int) then (some ((rd_T48 l0 (wrap64 (a1 - 1))).f3)) else (none)) else (none))
set_option maxHeartbeats 8000000 in
set_option maxRecDepth 100000 in
theorem impl_versionState.calls (P0_ : Nat → Prop) (A0 : Option Addr) (c0 : Nat) (l0 : List (S48)) (a1 : Int) (r : List (S96)) (w : World) (hs0 : Kd.V k48 48 w w.heap.size (fun k_ => P0_ k_) (.slice A0 l0.length c0) l0) (h : impl_versionState.f l0 a1 = some r) :
  Calls Tryd.prog 67 #[.slice A0 l0.length c0, .int .i64 a1] w fun e w' => ∃ v0_ : Value, e = .returned (v0_) ∧ Kd.V k96 96 w' w.heap.size (fun k_ => (P0_ k_ ∨ w.heap.size ≤ k_)) v0_ r ∧ Below w.heap.size w w' := by
 have HO0 := Aside0.mk (show Kd.V k48 48 w w.heap.size (fun k_ => (P0_ k_ ∨ w.heap.size ≤ k_)) (.slice A0 l0.length c0) l0 from Kd.V_mono hs0 (fun k_ hk => .inl hk))
 have HB := Aside0.mk (Below.refl w.heap.size w)
 have H : (if a1 = 0 then (some ([] : List (S96))) else (if 0 ≤ (wrap64 (a1 - 1)) then (if (wrap64 (a1 - 1)) < (l0.length : Int) then (some ((rd_T48 l0 (wrap64 (a1 - 1))).f3)) else (none)) else (none))) = some r := h
 clear h
 by_cases c3 : a1 = 0
 ·
  rw [if_pos c3] at H
  have c3b0 : (a1 == 0) = true := beq_iff_eq.mpr c3
  have c3b1 : (a1 != 0) = false := bne_eq_false_iff_eq.mpr c3
  clear c3
  obtain rfl := Option.some.inj H
  go_enter Tryd.func67, Tryd.ntmps67
  go_wp2
  go_ret
  exact ⟨_, er_, Kd.V_mono (ok := fun k_ => w.heap.size ≤ k_) (by first | exact Kd.V_nil _ _ _ _ _ | (go_simp; exact Kd.V_nil _ _ _ _ _)) (fun k_ hk => (.inr hk)), bB_⟩
 ·
  rw [if_neg c3] at H
  have c3b0 : (a1 == 0) = false := beq_eq_false_iff_ne.mpr c3
  have c3b1 : (a1 != 0) = true := bne_iff_ne.mpr c3
  obtain ⟨ji4, hji4⟩ : ∃ j_ : Int, (wrap64 (a1 - 1)) = j_ := ⟨_, rfl⟩
  replace H : (if 0 ≤ (ji4) then (if (ji4) < (l0.length : Int) then (some ((rd_T48 l0 (ji4)).f3)) else (none)) else (none)) = some r := by first | (rw [hji4] at H; exact H) | (simp only [hji4] at H ⊢; exact H)
  have hji4w : (IntKind.i64.wrap (a1 - 1)) = ji4 := (i64_w _).trans hji4
  by_cases c5 : 0 ≤ (ji4)
  ·
   rw [if_pos c5] at H
   have c5b0 : decide (0 ≤ (ji4)) = true := decide_eq_true c5
   clear c5
   by_cases c6 : (ji4) < (l0.length : Int)
   ·
    rw [if_pos c6] at H
    have c6b0 : decide ((ji4) < (l0.length : Int)) = true := decide_eq_true c6
    clear c6
    obtain rfl := Option.some.inj H
    have p318 : 0 ≤ ((ji4) : Int) := of_decide_eq_true as_
    have q318 : (ji4) < (l0.length : Int) := of_decide_eq_true as_
    obtain ⟨ad318, A318_3, c318_3, e318, hx318_0, hx318_1, hx318_2, hx318_3, hl318_3, hi318_3⟩ := at_T48 (Kd.V_reads' HO0.out).2.2 (ji4) p318 q318
    cases e318
    obtain ⟨ce318, hce318, hMe318, hcc318⟩ := Kd.V_get HO0.out z48 (ji4) p318 (by first | exact q318 | exact of_decide_eq_true as_ | (have e_ := (Kd.V_reads' HO0.out).1; omega))
    obtain ⟨ua318_3, uc318_3, rfl, ul318_3, ge318_3⟩ := k48_openF hMe318
    have hv318_3 := hcc318 3 _ rfl
    rw [add_field _ _ 3 (by omega)] at hv318_3
    replace hv318_3 := Option.some.inj (hv318_3.symm.trans hx318_3)
    injection hv318_3 with hva_ hvn_ hvc_
    rw [hva_] at ge318_3
    rw [hvc_] at ul318_3
    have HL318_3 := Aside0.mk (show Kd.V k96 96 _ w.heap.size _ _ ((rd_T48 l0 (ji4)).f3) from Kd.V_mk ul318_3 ge318_3)
    clear hva_ hvn_ hvc_ ge318_3 ul318_3
    clear hcc318 hce318
    have HR318_3 := Aside0.mk hi318_3
    have HC318_3 := Aside0.mk hl318_3
    clear hi318_3 hl318_3
    replace p318 := eq_true p318
    replace q318 := eq_true q318
    go_enter Tryd.func67, Tryd.ntmps67
    go_wp2
    go_ret
    exact ⟨_, by first | rfl | (simp [errW_none, errW_some] <;> rfl) | (simp only [← hji4]; first | rfl | (simp [errW_none, errW_some] <;> rfl)) | (simp [*, errW_none, errW_some] <;> rfl), vA_ HL318_3.out, bB_⟩
   ·
    rw [if_neg c6] at H
    exact absurd H (by simp)
  ·
   rw [if_neg c5] at H
   exact absurd H (by simp)

end Go.Proofs.YtgkmfgkkmahmoaaDoor.PFnVersions
