/- The walk of the law FnExactHotSpots: written by a program of this session. -/
import Derived.Test.YtobhjkpegcfdfaaPureFnExactHotSpots
import Derived.Test.YtobhjkpegcfdfaaMkFnExactHotSpots
namespace Go.Proofs.Ytobhjkpegcfdfaa.LwFnExactHotSpots
open Go.RowKit Go.Proofs.Ytobhjkpegcfdfaa.PFnExactHotSpots Go.Proofs.Ytobhjkpegcfdfaa.Pure Go.Proofs.YtobhjkpegcfdfaaW.PrintWords Go.Proofs.YtobhjkpegcfdfaaW.PrintLast Go.Proofs.YtobhjkpegcfdfaaW.PrintMore
set_option linter.unusedVariables false
set_option linter.unusedSimpArgs false
/- What Pure must hold: theorem core : ∀ (l0 : List (List Int)) (a1 : Int) (w0 : l0.length ≤ maxLen ∧ ∀ x0 ∈ l0, x0.length ≤ maxLen ∧ ∀ x1 ∈ x0, (Lit.int .i64 x1).wf = true) (o0 : okInt64SS l0) (w1 : (Lit.int .i64 a1).wf = true), ∃ (r1 : List (S116)) (r2 : Int), Ev (fun k => spec_HotSpots.f k l0 a1) (r1, r2) ∧ Ev (fun k => impl_HotSpots.f k l0 a1) (r1, r2) ∧ okSpotS r1 -/
set_option maxHeartbeats 8000000 in
set_option maxRecDepth 100000 in
theorem walk (A0 : Option Addr) (c0 : Nat) (l0 : List (List Int)) (a1 : Int) (w : World) (w0 : l0.length ≤ maxLen ∧ ∀ x0 ∈ l0, x0.length ≤ maxLen ∧ ∀ x1 ∈ x0, (Lit.int .i64 x1).wf = true) (w1 : (Lit.int .i64 a1).wf = true) (hr0 : Kd.C (Kd.slice 2 (Kd.int .i64)) w A0 l0.length l0) (hc0 : l0.length ≤ c0) :
  Calls Try.prog 3 #[.slice A0 l0.length c0, .int .i64 a1] w fun e w' => e = .returned (.bool true) ∧ Below w.heap.size w w' := by
 have HR0 := Aside0.mk hr0
 have HC0 := Aside0.mk hc0
 clear hr0 hc0
 have HW0 := Aside0.mk w0
 clear w0
 have HW1 := Aside0.mk w1
 clear w1
 have HB := Aside0.mk (Below.refl w.heap.size w)
 go_enter Try.func3, Try.ntmps3
 obtain ⟨z1, he_, hq_⟩ := szInt64SS_evo l0 (1048576) HW0.out (by decide) (by decide)
 obtain ⟨k4, e3⟩ := Ev.rounds he_
 clear he_; have n_ := Aside0.mk e3; clear e3; have e3 := n_; clear n_
 have HQ0 := Aside0.mk hq_; clear hq_
 go_wp2_with (fail)
 ((with_reducible refine (laws_szInt64SS.calls k4 A0 c0 l0 (1048576) z1 _ (Kd.C_below HR0.out HB.out) HC0.out e3.out).mono ?_))
 rintro e w5 ⟨rfl, hd_⟩
 have hb_ := hd_.below; clear hd_
 have n_ := Aside0.mk (HB.out.trans (hb_.mono HB.out.size)); clear HB; have HB := n_; clear n_
 have hs_ : w.heap.size ≤ w5.heap.size := hb_.size
 have HZ := Aside0.mk (And.intro hs_ True.intro); clear hs_
 clear hb_
 by_cases hn_ : z1 < 0
 ·
  have hd_ : decide (z1 < 0) = true := decide_eq_true hn_
  clear hn_
  go_wp2
  go_ret
  exact ⟨rfl, HB.out⟩
 have O0 : Aside0 (okInt64SS l0) := ⟨(HQ0.out.resolve_left hn_).2.2⟩
 have HL0 : Aside0 (0 ≤ z1 ∧ z1 ≤ 1048576) := ⟨by have h_ := HQ0.out.resolve_left hn_; have h1_ : (1048576) ≤ 1048576 := (by decide); omega⟩
 have hd_ : decide (z1 < 0) = false := decide_eq_false hn_; clear hn_
 obtain ⟨r1, r2, es_, ei_, ok0_⟩ := core l0 a1 HW0.out O0.out HW1.out
 obtain ⟨kES, h_⟩ := Ev.rounds es_; have ES := Aside0.mk h_; clear h_ es_
 obtain ⟨kEI, h_⟩ := Ev.rounds ei_; have EI := Aside0.mk h_; clear h_ ei_
 have OR0 := Aside0.mk ok0_; clear ok0_
 obtain ⟨k7, e6⟩ := Ev.rounds (toInt64SS_evo l0 O0.out)
 have n_ := Aside0.mk e6; clear e6; have e6 := n_; clear n_
 go_wp2_with (fail)
 ((with_reducible refine (laws_toInt64SS.calls k7 A0 c0 l0 l0 _ (Kd.C_below HR0.out HB.out) HC0.out e6.out).mono ?_))
 rintro e w8 ⟨v9, rfl, ho0, hb_⟩
 obtain ⟨A10, c11, rfl⟩ := Kd.S_slice ho0
 have HO12 := Aside0.mk (Kd.S_lower (Kd.S_mono (ok' := Rng w5.heap.size w8.heap.size) (Kd.S_bound ho0) (fun k_ h_ => ⟨h_.2.1, h_.2.2.1⟩)) HB.out.size)
 clear ho0
 have n_ := Aside0.mk (HB.out.trans (hb_.mono HB.out.size)); clear HB; have HB := n_; clear n_
 have hs_ : w5.heap.size ≤ w8.heap.size := hb_.size
 have n_ := Aside0.mk (And.intro hs_ HZ.out); clear HZ; have HZ := n_; clear n_ hs_
 clear hb_
 go_wp2_with (fail)
 ((with_reducible refine (spec_HotSpots.calls kES A10 c11 l0 a1 r1 r2 _ (Kd.S_reads' HO12.out).2.2 (Kd.S_reads' HO12.out).2.1 ES.out).mono ?_))
 rintro e w13 ⟨v14, rfl, ho0, hb_⟩
 obtain ⟨A15, c16, rfl⟩ := Kd.R_slice ho0
 have HO17 := Aside0.mk (Kd.R_lower (Kd.R_mono (ok' := Rng w8.heap.size w13.heap.size) (Kd.R_bound ho0) (fun k_ h_ => ⟨h_.2.1, h_.2.2.1⟩)) HB.out.size)
 clear ho0
 have n_ := Aside0.mk (Kd.S_below HO12.out hb_)
 clear HO12; have HO12 := n_; clear n_
 have n_ := Aside0.mk (HB.out.trans (hb_.mono HB.out.size)); clear HB; have HB := n_; clear n_
 have hs_ : w8.heap.size ≤ w13.heap.size := hb_.size
 have n_ := Aside0.mk (And.intro hs_ HZ.out); clear HZ; have HZ := n_; clear n_ hs_
 clear hb_
 clear HO12
 obtain ⟨k19, e18⟩ := Ev.rounds (toInt64SS_evo l0 O0.out)
 have n_ := Aside0.mk e18; clear e18; have e18 := n_; clear n_
 go_wp2_with (fail)
 ((with_reducible refine (laws_toInt64SS.calls k19 A0 c0 l0 l0 _ (Kd.C_below HR0.out HB.out) HC0.out e18.out).mono ?_))
 rintro e w20 ⟨v21, rfl, ho0, hb_⟩
 obtain ⟨A22, c23, rfl⟩ := Kd.S_slice ho0
 have HO24 := Aside0.mk (Kd.S_lower (Kd.S_mono (ok' := Rng w13.heap.size w20.heap.size) (Kd.S_bound ho0) (fun k_ h_ => ⟨h_.2.1, h_.2.2.1⟩)) HB.out.size)
 clear ho0
 have n_ := Aside0.mk (Kd.R_below HO17.out hb_)
 clear HO17; have HO17 := n_; clear n_
 have n_ := Aside0.mk (HB.out.trans (hb_.mono HB.out.size)); clear HB; have HB := n_; clear n_
 have hs_ : w13.heap.size ≤ w20.heap.size := hb_.size
 have n_ := Aside0.mk (And.intro hs_ HZ.out); clear HZ; have HZ := n_; clear n_ hs_
 clear hb_
 go_wp2_with (fail)
 ((with_reducible refine (impl_HotSpots.calls kEI A22 c23 l0 a1 r1 r2 _ (Kd.S_reads' HO24.out).2.2 (Kd.S_reads' HO24.out).2.1 EI.out).mono ?_))
 rintro e w25 ⟨v26, rfl, ho0, hb_⟩
 obtain ⟨A27, c28, rfl⟩ := Kd.R_slice ho0
 have HO29 := Aside0.mk (Kd.R_lower (Kd.R_mono (ok' := Rng w20.heap.size w25.heap.size) (Kd.R_bound ho0) (fun k_ h_ => ⟨h_.2.1, h_.2.2.1⟩)) HB.out.size)
 clear ho0
 have n_ := Aside0.mk (Kd.R_below HO17.out hb_)
 clear HO17; have HO17 := n_; clear n_
 have n_ := Aside0.mk (Kd.S_below HO24.out hb_)
 clear HO24; have HO24 := n_; clear n_
 have n_ := Aside0.mk (HB.out.trans (hb_.mono HB.out.size)); clear HB; have HB := n_; clear n_
 have hs_ : w20.heap.size ≤ w25.heap.size := hb_.size
 have n_ := Aside0.mk (And.intro hs_ HZ.out); clear HZ; have HZ := n_; clear n_ hs_
 clear hb_
 obtain ⟨k31, e30⟩ := Ev.rounds (eqSpotS_evo r1 OR0.out)
 have n_ := Aside0.mk e30; clear e30; have e30 := n_; clear n_
 go_wp2_with (fail)
 ((with_reducible refine (laws_eqSpotS.calls k31 A27 c28 r1 A15 c16 r1 true _ (Kd.R_reads' HO29.out).2.2 (Kd.R_reads' HO29.out).2.1 (Kd.R_reads' HO17.out).2.2 (Kd.R_reads' HO17.out).2.1 e30.out).mono ?_))
 rintro e w32 ⟨rfl, hd_⟩
 have hb_ := hd_; clear hd_
 have n_ := Aside0.mk (Kd.R_below HO17.out hb_)
 clear HO17; have HO17 := n_; clear n_
 have n_ := Aside0.mk (Kd.S_below HO24.out hb_)
 clear HO24; have HO24 := n_; clear n_
 have n_ := Aside0.mk (Kd.R_below HO29.out hb_)
 clear HO29; have HO29 := n_; clear n_
 have n_ := Aside0.mk (HB.out.trans (hb_.mono HB.out.size)); clear HB; have HB := n_; clear n_
 have hs_ : w25.heap.size ≤ w32.heap.size := hb_.size
 have n_ := Aside0.mk (And.intro hs_ HZ.out); clear HZ; have HZ := n_; clear n_ hs_
 clear hb_
 obtain ⟨k34, e33⟩ := Ev.rounds (toInt64SS_evo l0 O0.out)
 have n_ := Aside0.mk e33; clear e33; have e33 := n_; clear n_
 go_wp2_with (fail)
 ((with_reducible refine (laws_toInt64SS.calls k34 A0 c0 l0 l0 _ (Kd.C_below HR0.out HB.out) HC0.out e33.out).mono ?_))
 rintro e w35 ⟨v36, rfl, ho0, hb_⟩
 obtain ⟨A37, c38, rfl⟩ := Kd.S_slice ho0
 have HO39 := Aside0.mk (Kd.S_lower (Kd.S_mono (ok' := Rng w32.heap.size w35.heap.size) (Kd.S_bound ho0) (fun k_ h_ => ⟨h_.2.1, h_.2.2.1⟩)) HB.out.size)
 clear ho0
 have n_ := Aside0.mk (Kd.R_below HO17.out hb_)
 clear HO17; have HO17 := n_; clear n_
 have n_ := Aside0.mk (Kd.S_below HO24.out hb_)
 clear HO24; have HO24 := n_; clear n_
 have n_ := Aside0.mk (Kd.R_below HO29.out hb_)
 clear HO29; have HO29 := n_; clear n_
 have n_ := Aside0.mk (HB.out.trans (hb_.mono HB.out.size)); clear HB; have HB := n_; clear n_
 have hs_ : w32.heap.size ≤ w35.heap.size := hb_.size
 have n_ := Aside0.mk (And.intro hs_ HZ.out); clear HZ; have HZ := n_; clear n_ hs_
 clear hb_
 obtain ⟨k41, e40⟩ := Ev.rounds (eqInt64SS_evo l0 O0.out)
 have n_ := Aside0.mk e40; clear e40; have e40 := n_; clear n_
 go_wp2_with (fail)
 ((with_reducible refine (laws_eqInt64SS.calls k41 A22 c23 l0 A37 c38 l0 true _ (Kd.S_reads' HO24.out).2.2 (Kd.S_reads' HO24.out).2.1 (Kd.S_reads' HO39.out).2.2 (Kd.S_reads' HO39.out).2.1 e40.out).mono ?_))
 rintro e w42 ⟨rfl, hd_⟩
 have hb_ := hd_.below; clear hd_
 have n_ := Aside0.mk (Kd.R_below HO17.out hb_)
 clear HO17; have HO17 := n_; clear n_
 have n_ := Aside0.mk (Kd.S_below HO24.out hb_)
 clear HO24; have HO24 := n_; clear n_
 have n_ := Aside0.mk (Kd.R_below HO29.out hb_)
 clear HO29; have HO29 := n_; clear n_
 have n_ := Aside0.mk (Kd.S_below HO39.out hb_)
 clear HO39; have HO39 := n_; clear n_
 have n_ := Aside0.mk (HB.out.trans (hb_.mono HB.out.size)); clear HB; have HB := n_; clear n_
 have hs_ : w35.heap.size ≤ w42.heap.size := hb_.size
 have n_ := Aside0.mk (And.intro hs_ HZ.out); clear HZ; have HZ := n_; clear n_ hs_
 clear hb_
 clear HO39
 go_wp2_with (fail)
 have hk0_ : 0 ≤ (1 : Int) ∧ (1 : Int) ≤ 900000000000000 := by decide
 ((with_reducible refine (markInt64SS_rng (Rng w13.heap.size w20.heap.size) _ l0 1 w _ HB.out HO24.out O0.out hk0_.1 (Int.le_trans hk0_.2 (by decide))).mono ?_))
 rintro e w44 ⟨rfl, hy0, HB2_, hk_⟩
 clear hk0_
 have n_ := Aside0.mk (Kd.R_kept HO17.out hk_ (fun k_ h1_ h2_ => by unfold Rng at h1_ h2_; have hz_ := HZ.out; omega))
 clear HO17; have HO17 := n_; clear n_
 have n_ := Aside0.mk (Kd.R_kept HO29.out hk_ (fun k_ h1_ h2_ => by unfold Rng at h1_ h2_; have hz_ := HZ.out; omega))
 clear HO29; have HO29 := n_; clear n_
 clear HO24; have HO24 := Aside0.mk hy0; clear hy0
 clear HB; have HB := Aside0.mk HB2_; clear HB2_
 have hs_ : w42.heap.size ≤ w44.heap.size := hk_.1; clear hk_
 have n_ := Aside0.mk (And.intro hs_ HZ.out); clear HZ; have HZ := n_; clear n_ hs_
 have hm_ := cntInt64SS_bd l0 O0.out
 obtain ⟨m43, he_⟩ : ∃ m_ : Int, (1 : Int) + cntInt64SS l0 = m_ := ⟨_, rfl⟩
 rw [he_]
 have HMm43 : Aside0 (0 ≤ m43 ∧ m43 ≤ 3000000000001) := ⟨by omega⟩
 have HEm43 := Aside0.mk he_; clear he_ hm_
 have hdmm43 : decide (m43 < 0) = false := decide_eq_false (by have h_ := HMm43.out; omega)
 obtain ⟨k46, e45⟩ := Ev.rounds (eqSpotS_evo r1 OR0.out)
 have n_ := Aside0.mk e45; clear e45; have e45 := n_; clear n_
 go_wp2_with (fail)
 ((with_reducible refine (laws_eqSpotS.calls k46 A27 c28 r1 A15 c16 r1 true _ (Kd.R_reads' HO29.out).2.2 (Kd.R_reads' HO29.out).2.1 (Kd.R_reads' HO17.out).2.2 (Kd.R_reads' HO17.out).2.1 e45.out).mono ?_))
 rintro e w47 ⟨rfl, hd_⟩
 have hb_ := hd_; clear hd_
 have n_ := Aside0.mk (Kd.R_below HO17.out hb_)
 clear HO17; have HO17 := n_; clear n_
 have n_ := Aside0.mk (Kd.S_below HO24.out hb_)
 clear HO24; have HO24 := n_; clear n_
 have n_ := Aside0.mk (Kd.R_below HO29.out hb_)
 clear HO29; have HO29 := n_; clear n_
 have n_ := Aside0.mk (HB.out.trans (hb_.mono HB.out.size)); clear HB; have HB := n_; clear n_
 have hs_ : w44.heap.size ≤ w47.heap.size := hb_.size
 have n_ := Aside0.mk (And.intro hs_ HZ.out); clear HZ; have HZ := n_; clear n_ hs_
 clear hb_
 go_wp2_with (fail)
 have hk0_ : 0 ≤ (1 : Int) ∧ (1 : Int) ≤ 900000000000000 := by decide
 ((with_reducible refine (markSpotS_rng (Rng w20.heap.size w25.heap.size) _ r1 1 w _ HB.out HO29.out OR0.out hk0_.1 (Int.le_trans hk0_.2 (by decide))).mono ?_))
 rintro e w49 ⟨rfl, hy0, HB2_, hk_⟩
 clear hk0_
 have n_ := Aside0.mk (Kd.R_kept HO17.out hk_ (fun k_ h1_ h2_ => by unfold Rng at h1_ h2_; have hz_ := HZ.out; omega))
 clear HO17; have HO17 := n_; clear n_
 have n_ := Aside0.mk (Kd.S_kept HO24.out hk_ (fun k_ h1_ h2_ => by unfold Rng at h1_ h2_; have hz_ := HZ.out; omega))
 clear HO24; have HO24 := n_; clear n_
 clear HO29; have HO29 := Aside0.mk hy0; clear hy0
 clear HB; have HB := Aside0.mk HB2_; clear HB2_
 have hs_ : w47.heap.size ≤ w49.heap.size := hk_.1; clear hk_
 have n_ := Aside0.mk (And.intro hs_ HZ.out); clear HZ; have HZ := n_; clear n_ hs_
 have hm_ := cntSpotS_bd r1 OR0.out
 obtain ⟨m48, he_⟩ : ∃ m_ : Int, (1 : Int) + cntSpotS r1 = m_ := ⟨_, rfl⟩
 rw [he_]
 have HMm48 : Aside0 (0 ≤ m48 ∧ m48 ≤ 3000000000001) := ⟨by omega⟩
 have HEm48 := Aside0.mk he_; clear he_ hm_
 have hdmm48 : decide (m48 < 0) = false := decide_eq_false (by have h_ := HMm48.out; omega)
 obtain ⟨k51, e50⟩ := Ev.rounds (heldSpotS_ev r1 1 OR0.out (by decide) (by decide))
 have n_ := Aside0.mk e50; clear e50; have e50 := n_; clear n_
 have n_ := e50.out; rw [HEm48.out] at n_; clear e50; have e50 := Aside0.mk n_; clear n_
 go_wp2_with (fail)
 refine calls_of_args (args' := #[.slice A27 (mkSpotS r1 1).length c28, .int .i64 1]) (by simp only [mkSpotS_len r1 1]) ?_
 ((with_reducible refine (laws_heldSpotS.calls k51 A27 c28 (mkSpotS r1 1) 1 m48 _ (Kd.R_reads' HO29.out).2.2 (by have h_ := Kd.R_reads' HO29.out; have h1_ := h_.1; have h2_ := h_.2.1; omega) e50.out).mono ?_))
 rintro e w52 ⟨rfl, hd_⟩
 have hb_ := hd_.below; clear hd_
 have n_ := Aside0.mk (Kd.R_below HO17.out hb_)
 clear HO17; have HO17 := n_; clear n_
 have n_ := Aside0.mk (Kd.S_below HO24.out hb_)
 clear HO24; have HO24 := n_; clear n_
 have n_ := Aside0.mk (Kd.R_below HO29.out hb_)
 clear HO29; have HO29 := n_; clear n_
 have n_ := Aside0.mk (HB.out.trans (hb_.mono HB.out.size)); clear HB; have HB := n_; clear n_
 have hs_ : w49.heap.size ≤ w52.heap.size := hb_.size
 have n_ := Aside0.mk (And.intro hs_ HZ.out); clear HZ; have HZ := n_; clear n_ hs_
 clear hb_
 obtain ⟨k54, e53⟩ := Ev.rounds (toInt64SS_evo l0 O0.out)
 have n_ := Aside0.mk e53; clear e53; have e53 := n_; clear n_
 go_wp2_with (fail)
 ((with_reducible refine (laws_toInt64SS.calls k54 A0 c0 l0 l0 _ (Kd.C_below HR0.out HB.out) HC0.out e53.out).mono ?_))
 rintro e w55 ⟨v56, rfl, ho0, hb_⟩
 obtain ⟨A57, c58, rfl⟩ := Kd.S_slice ho0
 have HO59 := Aside0.mk (Kd.S_lower (Kd.S_mono (ok' := Rng w52.heap.size w55.heap.size) (Kd.S_bound ho0) (fun k_ h_ => ⟨h_.2.1, h_.2.2.1⟩)) HB.out.size)
 clear ho0
 have n_ := Aside0.mk (Kd.R_below HO17.out hb_)
 clear HO17; have HO17 := n_; clear n_
 have n_ := Aside0.mk (Kd.S_below HO24.out hb_)
 clear HO24; have HO24 := n_; clear n_
 have n_ := Aside0.mk (Kd.R_below HO29.out hb_)
 clear HO29; have HO29 := n_; clear n_
 have n_ := Aside0.mk (HB.out.trans (hb_.mono HB.out.size)); clear HB; have HB := n_; clear n_
 have hs_ : w52.heap.size ≤ w55.heap.size := hb_.size
 have n_ := Aside0.mk (And.intro hs_ HZ.out); clear HZ; have HZ := n_; clear n_ hs_
 clear hb_
 go_wp2_with (fail)
 ((with_reducible refine (impl_HotSpots.calls kEI A57 c58 l0 a1 r1 r2 _ (Kd.S_reads' HO59.out).2.2 (Kd.S_reads' HO59.out).2.1 EI.out).mono ?_))
 rintro e w60 ⟨v61, rfl, ho0, hb_⟩
 obtain ⟨A62, c63, rfl⟩ := Kd.R_slice ho0
 have HO64 := Aside0.mk (Kd.R_lower (Kd.R_mono (ok' := Rng w55.heap.size w60.heap.size) (Kd.R_bound ho0) (fun k_ h_ => ⟨h_.2.1, h_.2.2.1⟩)) HB.out.size)
 clear ho0
 have n_ := Aside0.mk (Kd.R_below HO17.out hb_)
 clear HO17; have HO17 := n_; clear n_
 have n_ := Aside0.mk (Kd.S_below HO24.out hb_)
 clear HO24; have HO24 := n_; clear n_
 have n_ := Aside0.mk (Kd.R_below HO29.out hb_)
 clear HO29; have HO29 := n_; clear n_
 have n_ := Aside0.mk (Kd.S_below HO59.out hb_)
 clear HO59; have HO59 := n_; clear n_
 have n_ := Aside0.mk (HB.out.trans (hb_.mono HB.out.size)); clear HB; have HB := n_; clear n_
 have hs_ : w55.heap.size ≤ w60.heap.size := hb_.size
 have n_ := Aside0.mk (And.intro hs_ HZ.out); clear HZ; have HZ := n_; clear n_ hs_
 clear hb_
 clear HO59
 obtain ⟨k66, e65⟩ := Ev.rounds (eqSpotS_evo r1 OR0.out)
 have n_ := Aside0.mk e65; clear e65; have e65 := n_; clear n_
 go_wp2_with (fail)
 ((with_reducible refine (laws_eqSpotS.calls k66 A62 c63 r1 A15 c16 r1 true _ (Kd.R_reads' HO64.out).2.2 (Kd.R_reads' HO64.out).2.1 (Kd.R_reads' HO17.out).2.2 (Kd.R_reads' HO17.out).2.1 e65.out).mono ?_))
 rintro e w67 ⟨rfl, hd_⟩
 have hb_ := hd_; clear hd_
 have n_ := Aside0.mk (Kd.R_below HO17.out hb_)
 clear HO17; have HO17 := n_; clear n_
 have n_ := Aside0.mk (Kd.S_below HO24.out hb_)
 clear HO24; have HO24 := n_; clear n_
 have n_ := Aside0.mk (Kd.R_below HO29.out hb_)
 clear HO29; have HO29 := n_; clear n_
 have n_ := Aside0.mk (Kd.R_below HO64.out hb_)
 clear HO64; have HO64 := n_; clear n_
 have n_ := Aside0.mk (HB.out.trans (hb_.mono HB.out.size)); clear HB; have HB := n_; clear n_
 have hs_ : w60.heap.size ≤ w67.heap.size := hb_.size
 have n_ := Aside0.mk (And.intro hs_ HZ.out); clear HZ; have HZ := n_; clear n_ hs_
 clear hb_
 obtain ⟨k69, e68⟩ := Ev.rounds (heldSpotS_ev r1 1 OR0.out (by decide) (by decide))
 have n_ := Aside0.mk e68; clear e68; have e68 := n_; clear n_
 have n_ := e68.out; rw [HEm48.out] at n_; clear e68; have e68 := Aside0.mk n_; clear n_
 go_wp2_with (fail)
 refine calls_of_args (args' := #[.slice A27 (mkSpotS r1 1).length c28, .int .i64 1]) (by simp only [mkSpotS_len r1 1]) ?_
 ((with_reducible refine (laws_heldSpotS.calls k69 A27 c28 (mkSpotS r1 1) 1 m48 _ (Kd.R_reads' HO29.out).2.2 (by have h_ := Kd.R_reads' HO29.out; have h1_ := h_.1; have h2_ := h_.2.1; omega) e68.out).mono ?_))
 rintro e w70 ⟨rfl, hd_⟩
 have hb_ := hd_.below; clear hd_
 have n_ := Aside0.mk (Kd.R_below HO17.out hb_)
 clear HO17; have HO17 := n_; clear n_
 have n_ := Aside0.mk (Kd.S_below HO24.out hb_)
 clear HO24; have HO24 := n_; clear n_
 have n_ := Aside0.mk (Kd.R_below HO29.out hb_)
 clear HO29; have HO29 := n_; clear n_
 have n_ := Aside0.mk (Kd.R_below HO64.out hb_)
 clear HO64; have HO64 := n_; clear n_
 have n_ := Aside0.mk (HB.out.trans (hb_.mono HB.out.size)); clear HB; have HB := n_; clear n_
 have hs_ : w67.heap.size ≤ w70.heap.size := hb_.size
 have n_ := Aside0.mk (And.intro hs_ HZ.out); clear HZ; have HZ := n_; clear n_ hs_
 clear hb_
 go_wp2
 go_ret
 exact ⟨rfl, HB.out⟩
end Go.Proofs.Ytobhjkpegcfdfaa.LwFnExactHotSpots
