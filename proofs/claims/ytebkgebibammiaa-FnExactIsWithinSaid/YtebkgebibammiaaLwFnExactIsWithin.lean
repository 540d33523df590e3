/- The walk of the law FnExactIsWithin: written by a program of this session. -/
import Derived.Test.YtebkgebibammiaaPureFnExactIsWithin
import Derived.Test.YtebkgebibammiaaMkFnExactIsWithin
namespace Go.Proofs.Ytebkgebibammiaa.LwFnExactIsWithin
open Go.RowKit Go.Proofs.Ytebkgebibammiaa.PFnExactIsWithin Go.Proofs.Ytebkgebibammiaa.Pure Go.Proofs.YtebkgebibammiaaW.PrintWords Go.Proofs.YtebkgebibammiaaW.PrintLast Go.Proofs.YtebkgebibammiaaW.PrintMore
set_option linter.unusedVariables false
set_option linter.unusedSimpArgs false
/- What Pure must hold: theorem core : ∀ (l0 : List (S77)) (l1 : List (List Bool)) (l2 : List Int) (a3 : Int) (o0 : okUnitS l0) (w1 : l1.length ≤ maxLen ∧ ∀ x0 ∈ l1, x0.length ≤ maxLen) (o1 : okBoolSS l1) (w2 : l2.length ≤ maxLen ∧ ∀ x0 ∈ l2, (Lit.int .i64 x0).wf = true) (o2 : okInt64S l2) (w3 : (Lit.int .i64 a3).wf = true), ∃ (r1 : Bool), Ev (fun k => spec_IsWithin.f k l0 l1 l2 a3) r1 ∧ Ev (fun k => impl_IsWithin.f k l0 l1 l2 a3) r1 -/
set_option maxHeartbeats 8000000 in
set_option maxRecDepth 100000 in
theorem walk (A0 : Option Addr) (c0 : Nat) (l0 : List (S73)) (A1 : Option Addr) (c1 : Nat) (l1 : List (List Bool)) (A2 : Option Addr) (c2 : Nat) (l2 : List Int) (a3 : Int) (w : World) (w0 : l0.length ≤ maxLen ∧ ∀ x0 ∈ l0, x0.f0.size ≤ maxLen ∧ (Lit.int .i64 x0.f1).wf = true ∧ (Lit.int .i64 x0.f2).wf = true ∧ (Lit.int .i64 x0.f3).wf = true ∧ (Lit.int .i64 x0.f4).wf = true ∧ (Lit.int .i64 x0.f5).wf = true ∧ (Lit.int .i64 x0.f6).wf = true) (w1 : l1.length ≤ maxLen ∧ ∀ x0 ∈ l1, x0.length ≤ maxLen) (w2 : l2.length ≤ maxLen ∧ ∀ x0 ∈ l2, (Lit.int .i64 x0).wf = true) (w3 : (Lit.int .i64 a3).wf = true) (hr0 : Kd.C k73 w A0 l0.length l0) (hc0 : l0.length ≤ c0) (hr1 : Kd.C (Kd.slice 4 Kd.bool) w A1 l1.length l1) (hc1 : l1.length ≤ c1) (hr2 : Kd.C (Kd.int .i64) w A2 l2.length l2) (hc2 : l2.length ≤ c2) :
  Calls Try.prog 11 #[.slice A0 l0.length c0, .slice A1 l1.length c1, .slice A2 l2.length c2, .int .i64 a3] w fun e w' => e = .returned (.bool true) ∧ Below w.heap.size w w' := by
 have HR0 := Aside0.mk hr0
 have HC0 := Aside0.mk hc0
 clear hr0 hc0
 have HW0 := Aside0.mk w0
 clear w0
 have HR1 := Aside0.mk hr1
 have HC1 := Aside0.mk hc1
 clear hr1 hc1
 have HW1 := Aside0.mk w1
 clear w1
 have HR2 := Aside0.mk hr2
 have HC2 := Aside0.mk hc2
 clear hr2 hc2
 have HW2 := Aside0.mk w2
 clear w2
 have HW3 := Aside0.mk w3
 clear w3
 have HB := Aside0.mk (Below.refl w.heap.size w)
 go_enter Try.func11, Try.ntmps11
 by_cases hg2 : l2.length ≤ 1048576
 rotate_left
 ·
  have hg1_ : decide ((1048576 : Int) < (l2.length : Int)) = true := decide_eq_true (by omega)
  have hg2_ : decide (1048576 < l2.length) = true := decide_eq_true (by omega)
  go_wp2
  go_ret
  exact ⟨rfl, HB.out⟩
 have hg1_ : decide ((1048576 : Int) < (l2.length : Int)) = false := decide_eq_false (by omega)
 have hg2_ : decide (1048576 < l2.length) = false := decide_eq_false (by omega)
 have O2 : Aside0 (okInt64S l2) := Aside0.mk hg2; clear hg2
 obtain ⟨z1, he_, hq_⟩ := szUnitS_evo l0 (1048576) HW0.out (by decide) (by decide)
 obtain ⟨k4, e3⟩ := Ev.rounds he_
 clear he_; have n_ := Aside0.mk e3; clear e3; have e3 := n_; clear n_
 have HQ0 := Aside0.mk hq_; clear hq_
 go_wp2_with (fail)
 ((with_reducible refine (laws_szUnitS.calls k4 A0 c0 l0 (1048576) z1 _ (Kd.C_below HR0.out HB.out) HC0.out e3.out).mono ?_))
 rintro e w5 ⟨rfl, hd_⟩
 have hb_ := hd_; clear hd_
 have n_ := Aside0.mk (HB.out.trans (hb_.mono HB.out.size)); clear HB; have HB := n_; clear n_
 have hs_ : w.heap.size ≤ w5.heap.size := hb_.size
 have HZ := Aside0.mk (And.intro hs_ True.intro); clear hs_
 clear hb_
 by_cases hn_ : z1 < 0
 ·
  have hd_ : decide (z1 < 0) = true := decide_eq_true hn_
  clear hn_
  go_wp2
  go_ret
  exact ⟨rfl, HB.out⟩
 have O0 : Aside0 (okUnitS (cvUnitS l0)) := ⟨(HQ0.out.resolve_left hn_).2.2⟩
 have HL0 : Aside0 (0 ≤ z1 ∧ z1 ≤ 1048576) := ⟨by have h_ := HQ0.out.resolve_left hn_; have h1_ : (1048576) ≤ 1048576 := (by decide); omega⟩
 have hd_ : decide (z1 < 0) = false := decide_eq_false hn_; clear hn_
 obtain ⟨z6, he_, hq_⟩ := szBoolSS_evo l1 z1 HW1.out HL0.out.1 HL0.out.2
 obtain ⟨k9, e8⟩ := Ev.rounds he_
 clear he_; have n_ := Aside0.mk e8; clear e8; have e8 := n_; clear n_
 have HQ1 := Aside0.mk hq_; clear hq_
 go_wp2_with (fail)
 ((with_reducible refine (laws_szBoolSS.calls k9 A1 c1 l1 z1 z6 _ (Kd.C_below HR1.out HB.out) HC1.out e8.out).mono ?_))
 rintro e w10 ⟨rfl, hd_⟩
 have hb_ := hd_.below; clear hd_
 have n_ := Aside0.mk (HB.out.trans (hb_.mono HB.out.size)); clear HB; have HB := n_; clear n_
 have hs_ : w5.heap.size ≤ w10.heap.size := hb_.size
 have n_ := Aside0.mk (And.intro hs_ HZ.out); clear HZ; have HZ := n_; clear n_ hs_
 clear hb_
 by_cases hn_ : z6 < 0
 ·
  have hd_ : decide (z6 < 0) = true := decide_eq_true hn_
  clear hn_
  go_wp2
  go_ret
  exact ⟨rfl, HB.out⟩
 have O1 : Aside0 (okBoolSS l1) := ⟨(HQ1.out.resolve_left hn_).2.2⟩
 have HL1 : Aside0 (0 ≤ z6 ∧ z6 ≤ 1048576) := ⟨by have h_ := HQ1.out.resolve_left hn_; have h1_ : z1 ≤ 1048576 := HL0.out.2; omega⟩
 have hd_ : decide (z6 < 0) = false := decide_eq_false hn_; clear hn_
 obtain ⟨r1, es_, ei_⟩ := core (cvUnitS l0) l1 l2 a3 O0.out HW1.out O1.out HW2.out O2.out HW3.out
 obtain ⟨kES, h_⟩ := Ev.rounds es_; have ES := Aside0.mk h_; clear h_ es_
 obtain ⟨kEI, h_⟩ := Ev.rounds ei_; have EI := Aside0.mk h_; clear h_ ei_
 obtain ⟨k12, e11⟩ := Ev.rounds (toUnitS_evo l0 O0.out)
 have n_ := Aside0.mk e11; clear e11; have e11 := n_; clear n_
 go_wp2_with (fail)
 ((with_reducible refine (laws_toUnitS.calls k12 A0 c0 l0 (cvUnitS l0) _ (Kd.C_below HR0.out HB.out) HC0.out e11.out).mono ?_))
 rintro e w13 ⟨v14, rfl, ho0, hb_⟩
 obtain ⟨A15, c16, rfl⟩ := Kd.R_slice ho0
 have HO17 := Aside0.mk (Kd.R_lower (Kd.R_mono (ok' := Rng w10.heap.size w13.heap.size) (Kd.R_bound ho0) (fun k_ h_ => ⟨h_.2.1, h_.2.2.1⟩)) HB.out.size)
 clear ho0
 have n_ := Aside0.mk (HB.out.trans (hb_.mono HB.out.size)); clear HB; have HB := n_; clear n_
 have hs_ : w10.heap.size ≤ w13.heap.size := hb_.size
 have n_ := Aside0.mk (And.intro hs_ HZ.out); clear HZ; have HZ := n_; clear n_ hs_
 clear hb_
 obtain ⟨k19, e18⟩ := Ev.rounds (toBoolSS_evo l1 O1.out)
 have n_ := Aside0.mk e18; clear e18; have e18 := n_; clear n_
 go_wp2_with (fail)
 ((with_reducible refine (laws_toBoolSS.calls k19 A1 c1 l1 l1 _ (Kd.C_below HR1.out HB.out) HC1.out e18.out).mono ?_))
 rintro e w20 ⟨v21, rfl, ho0, hb_⟩
 obtain ⟨A22, c23, rfl⟩ := Kd.S_slice ho0
 have HO24 := Aside0.mk (Kd.S_lower (Kd.S_mono (ok' := Rng w13.heap.size w20.heap.size) (Kd.S_bound ho0) (fun k_ h_ => ⟨h_.2.1, h_.2.2.1⟩)) HB.out.size)
 clear ho0
 have n_ := Aside0.mk (Kd.R_below HO17.out hb_)
 clear HO17; have HO17 := n_; clear n_
 have n_ := Aside0.mk (HB.out.trans (hb_.mono HB.out.size)); clear HB; have HB := n_; clear n_
 have hs_ : w13.heap.size ≤ w20.heap.size := hb_.size
 have n_ := Aside0.mk (And.intro hs_ HZ.out); clear HZ; have HZ := n_; clear n_ hs_
 clear hb_
 obtain ⟨k26, e25⟩ := Ev.rounds (toInt64S_evo l2 O2.out)
 have n_ := Aside0.mk e25; clear e25; have e25 := n_; clear n_
 go_wp2_with (fail)
 ((with_reducible refine (laws_toInt64S.calls k26 A2 c2 l2 l2 _ (Kd.C_below HR2.out HB.out) HC2.out e25.out).mono ?_))
 rintro e w27 ⟨v28, rfl, ho0, hb_⟩
 obtain ⟨A29, c30, rfl⟩ := Kd.R_slice ho0
 have HO31 := Aside0.mk (Kd.R_lower (Kd.R_mono (ok' := Rng w20.heap.size w27.heap.size) (Kd.R_bound ho0) (fun k_ h_ => ⟨h_.2.1, h_.2.2.1⟩)) HB.out.size)
 clear ho0
 have n_ := Aside0.mk (Kd.R_below HO17.out hb_)
 clear HO17; have HO17 := n_; clear n_
 have n_ := Aside0.mk (Kd.S_below HO24.out hb_)
 clear HO24; have HO24 := n_; clear n_
 have n_ := Aside0.mk (HB.out.trans (hb_.mono HB.out.size)); clear HB; have HB := n_; clear n_
 have hs_ : w20.heap.size ≤ w27.heap.size := hb_.size
 have n_ := Aside0.mk (And.intro hs_ HZ.out); clear HZ; have HZ := n_; clear n_ hs_
 clear hb_
 go_wp2_with (fail)
 ((with_reducible refine (spec_IsWithin.calls kES A15 c16 (cvUnitS l0) A22 c23 l1 A29 c30 l2 a3 r1 _ (Kd.R_reads' HO17.out).2.2 (Kd.R_reads' HO17.out).2.1 (Kd.S_reads' HO24.out).2.2 (Kd.S_reads' HO24.out).2.1 (Kd.R_reads' HO31.out).2.2 (Kd.R_reads' HO31.out).2.1 ES.out).mono ?_))
 rintro e w32 ⟨rfl, hb_⟩
 have n_ := Aside0.mk (Kd.R_below HO17.out hb_)
 clear HO17; have HO17 := n_; clear n_
 have n_ := Aside0.mk (Kd.S_below HO24.out hb_)
 clear HO24; have HO24 := n_; clear n_
 have n_ := Aside0.mk (Kd.R_below HO31.out hb_)
 clear HO31; have HO31 := n_; clear n_
 have n_ := Aside0.mk (HB.out.trans (hb_.mono HB.out.size)); clear HB; have HB := n_; clear n_
 have hs_ : w27.heap.size ≤ w32.heap.size := hb_.size
 have n_ := Aside0.mk (And.intro hs_ HZ.out); clear HZ; have HZ := n_; clear n_ hs_
 clear hb_
 clear HO17
 clear HO24
 clear HO31
 obtain ⟨k34, e33⟩ := Ev.rounds (toUnitS_evo l0 O0.out)
 have n_ := Aside0.mk e33; clear e33; have e33 := n_; clear n_
 go_wp2_with (fail)
 ((with_reducible refine (laws_toUnitS.calls k34 A0 c0 l0 (cvUnitS l0) _ (Kd.C_below HR0.out HB.out) HC0.out e33.out).mono ?_))
 rintro e w35 ⟨v36, rfl, ho0, hb_⟩
 obtain ⟨A37, c38, rfl⟩ := Kd.R_slice ho0
 have HO39 := Aside0.mk (Kd.R_lower (Kd.R_mono (ok' := Rng w32.heap.size w35.heap.size) (Kd.R_bound ho0) (fun k_ h_ => ⟨h_.2.1, h_.2.2.1⟩)) HB.out.size)
 clear ho0
 have n_ := Aside0.mk (HB.out.trans (hb_.mono HB.out.size)); clear HB; have HB := n_; clear n_
 have hs_ : w32.heap.size ≤ w35.heap.size := hb_.size
 have n_ := Aside0.mk (And.intro hs_ HZ.out); clear HZ; have HZ := n_; clear n_ hs_
 clear hb_
 obtain ⟨k41, e40⟩ := Ev.rounds (toBoolSS_evo l1 O1.out)
 have n_ := Aside0.mk e40; clear e40; have e40 := n_; clear n_
 go_wp2_with (fail)
 ((with_reducible refine (laws_toBoolSS.calls k41 A1 c1 l1 l1 _ (Kd.C_below HR1.out HB.out) HC1.out e40.out).mono ?_))
 rintro e w42 ⟨v43, rfl, ho0, hb_⟩
 obtain ⟨A44, c45, rfl⟩ := Kd.S_slice ho0
 have HO46 := Aside0.mk (Kd.S_lower (Kd.S_mono (ok' := Rng w35.heap.size w42.heap.size) (Kd.S_bound ho0) (fun k_ h_ => ⟨h_.2.1, h_.2.2.1⟩)) HB.out.size)
 clear ho0
 have n_ := Aside0.mk (Kd.R_below HO39.out hb_)
 clear HO39; have HO39 := n_; clear n_
 have n_ := Aside0.mk (HB.out.trans (hb_.mono HB.out.size)); clear HB; have HB := n_; clear n_
 have hs_ : w35.heap.size ≤ w42.heap.size := hb_.size
 have n_ := Aside0.mk (And.intro hs_ HZ.out); clear HZ; have HZ := n_; clear n_ hs_
 clear hb_
 obtain ⟨k48, e47⟩ := Ev.rounds (toInt64S_evo l2 O2.out)
 have n_ := Aside0.mk e47; clear e47; have e47 := n_; clear n_
 go_wp2_with (fail)
 ((with_reducible refine (laws_toInt64S.calls k48 A2 c2 l2 l2 _ (Kd.C_below HR2.out HB.out) HC2.out e47.out).mono ?_))
 rintro e w49 ⟨v50, rfl, ho0, hb_⟩
 obtain ⟨A51, c52, rfl⟩ := Kd.R_slice ho0
 have HO53 := Aside0.mk (Kd.R_lower (Kd.R_mono (ok' := Rng w42.heap.size w49.heap.size) (Kd.R_bound ho0) (fun k_ h_ => ⟨h_.2.1, h_.2.2.1⟩)) HB.out.size)
 clear ho0
 have n_ := Aside0.mk (Kd.R_below HO39.out hb_)
 clear HO39; have HO39 := n_; clear n_
 have n_ := Aside0.mk (Kd.S_below HO46.out hb_)
 clear HO46; have HO46 := n_; clear n_
 have n_ := Aside0.mk (HB.out.trans (hb_.mono HB.out.size)); clear HB; have HB := n_; clear n_
 have hs_ : w42.heap.size ≤ w49.heap.size := hb_.size
 have n_ := Aside0.mk (And.intro hs_ HZ.out); clear HZ; have HZ := n_; clear n_ hs_
 clear hb_
 go_wp2_with (fail)
 ((with_reducible refine (impl_IsWithin.calls kEI A37 c38 (cvUnitS l0) A44 c45 l1 A51 c52 l2 a3 r1 _ (Kd.R_reads' HO39.out).2.2 (Kd.R_reads' HO39.out).2.1 (Kd.S_reads' HO46.out).2.2 (Kd.S_reads' HO46.out).2.1 (Kd.R_reads' HO53.out).2.2 (Kd.R_reads' HO53.out).2.1 EI.out).mono ?_))
 rintro e w54 ⟨rfl, hb_⟩
 have n_ := Aside0.mk (Kd.R_below HO39.out hb_)
 clear HO39; have HO39 := n_; clear n_
 have n_ := Aside0.mk (Kd.S_below HO46.out hb_)
 clear HO46; have HO46 := n_; clear n_
 have n_ := Aside0.mk (Kd.R_below HO53.out hb_)
 clear HO53; have HO53 := n_; clear n_
 have n_ := Aside0.mk (HB.out.trans (hb_.mono HB.out.size)); clear HB; have HB := n_; clear n_
 have hs_ : w49.heap.size ≤ w54.heap.size := hb_.size
 have n_ := Aside0.mk (And.intro hs_ HZ.out); clear HZ; have HZ := n_; clear n_ hs_
 clear hb_
 obtain ⟨k56, e55⟩ := Ev.rounds (toUnitS_evo l0 O0.out)
 have n_ := Aside0.mk e55; clear e55; have e55 := n_; clear n_
 go_wp2_with (fail)
 ((with_reducible refine (laws_toUnitS.calls k56 A0 c0 l0 (cvUnitS l0) _ (Kd.C_below HR0.out HB.out) HC0.out e55.out).mono ?_))
 rintro e w57 ⟨v58, rfl, ho0, hb_⟩
 obtain ⟨A59, c60, rfl⟩ := Kd.R_slice ho0
 have HO61 := Aside0.mk (Kd.R_lower (Kd.R_mono (ok' := Rng w54.heap.size w57.heap.size) (Kd.R_bound ho0) (fun k_ h_ => ⟨h_.2.1, h_.2.2.1⟩)) HB.out.size)
 clear ho0
 have n_ := Aside0.mk (Kd.R_below HO39.out hb_)
 clear HO39; have HO39 := n_; clear n_
 have n_ := Aside0.mk (Kd.S_below HO46.out hb_)
 clear HO46; have HO46 := n_; clear n_
 have n_ := Aside0.mk (Kd.R_below HO53.out hb_)
 clear HO53; have HO53 := n_; clear n_
 have n_ := Aside0.mk (HB.out.trans (hb_.mono HB.out.size)); clear HB; have HB := n_; clear n_
 have hs_ : w54.heap.size ≤ w57.heap.size := hb_.size
 have n_ := Aside0.mk (And.intro hs_ HZ.out); clear HZ; have HZ := n_; clear n_ hs_
 clear hb_
 obtain ⟨k63, e62⟩ := Ev.rounds (eqUnitS_evo (cvUnitS l0) O0.out)
 have n_ := Aside0.mk e62; clear e62; have e62 := n_; clear n_
 go_wp2_with (fail)
 ((with_reducible refine (laws_eqUnitS.calls k63 A37 c38 (cvUnitS l0) A59 c60 (cvUnitS l0) true _ (Kd.R_reads' HO39.out).2.2 (Kd.R_reads' HO39.out).2.1 (Kd.R_reads' HO61.out).2.2 (Kd.R_reads' HO61.out).2.1 e62.out).mono ?_))
 rintro e w64 ⟨rfl, hd_⟩
 have hb_ := hd_; clear hd_
 have n_ := Aside0.mk (Kd.R_below HO39.out hb_)
 clear HO39; have HO39 := n_; clear n_
 have n_ := Aside0.mk (Kd.S_below HO46.out hb_)
 clear HO46; have HO46 := n_; clear n_
 have n_ := Aside0.mk (Kd.R_below HO53.out hb_)
 clear HO53; have HO53 := n_; clear n_
 have n_ := Aside0.mk (Kd.R_below HO61.out hb_)
 clear HO61; have HO61 := n_; clear n_
 have n_ := Aside0.mk (HB.out.trans (hb_.mono HB.out.size)); clear HB; have HB := n_; clear n_
 have hs_ : w57.heap.size ≤ w64.heap.size := hb_.size
 have n_ := Aside0.mk (And.intro hs_ HZ.out); clear HZ; have HZ := n_; clear n_ hs_
 clear hb_
 clear HO61
 obtain ⟨k66, e65⟩ := Ev.rounds (toBoolSS_evo l1 O1.out)
 have n_ := Aside0.mk e65; clear e65; have e65 := n_; clear n_
 go_wp2_with (fail)
 ((with_reducible refine (laws_toBoolSS.calls k66 A1 c1 l1 l1 _ (Kd.C_below HR1.out HB.out) HC1.out e65.out).mono ?_))
 rintro e w67 ⟨v68, rfl, ho0, hb_⟩
 obtain ⟨A69, c70, rfl⟩ := Kd.S_slice ho0
 have HO71 := Aside0.mk (Kd.S_lower (Kd.S_mono (ok' := Rng w64.heap.size w67.heap.size) (Kd.S_bound ho0) (fun k_ h_ => ⟨h_.2.1, h_.2.2.1⟩)) HB.out.size)
 clear ho0
 have n_ := Aside0.mk (Kd.R_below HO39.out hb_)
 clear HO39; have HO39 := n_; clear n_
 have n_ := Aside0.mk (Kd.S_below HO46.out hb_)
 clear HO46; have HO46 := n_; clear n_
 have n_ := Aside0.mk (Kd.R_below HO53.out hb_)
 clear HO53; have HO53 := n_; clear n_
 have n_ := Aside0.mk (HB.out.trans (hb_.mono HB.out.size)); clear HB; have HB := n_; clear n_
 have hs_ : w64.heap.size ≤ w67.heap.size := hb_.size
 have n_ := Aside0.mk (And.intro hs_ HZ.out); clear HZ; have HZ := n_; clear n_ hs_
 clear hb_
 obtain ⟨k73, e72⟩ := Ev.rounds (eqBoolSS_evo l1 O1.out)
 have n_ := Aside0.mk e72; clear e72; have e72 := n_; clear n_
 go_wp2_with (fail)
 ((with_reducible refine (laws_eqBoolSS.calls k73 A44 c45 l1 A69 c70 l1 true _ (Kd.S_reads' HO46.out).2.2 (Kd.S_reads' HO46.out).2.1 (Kd.S_reads' HO71.out).2.2 (Kd.S_reads' HO71.out).2.1 e72.out).mono ?_))
 rintro e w74 ⟨rfl, hd_⟩
 have hb_ := hd_.below; clear hd_
 have n_ := Aside0.mk (Kd.R_below HO39.out hb_)
 clear HO39; have HO39 := n_; clear n_
 have n_ := Aside0.mk (Kd.S_below HO46.out hb_)
 clear HO46; have HO46 := n_; clear n_
 have n_ := Aside0.mk (Kd.R_below HO53.out hb_)
 clear HO53; have HO53 := n_; clear n_
 have n_ := Aside0.mk (Kd.S_below HO71.out hb_)
 clear HO71; have HO71 := n_; clear n_
 have n_ := Aside0.mk (HB.out.trans (hb_.mono HB.out.size)); clear HB; have HB := n_; clear n_
 have hs_ : w67.heap.size ≤ w74.heap.size := hb_.size
 have n_ := Aside0.mk (And.intro hs_ HZ.out); clear HZ; have HZ := n_; clear n_ hs_
 clear hb_
 clear HO71
 obtain ⟨k76, e75⟩ := Ev.rounds (toInt64S_evo l2 O2.out)
 have n_ := Aside0.mk e75; clear e75; have e75 := n_; clear n_
 go_wp2_with (fail)
 ((with_reducible refine (laws_toInt64S.calls k76 A2 c2 l2 l2 _ (Kd.C_below HR2.out HB.out) HC2.out e75.out).mono ?_))
 rintro e w77 ⟨v78, rfl, ho0, hb_⟩
 obtain ⟨A79, c80, rfl⟩ := Kd.R_slice ho0
 have HO81 := Aside0.mk (Kd.R_lower (Kd.R_mono (ok' := Rng w74.heap.size w77.heap.size) (Kd.R_bound ho0) (fun k_ h_ => ⟨h_.2.1, h_.2.2.1⟩)) HB.out.size)
 clear ho0
 have n_ := Aside0.mk (Kd.R_below HO39.out hb_)
 clear HO39; have HO39 := n_; clear n_
 have n_ := Aside0.mk (Kd.S_below HO46.out hb_)
 clear HO46; have HO46 := n_; clear n_
 have n_ := Aside0.mk (Kd.R_below HO53.out hb_)
 clear HO53; have HO53 := n_; clear n_
 have n_ := Aside0.mk (HB.out.trans (hb_.mono HB.out.size)); clear HB; have HB := n_; clear n_
 have hs_ : w74.heap.size ≤ w77.heap.size := hb_.size
 have n_ := Aside0.mk (And.intro hs_ HZ.out); clear HZ; have HZ := n_; clear n_ hs_
 clear hb_
 obtain ⟨k83, e82⟩ := Ev.rounds (eqInt64S_evo l2 O2.out)
 have n_ := Aside0.mk e82; clear e82; have e82 := n_; clear n_
 go_wp2_with (fail)
 ((with_reducible refine (laws_eqInt64S.calls k83 A51 c52 l2 A79 c80 l2 true _ (Kd.R_reads' HO53.out).2.2 (Kd.R_reads' HO53.out).2.1 (Kd.R_reads' HO81.out).2.2 (Kd.R_reads' HO81.out).2.1 e82.out).mono ?_))
 rintro e w84 ⟨rfl, hd_⟩
 have hb_ := hd_.below; clear hd_
 have n_ := Aside0.mk (Kd.R_below HO39.out hb_)
 clear HO39; have HO39 := n_; clear n_
 have n_ := Aside0.mk (Kd.S_below HO46.out hb_)
 clear HO46; have HO46 := n_; clear n_
 have n_ := Aside0.mk (Kd.R_below HO53.out hb_)
 clear HO53; have HO53 := n_; clear n_
 have n_ := Aside0.mk (Kd.R_below HO81.out hb_)
 clear HO81; have HO81 := n_; clear n_
 have n_ := Aside0.mk (HB.out.trans (hb_.mono HB.out.size)); clear HB; have HB := n_; clear n_
 have hs_ : w77.heap.size ≤ w84.heap.size := hb_.size
 have n_ := Aside0.mk (And.intro hs_ HZ.out); clear HZ; have HZ := n_; clear n_ hs_
 clear hb_
 clear HO81
 go_wp2
 go_ret
 exact ⟨rfl, HB.out⟩
end Go.Proofs.Ytebkgebibammiaa.LwFnExactIsWithin
