/- The walk of the law FnExactDayBound: written by a program of this session. -/
import Derived.Test.YtebkgebibammiaaPureFnExactDayBound
import Derived.Test.YtebkgebibammiaaMkFnExactDayBound
namespace Go.Proofs.Ytebkgebibammiaa.LwFnExactDayBound
open Go.RowKit Go.Proofs.Ytebkgebibammiaa.PFnExactDayBound Go.Proofs.Ytebkgebibammiaa.Pure Go.Proofs.YtebkgebibammiaaW.PrintWords Go.Proofs.YtebkgebibammiaaW.PrintLast Go.Proofs.YtebkgebibammiaaW.PrintMore
set_option linter.unusedVariables false
set_option linter.unusedSimpArgs false
/- What Pure must hold: theorem core : ∀ (l0 : List (S77)) (l1 : List Int) (o0 : okUnitS l0) (w1 : l1.length ≤ maxLen ∧ ∀ x0 ∈ l1, (Lit.int .i64 x0).wf = true) (o1 : okInt64S l1), ∃ (r1 : Int) (r2 : Int), Ev (fun k => spec_DayBound.f k l0 l1) (r1, r2) ∧ Ev (fun k => impl_DayBound.f k l0 l1) (r1, r2) -/
set_option maxHeartbeats 8000000 in
set_option maxRecDepth 100000 in
theorem walk (A0 : Option Addr) (c0 : Nat) (l0 : List (S73)) (A1 : Option Addr) (c1 : Nat) (l1 : List Int) (w : World) (w0 : l0.length ≤ maxLen ∧ ∀ x0 ∈ l0, x0.f0.size ≤ maxLen ∧ (Lit.int .i64 x0.f1).wf = true ∧ (Lit.int .i64 x0.f2).wf = true ∧ (Lit.int .i64 x0.f3).wf = true ∧ (Lit.int .i64 x0.f4).wf = true ∧ (Lit.int .i64 x0.f5).wf = true ∧ (Lit.int .i64 x0.f6).wf = true) (w1 : l1.length ≤ maxLen ∧ ∀ x0 ∈ l1, (Lit.int .i64 x0).wf = true) (hr0 : Kd.C k73 w A0 l0.length l0) (hc0 : l0.length ≤ c0) (hr1 : Kd.C (Kd.int .i64) w A1 l1.length l1) (hc1 : l1.length ≤ c1) :
  Calls Try.prog 3 #[.slice A0 l0.length c0, .slice A1 l1.length c1] w fun e w' => e = .returned (.bool true) ∧ Below w.heap.size w w' := by
 have HR0 := Aside0.mk hr0
 have HC0 := Aside0.mk hc0
 clear hr0 hc0
 have HW0 := Aside0.mk w0
 clear w0
 have HR1 := Aside0.mk hr1
 have HC1 := Aside0.mk hc1
 clear hr1 hc1
 have HW1 := Aside0.mk w1
 clear w1
 have HB := Aside0.mk (Below.refl w.heap.size w)
 go_enter Try.func3, Try.ntmps3
 by_cases hg1 : l1.length ≤ 1048576
 rotate_left
 ·
  have hg1_ : decide ((1048576 : Int) < (l1.length : Int)) = true := decide_eq_true (by omega)
  have hg2_ : decide (1048576 < l1.length) = true := decide_eq_true (by omega)
  go_wp2
  go_ret
  exact ⟨rfl, HB.out⟩
 have hg1_ : decide ((1048576 : Int) < (l1.length : Int)) = false := decide_eq_false (by omega)
 have hg2_ : decide (1048576 < l1.length) = false := decide_eq_false (by omega)
 have O1 := Aside0.mk (hg1); clear hg1
 obtain ⟨z1, he_, hq_⟩ := szUnitS_evo l0 (1048576) HW0.out (by decide) (by decide)
 obtain ⟨k4, e3⟩ := Ev.rounds he_
 clear he_; have n_ := Aside0.mk e3; clear e3; have e3 := n_; clear n_
 have HQ0 := Aside0.mk hq_; clear hq_
 go_wp2_with (fail)
 ((with_reducible refine (laws_szUnitS.calls k4 A0 c0 l0 (1048576) z1 _ (Kd.C_below HR0.out HB.out) HC0.out e3.out).mono ?_))
 rintro e w5 ⟨rfl, hd_⟩
 have hb_ := hd_; clear hd_
 have n_ := Aside0.mk (HB.out.trans (hb_.mono HB.out.size)); clear HB; have HB := n_; clear n_
 have hs_ : w.heap.size ≤ w5.heap.size := hb_.size
 have HZ := Aside0.mk (And.intro hs_ True.intro); clear hs_
 clear hb_
 by_cases hn_ : z1 < 0
 ·
  have hd_ : decide (z1 < 0) = true := decide_eq_true hn_
  clear hn_
  go_wp2
  go_ret
  exact ⟨rfl, HB.out⟩
 have O0 : Aside0 (okUnitS (cvUnitS l0)) := ⟨(HQ0.out.resolve_left hn_).2.2⟩
 have HL0 : Aside0 (0 ≤ z1 ∧ z1 ≤ 1048576) := ⟨by have h_ := HQ0.out.resolve_left hn_; have h1_ : (1048576) ≤ 1048576 := (by decide); omega⟩
 have hd_ : decide (z1 < 0) = false := decide_eq_false hn_; clear hn_
 obtain ⟨r1, r2, es_, ei_⟩ := core (cvUnitS l0) l1 O0.out HW1.out O1.out
 obtain ⟨kES, h_⟩ := Ev.rounds es_; have ES := Aside0.mk h_; clear h_ es_
 obtain ⟨kEI, h_⟩ := Ev.rounds ei_; have EI := Aside0.mk h_; clear h_ ei_
 obtain ⟨k7, e6⟩ := Ev.rounds (toUnitS_evo l0 O0.out)
 have n_ := Aside0.mk e6; clear e6; have e6 := n_; clear n_
 go_wp2_with (fail)
 ((with_reducible refine (laws_toUnitS.calls k7 A0 c0 l0 (cvUnitS l0) _ (Kd.C_below HR0.out HB.out) HC0.out e6.out).mono ?_))
 rintro e w8 ⟨v9, rfl, ho0, hb_⟩
 obtain ⟨A10, c11, rfl⟩ := Kd.R_slice ho0
 have HO12 := Aside0.mk (Kd.R_lower (Kd.R_mono (ok' := Rng w5.heap.size w8.heap.size) (Kd.R_bound ho0) (fun k_ h_ => ⟨h_.2.1, h_.2.2.1⟩)) HB.out.size)
 clear ho0
 have n_ := Aside0.mk (HB.out.trans (hb_.mono HB.out.size)); clear HB; have HB := n_; clear n_
 have hs_ : w5.heap.size ≤ w8.heap.size := hb_.size
 have n_ := Aside0.mk (And.intro hs_ HZ.out); clear HZ; have HZ := n_; clear n_ hs_
 clear hb_
 obtain ⟨k14, e13⟩ := Ev.rounds (toInt64S_evo l1 O1.out)
 have n_ := Aside0.mk e13; clear e13; have e13 := n_; clear n_
 go_wp2_with (fail)
 ((with_reducible refine (laws_toInt64S.calls k14 A1 c1 l1 l1 _ (Kd.C_below HR1.out HB.out) HC1.out e13.out).mono ?_))
 rintro e w15 ⟨v16, rfl, ho0, hb_⟩
 obtain ⟨A17, c18, rfl⟩ := Kd.R_slice ho0
 have HO19 := Aside0.mk (Kd.R_lower (Kd.R_mono (ok' := Rng w8.heap.size w15.heap.size) (Kd.R_bound ho0) (fun k_ h_ => ⟨h_.2.1, h_.2.2.1⟩)) HB.out.size)
 clear ho0
 have n_ := Aside0.mk (Kd.R_below HO12.out hb_)
 clear HO12; have HO12 := n_; clear n_
 have n_ := Aside0.mk (HB.out.trans (hb_.mono HB.out.size)); clear HB; have HB := n_; clear n_
 have hs_ : w8.heap.size ≤ w15.heap.size := hb_.size
 have n_ := Aside0.mk (And.intro hs_ HZ.out); clear HZ; have HZ := n_; clear n_ hs_
 clear hb_
 go_wp2_with (fail)
 ((with_reducible refine (spec_DayBound.calls kES A10 c11 (cvUnitS l0) A17 c18 l1 r1 r2 _ (Kd.R_reads' HO12.out).2.2 (Kd.R_reads' HO12.out).2.1 (Kd.R_reads' HO19.out).2.2 (Kd.R_reads' HO19.out).2.1 ES.out).mono ?_))
 rintro e w20 ⟨rfl, hb_⟩
 have n_ := Aside0.mk (Kd.R_below HO12.out hb_)
 clear HO12; have HO12 := n_; clear n_
 have n_ := Aside0.mk (Kd.R_below HO19.out hb_)
 clear HO19; have HO19 := n_; clear n_
 have n_ := Aside0.mk (HB.out.trans (hb_.mono HB.out.size)); clear HB; have HB := n_; clear n_
 have hs_ : w15.heap.size ≤ w20.heap.size := hb_.size
 have n_ := Aside0.mk (And.intro hs_ HZ.out); clear HZ; have HZ := n_; clear n_ hs_
 clear hb_
 clear HO12
 clear HO19
 obtain ⟨k22, e21⟩ := Ev.rounds (toUnitS_evo l0 O0.out)
 have n_ := Aside0.mk e21; clear e21; have e21 := n_; clear n_
 go_wp2_with (fail)
 ((with_reducible refine (laws_toUnitS.calls k22 A0 c0 l0 (cvUnitS l0) _ (Kd.C_below HR0.out HB.out) HC0.out e21.out).mono ?_))
 rintro e w23 ⟨v24, rfl, ho0, hb_⟩
 obtain ⟨A25, c26, rfl⟩ := Kd.R_slice ho0
 have HO27 := Aside0.mk (Kd.R_lower (Kd.R_mono (ok' := Rng w20.heap.size w23.heap.size) (Kd.R_bound ho0) (fun k_ h_ => ⟨h_.2.1, h_.2.2.1⟩)) HB.out.size)
 clear ho0
 have n_ := Aside0.mk (HB.out.trans (hb_.mono HB.out.size)); clear HB; have HB := n_; clear n_
 have hs_ : w20.heap.size ≤ w23.heap.size := hb_.size
 have n_ := Aside0.mk (And.intro hs_ HZ.out); clear HZ; have HZ := n_; clear n_ hs_
 clear hb_
 obtain ⟨k29, e28⟩ := Ev.rounds (toInt64S_evo l1 O1.out)
 have n_ := Aside0.mk e28; clear e28; have e28 := n_; clear n_
 go_wp2_with (fail)
 ((with_reducible refine (laws_toInt64S.calls k29 A1 c1 l1 l1 _ (Kd.C_below HR1.out HB.out) HC1.out e28.out).mono ?_))
 rintro e w30 ⟨v31, rfl, ho0, hb_⟩
 obtain ⟨A32, c33, rfl⟩ := Kd.R_slice ho0
 have HO34 := Aside0.mk (Kd.R_lower (Kd.R_mono (ok' := Rng w23.heap.size w30.heap.size) (Kd.R_bound ho0) (fun k_ h_ => ⟨h_.2.1, h_.2.2.1⟩)) HB.out.size)
 clear ho0
 have n_ := Aside0.mk (Kd.R_below HO27.out hb_)
 clear HO27; have HO27 := n_; clear n_
 have n_ := Aside0.mk (HB.out.trans (hb_.mono HB.out.size)); clear HB; have HB := n_; clear n_
 have hs_ : w23.heap.size ≤ w30.heap.size := hb_.size
 have n_ := Aside0.mk (And.intro hs_ HZ.out); clear HZ; have HZ := n_; clear n_ hs_
 clear hb_
 go_wp2_with (fail)
 ((with_reducible refine (impl_DayBound.calls kEI A25 c26 (cvUnitS l0) A32 c33 l1 r1 r2 _ (Kd.R_reads' HO27.out).2.2 (Kd.R_reads' HO27.out).2.1 (Kd.R_reads' HO34.out).2.2 (Kd.R_reads' HO34.out).2.1 EI.out).mono ?_))
 rintro e w35 ⟨rfl, hb_⟩
 have n_ := Aside0.mk (Kd.R_below HO27.out hb_)
 clear HO27; have HO27 := n_; clear n_
 have n_ := Aside0.mk (Kd.R_below HO34.out hb_)
 clear HO34; have HO34 := n_; clear n_
 have n_ := Aside0.mk (HB.out.trans (hb_.mono HB.out.size)); clear HB; have HB := n_; clear n_
 have hs_ : w30.heap.size ≤ w35.heap.size := hb_.size
 have n_ := Aside0.mk (And.intro hs_ HZ.out); clear HZ; have HZ := n_; clear n_ hs_
 clear hb_
 obtain ⟨k37, e36⟩ := Ev.rounds (toUnitS_evo l0 O0.out)
 have n_ := Aside0.mk e36; clear e36; have e36 := n_; clear n_
 go_wp2_with (fail)
 ((with_reducible refine (laws_toUnitS.calls k37 A0 c0 l0 (cvUnitS l0) _ (Kd.C_below HR0.out HB.out) HC0.out e36.out).mono ?_))
 rintro e w38 ⟨v39, rfl, ho0, hb_⟩
 obtain ⟨A40, c41, rfl⟩ := Kd.R_slice ho0
 have HO42 := Aside0.mk (Kd.R_lower (Kd.R_mono (ok' := Rng w35.heap.size w38.heap.size) (Kd.R_bound ho0) (fun k_ h_ => ⟨h_.2.1, h_.2.2.1⟩)) HB.out.size)
 clear ho0
 have n_ := Aside0.mk (Kd.R_below HO27.out hb_)
 clear HO27; have HO27 := n_; clear n_
 have n_ := Aside0.mk (Kd.R_below HO34.out hb_)
 clear HO34; have HO34 := n_; clear n_
 have n_ := Aside0.mk (HB.out.trans (hb_.mono HB.out.size)); clear HB; have HB := n_; clear n_
 have hs_ : w35.heap.size ≤ w38.heap.size := hb_.size
 have n_ := Aside0.mk (And.intro hs_ HZ.out); clear HZ; have HZ := n_; clear n_ hs_
 clear hb_
 obtain ⟨k44, e43⟩ := Ev.rounds (eqUnitS_evo (cvUnitS l0) O0.out)
 have n_ := Aside0.mk e43; clear e43; have e43 := n_; clear n_
 go_wp2_with (fail)
 ((with_reducible refine (laws_eqUnitS.calls k44 A25 c26 (cvUnitS l0) A40 c41 (cvUnitS l0) true _ (Kd.R_reads' HO27.out).2.2 (Kd.R_reads' HO27.out).2.1 (Kd.R_reads' HO42.out).2.2 (Kd.R_reads' HO42.out).2.1 e43.out).mono ?_))
 rintro e w45 ⟨rfl, hd_⟩
 have hb_ := hd_; clear hd_
 have n_ := Aside0.mk (Kd.R_below HO27.out hb_)
 clear HO27; have HO27 := n_; clear n_
 have n_ := Aside0.mk (Kd.R_below HO34.out hb_)
 clear HO34; have HO34 := n_; clear n_
 have n_ := Aside0.mk (Kd.R_below HO42.out hb_)
 clear HO42; have HO42 := n_; clear n_
 have n_ := Aside0.mk (HB.out.trans (hb_.mono HB.out.size)); clear HB; have HB := n_; clear n_
 have hs_ : w38.heap.size ≤ w45.heap.size := hb_.size
 have n_ := Aside0.mk (And.intro hs_ HZ.out); clear HZ; have HZ := n_; clear n_ hs_
 clear hb_
 clear HO42
 obtain ⟨k47, e46⟩ := Ev.rounds (toInt64S_evo l1 O1.out)
 have n_ := Aside0.mk e46; clear e46; have e46 := n_; clear n_
 go_wp2_with (fail)
 ((with_reducible refine (laws_toInt64S.calls k47 A1 c1 l1 l1 _ (Kd.C_below HR1.out HB.out) HC1.out e46.out).mono ?_))
 rintro e w48 ⟨v49, rfl, ho0, hb_⟩
 obtain ⟨A50, c51, rfl⟩ := Kd.R_slice ho0
 have HO52 := Aside0.mk (Kd.R_lower (Kd.R_mono (ok' := Rng w45.heap.size w48.heap.size) (Kd.R_bound ho0) (fun k_ h_ => ⟨h_.2.1, h_.2.2.1⟩)) HB.out.size)
 clear ho0
 have n_ := Aside0.mk (Kd.R_below HO27.out hb_)
 clear HO27; have HO27 := n_; clear n_
 have n_ := Aside0.mk (Kd.R_below HO34.out hb_)
 clear HO34; have HO34 := n_; clear n_
 have n_ := Aside0.mk (HB.out.trans (hb_.mono HB.out.size)); clear HB; have HB := n_; clear n_
 have hs_ : w45.heap.size ≤ w48.heap.size := hb_.size
 have n_ := Aside0.mk (And.intro hs_ HZ.out); clear HZ; have HZ := n_; clear n_ hs_
 clear hb_
 obtain ⟨k54, e53⟩ := Ev.rounds (eqInt64S_evo l1 O1.out)
 have n_ := Aside0.mk e53; clear e53; have e53 := n_; clear n_
 go_wp2_with (fail)
 ((with_reducible refine (laws_eqInt64S.calls k54 A32 c33 l1 A50 c51 l1 true _ (Kd.R_reads' HO34.out).2.2 (Kd.R_reads' HO34.out).2.1 (Kd.R_reads' HO52.out).2.2 (Kd.R_reads' HO52.out).2.1 e53.out).mono ?_))
 rintro e w55 ⟨rfl, hd_⟩
 have hb_ := hd_.below; clear hd_
 have n_ := Aside0.mk (Kd.R_below HO27.out hb_)
 clear HO27; have HO27 := n_; clear n_
 have n_ := Aside0.mk (Kd.R_below HO34.out hb_)
 clear HO34; have HO34 := n_; clear n_
 have n_ := Aside0.mk (Kd.R_below HO52.out hb_)
 clear HO52; have HO52 := n_; clear n_
 have n_ := Aside0.mk (HB.out.trans (hb_.mono HB.out.size)); clear HB; have HB := n_; clear n_
 have hs_ : w48.heap.size ≤ w55.heap.size := hb_.size
 have n_ := Aside0.mk (And.intro hs_ HZ.out); clear HZ; have HZ := n_; clear n_ hs_
 clear hb_
 clear HO52
 go_wp2
 go_ret
 exact ⟨rfl, HB.out⟩
end Go.Proofs.Ytebkgebibammiaa.LwFnExactDayBound
