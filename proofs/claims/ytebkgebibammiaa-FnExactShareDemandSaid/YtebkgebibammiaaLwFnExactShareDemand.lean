/- The walk of the law FnExactShareDemand: written by a program of this session. -/
import Derived.Test.YtebkgebibammiaaPureFnExactShareDemand
import Derived.Test.YtebkgebibammiaaMkFnExactShareDemand
namespace Go.Proofs.Ytebkgebibammiaa.LwFnExactShareDemand
open Go.RowKit Go.Proofs.Ytebkgebibammiaa.PFnExactShareDemand Go.Proofs.Ytebkgebibammiaa.Pure Go.Proofs.YtebkgebibammiaaW.PrintWords Go.Proofs.YtebkgebibammiaaW.PrintLast Go.Proofs.YtebkgebibammiaaW.PrintMore
set_option linter.unusedVariables false
set_option linter.unusedSimpArgs false
/- What Pure must hold: theorem core : ∀ (l0 : List (S77)) (l1 : List Bool) (a2 : Int) (o0 : okUnitS l0) (w1 : l1.length ≤ maxLen) (o1 : okBoolS l1) (w2 : (Lit.int .i64 a2).wf = true), ∃ (r1 : List Int) (r2 : Int) (r3 : Int), Ev (fun k => spec_ShareDemand.f k l0 l1 a2) (r1, r2, r3) ∧ Ev (fun k => impl_ShareDemand.f k l0 l1 a2) (r1, r2, r3) ∧ okInt64S r1 -/
set_option maxHeartbeats 8000000 in
set_option maxRecDepth 100000 in
theorem walk (A0 : Option Addr) (c0 : Nat) (l0 : List (S73)) (A1 : Option Addr) (c1 : Nat) (l1 : List Bool) (a2 : Int) (w : World) (w0 : l0.length ≤ maxLen ∧ ∀ x0 ∈ l0, x0.f0.size ≤ maxLen ∧ (Lit.int .i64 x0.f1).wf = true ∧ (Lit.int .i64 x0.f2).wf = true ∧ (Lit.int .i64 x0.f3).wf = true ∧ (Lit.int .i64 x0.f4).wf = true ∧ (Lit.int .i64 x0.f5).wf = true ∧ (Lit.int .i64 x0.f6).wf = true) (w1 : l1.length ≤ maxLen) (w2 : (Lit.int .i64 a2).wf = true) (hr0 : Kd.C k73 w A0 l0.length l0) (hc0 : l0.length ≤ c0) (hr1 : Kd.C Kd.bool w A1 l1.length l1) (hc1 : l1.length ≤ c1) :
  Calls Try.prog 4 #[.slice A0 l0.length c0, .slice A1 l1.length c1, .int .i64 a2] w fun e w' => e = .returned (.bool true) ∧ Below w.heap.size w w' := by
 have HR0 := Aside0.mk hr0
 have HC0 := Aside0.mk hc0
 clear hr0 hc0
 have HW0 := Aside0.mk w0
 clear w0
 have HR1 := Aside0.mk hr1
 have HC1 := Aside0.mk hc1
 clear hr1 hc1
 have HW1 := Aside0.mk w1
 clear w1
 have HW2 := Aside0.mk w2
 clear w2
 have HB := Aside0.mk (Below.refl w.heap.size w)
 go_enter Try.func4, Try.ntmps4
 by_cases hg1 : l1.length ≤ 1048576
 rotate_left
 ·
  have hg1_ : decide ((1048576 : Int) < (l1.length : Int)) = true := decide_eq_true (by omega)
  have hg2_ : decide (1048576 < l1.length) = true := decide_eq_true (by omega)
  go_wp2
  go_ret
  exact ⟨rfl, HB.out⟩
 have hg1_ : decide ((1048576 : Int) < (l1.length : Int)) = false := decide_eq_false (by omega)
 have hg2_ : decide (1048576 < l1.length) = false := decide_eq_false (by omega)
 have O1 : Aside0 (okBoolS l1) := Aside0.mk hg1; clear hg1
 obtain ⟨z1, he_, hq_⟩ := szUnitS_evo l0 (1048576) HW0.out (by decide) (by decide)
 obtain ⟨k4, e3⟩ := Ev.rounds he_
 clear he_; have n_ := Aside0.mk e3; clear e3; have e3 := n_; clear n_
 have HQ0 := Aside0.mk hq_; clear hq_
 go_wp2_with (fail)
 ((with_reducible refine (laws_szUnitS.calls k4 A0 c0 l0 (1048576) z1 _ (Kd.C_below HR0.out HB.out) HC0.out e3.out).mono ?_))
 rintro e w5 ⟨rfl, hd_⟩
 have hb_ := hd_; clear hd_
 have n_ := Aside0.mk (HB.out.trans (hb_.mono HB.out.size)); clear HB; have HB := n_; clear n_
 have hs_ : w.heap.size ≤ w5.heap.size := hb_.size
 have HZ := Aside0.mk (And.intro hs_ True.intro); clear hs_
 clear hb_
 by_cases hn_ : z1 < 0
 ·
  have hd_ : decide (z1 < 0) = true := decide_eq_true hn_
  clear hn_
  go_wp2
  go_ret
  exact ⟨rfl, HB.out⟩
 have O0 : Aside0 (okUnitS (cvUnitS l0)) := ⟨(HQ0.out.resolve_left hn_).2.2⟩
 have HL0 : Aside0 (0 ≤ z1 ∧ z1 ≤ 1048576) := ⟨by have h_ := HQ0.out.resolve_left hn_; have h1_ : (1048576) ≤ 1048576 := (by decide); omega⟩
 have hd_ : decide (z1 < 0) = false := decide_eq_false hn_; clear hn_
 obtain ⟨r1, r2, r3, es_, ei_, ok0_⟩ := core (cvUnitS l0) l1 a2 O0.out HW1.out O1.out HW2.out
 obtain ⟨kES, h_⟩ := Ev.rounds es_; have ES := Aside0.mk h_; clear h_ es_
 obtain ⟨kEI, h_⟩ := Ev.rounds ei_; have EI := Aside0.mk h_; clear h_ ei_
 have OR0 := Aside0.mk ok0_; clear ok0_
 obtain ⟨k7, e6⟩ := Ev.rounds (toUnitS_evo l0 O0.out)
 have n_ := Aside0.mk e6; clear e6; have e6 := n_; clear n_
 go_wp2_with (fail)
 ((with_reducible refine (laws_toUnitS.calls k7 A0 c0 l0 (cvUnitS l0) _ (Kd.C_below HR0.out HB.out) HC0.out e6.out).mono ?_))
 rintro e w8 ⟨v9, rfl, ho0, hb_⟩
 obtain ⟨A10, c11, rfl⟩ := Kd.R_slice ho0
 have HO12 := Aside0.mk (Kd.R_lower (Kd.R_mono (ok' := Rng w5.heap.size w8.heap.size) (Kd.R_bound ho0) (fun k_ h_ => ⟨h_.2.1, h_.2.2.1⟩)) HB.out.size)
 clear ho0
 have n_ := Aside0.mk (HB.out.trans (hb_.mono HB.out.size)); clear HB; have HB := n_; clear n_
 have hs_ : w5.heap.size ≤ w8.heap.size := hb_.size
 have n_ := Aside0.mk (And.intro hs_ HZ.out); clear HZ; have HZ := n_; clear n_ hs_
 clear hb_
 obtain ⟨k14, e13⟩ := Ev.rounds (toBoolS_evo l1 O1.out)
 have n_ := Aside0.mk e13; clear e13; have e13 := n_; clear n_
 go_wp2_with (fail)
 ((with_reducible refine (laws_toBoolS.calls k14 A1 c1 l1 l1 _ (Kd.C_below HR1.out HB.out) HC1.out e13.out).mono ?_))
 rintro e w15 ⟨v16, rfl, ho0, hb_⟩
 obtain ⟨A17, c18, rfl⟩ := Kd.R_slice ho0
 have HO19 := Aside0.mk (Kd.R_lower (Kd.R_mono (ok' := Rng w8.heap.size w15.heap.size) (Kd.R_bound ho0) (fun k_ h_ => ⟨h_.2.1, h_.2.2.1⟩)) HB.out.size)
 clear ho0
 have n_ := Aside0.mk (Kd.R_below HO12.out hb_)
 clear HO12; have HO12 := n_; clear n_
 have n_ := Aside0.mk (HB.out.trans (hb_.mono HB.out.size)); clear HB; have HB := n_; clear n_
 have hs_ : w8.heap.size ≤ w15.heap.size := hb_.size
 have n_ := Aside0.mk (And.intro hs_ HZ.out); clear HZ; have HZ := n_; clear n_ hs_
 clear hb_
 go_wp2_with (fail)
 ((with_reducible refine (spec_ShareDemand.calls kES A10 c11 (cvUnitS l0) A17 c18 l1 a2 r1 r2 r3 _ (Kd.R_reads' HO12.out).2.2 (Kd.R_reads' HO12.out).2.1 (Kd.R_reads' HO19.out).2.2 (Kd.R_reads' HO19.out).2.1 ES.out).mono ?_))
 rintro e w20 ⟨v21, rfl, ho0, hb_⟩
 obtain ⟨A22, c23, rfl⟩ := Kd.R_slice ho0
 have HO24 := Aside0.mk (Kd.R_lower (Kd.R_mono (ok' := Rng w15.heap.size w20.heap.size) (Kd.R_bound ho0) (fun k_ h_ => ⟨h_.2.1, h_.2.2.1⟩)) HB.out.size)
 clear ho0
 have n_ := Aside0.mk (Kd.R_below HO12.out hb_)
 clear HO12; have HO12 := n_; clear n_
 have n_ := Aside0.mk (Kd.R_below HO19.out hb_)
 clear HO19; have HO19 := n_; clear n_
 have n_ := Aside0.mk (HB.out.trans (hb_.mono HB.out.size)); clear HB; have HB := n_; clear n_
 have hs_ : w15.heap.size ≤ w20.heap.size := hb_.size
 have n_ := Aside0.mk (And.intro hs_ HZ.out); clear HZ; have HZ := n_; clear n_ hs_
 clear hb_
 clear HO12
 clear HO19
 obtain ⟨k26, e25⟩ := Ev.rounds (toUnitS_evo l0 O0.out)
 have n_ := Aside0.mk e25; clear e25; have e25 := n_; clear n_
 go_wp2_with (fail)
 ((with_reducible refine (laws_toUnitS.calls k26 A0 c0 l0 (cvUnitS l0) _ (Kd.C_below HR0.out HB.out) HC0.out e25.out).mono ?_))
 rintro e w27 ⟨v28, rfl, ho0, hb_⟩
 obtain ⟨A29, c30, rfl⟩ := Kd.R_slice ho0
 have HO31 := Aside0.mk (Kd.R_lower (Kd.R_mono (ok' := Rng w20.heap.size w27.heap.size) (Kd.R_bound ho0) (fun k_ h_ => ⟨h_.2.1, h_.2.2.1⟩)) HB.out.size)
 clear ho0
 have n_ := Aside0.mk (Kd.R_below HO24.out hb_)
 clear HO24; have HO24 := n_; clear n_
 have n_ := Aside0.mk (HB.out.trans (hb_.mono HB.out.size)); clear HB; have HB := n_; clear n_
 have hs_ : w20.heap.size ≤ w27.heap.size := hb_.size
 have n_ := Aside0.mk (And.intro hs_ HZ.out); clear HZ; have HZ := n_; clear n_ hs_
 clear hb_
 obtain ⟨k33, e32⟩ := Ev.rounds (toBoolS_evo l1 O1.out)
 have n_ := Aside0.mk e32; clear e32; have e32 := n_; clear n_
 go_wp2_with (fail)
 ((with_reducible refine (laws_toBoolS.calls k33 A1 c1 l1 l1 _ (Kd.C_below HR1.out HB.out) HC1.out e32.out).mono ?_))
 rintro e w34 ⟨v35, rfl, ho0, hb_⟩
 obtain ⟨A36, c37, rfl⟩ := Kd.R_slice ho0
 have HO38 := Aside0.mk (Kd.R_lower (Kd.R_mono (ok' := Rng w27.heap.size w34.heap.size) (Kd.R_bound ho0) (fun k_ h_ => ⟨h_.2.1, h_.2.2.1⟩)) HB.out.size)
 clear ho0
 have n_ := Aside0.mk (Kd.R_below HO24.out hb_)
 clear HO24; have HO24 := n_; clear n_
 have n_ := Aside0.mk (Kd.R_below HO31.out hb_)
 clear HO31; have HO31 := n_; clear n_
 have n_ := Aside0.mk (HB.out.trans (hb_.mono HB.out.size)); clear HB; have HB := n_; clear n_
 have hs_ : w27.heap.size ≤ w34.heap.size := hb_.size
 have n_ := Aside0.mk (And.intro hs_ HZ.out); clear HZ; have HZ := n_; clear n_ hs_
 clear hb_
 go_wp2_with (fail)
 ((with_reducible refine (impl_ShareDemand.calls kEI A29 c30 (cvUnitS l0) A36 c37 l1 a2 r1 r2 r3 _ (Kd.R_reads' HO31.out).2.2 (Kd.R_reads' HO31.out).2.1 (Kd.R_reads' HO38.out).2.2 (Kd.R_reads' HO38.out).2.1 EI.out).mono ?_))
 rintro e w39 ⟨v40, rfl, ho0, hb_⟩
 obtain ⟨A41, c42, rfl⟩ := Kd.R_slice ho0
 have HO43 := Aside0.mk (Kd.R_lower (Kd.R_mono (ok' := Rng w34.heap.size w39.heap.size) (Kd.R_bound ho0) (fun k_ h_ => ⟨h_.2.1, h_.2.2.1⟩)) HB.out.size)
 clear ho0
 have n_ := Aside0.mk (Kd.R_below HO24.out hb_)
 clear HO24; have HO24 := n_; clear n_
 have n_ := Aside0.mk (Kd.R_below HO31.out hb_)
 clear HO31; have HO31 := n_; clear n_
 have n_ := Aside0.mk (Kd.R_below HO38.out hb_)
 clear HO38; have HO38 := n_; clear n_
 have n_ := Aside0.mk (HB.out.trans (hb_.mono HB.out.size)); clear HB; have HB := n_; clear n_
 have hs_ : w34.heap.size ≤ w39.heap.size := hb_.size
 have n_ := Aside0.mk (And.intro hs_ HZ.out); clear HZ; have HZ := n_; clear n_ hs_
 clear hb_
 obtain ⟨k45, e44⟩ := Ev.rounds (eqInt64S_evo r1 OR0.out)
 have n_ := Aside0.mk e44; clear e44; have e44 := n_; clear n_
 go_wp2_with (fail)
 ((with_reducible refine (laws_eqInt64S.calls k45 A41 c42 r1 A22 c23 r1 true _ (Kd.R_reads' HO43.out).2.2 (Kd.R_reads' HO43.out).2.1 (Kd.R_reads' HO24.out).2.2 (Kd.R_reads' HO24.out).2.1 e44.out).mono ?_))
 rintro e w46 ⟨rfl, hd_⟩
 have hb_ := hd_.below; clear hd_
 have n_ := Aside0.mk (Kd.R_below HO24.out hb_)
 clear HO24; have HO24 := n_; clear n_
 have n_ := Aside0.mk (Kd.R_below HO31.out hb_)
 clear HO31; have HO31 := n_; clear n_
 have n_ := Aside0.mk (Kd.R_below HO38.out hb_)
 clear HO38; have HO38 := n_; clear n_
 have n_ := Aside0.mk (Kd.R_below HO43.out hb_)
 clear HO43; have HO43 := n_; clear n_
 have n_ := Aside0.mk (HB.out.trans (hb_.mono HB.out.size)); clear HB; have HB := n_; clear n_
 have hs_ : w39.heap.size ≤ w46.heap.size := hb_.size
 have n_ := Aside0.mk (And.intro hs_ HZ.out); clear HZ; have HZ := n_; clear n_ hs_
 clear hb_
 obtain ⟨k48, e47⟩ := Ev.rounds (toUnitS_evo l0 O0.out)
 have n_ := Aside0.mk e47; clear e47; have e47 := n_; clear n_
 go_wp2_with (fail)
 ((with_reducible refine (laws_toUnitS.calls k48 A0 c0 l0 (cvUnitS l0) _ (Kd.C_below HR0.out HB.out) HC0.out e47.out).mono ?_))
 rintro e w49 ⟨v50, rfl, ho0, hb_⟩
 obtain ⟨A51, c52, rfl⟩ := Kd.R_slice ho0
 have HO53 := Aside0.mk (Kd.R_lower (Kd.R_mono (ok' := Rng w46.heap.size w49.heap.size) (Kd.R_bound ho0) (fun k_ h_ => ⟨h_.2.1, h_.2.2.1⟩)) HB.out.size)
 clear ho0
 have n_ := Aside0.mk (Kd.R_below HO24.out hb_)
 clear HO24; have HO24 := n_; clear n_
 have n_ := Aside0.mk (Kd.R_below HO31.out hb_)
 clear HO31; have HO31 := n_; clear n_
 have n_ := Aside0.mk (Kd.R_below HO38.out hb_)
 clear HO38; have HO38 := n_; clear n_
 have n_ := Aside0.mk (Kd.R_below HO43.out hb_)
 clear HO43; have HO43 := n_; clear n_
 have n_ := Aside0.mk (HB.out.trans (hb_.mono HB.out.size)); clear HB; have HB := n_; clear n_
 have hs_ : w46.heap.size ≤ w49.heap.size := hb_.size
 have n_ := Aside0.mk (And.intro hs_ HZ.out); clear HZ; have HZ := n_; clear n_ hs_
 clear hb_
 obtain ⟨k55, e54⟩ := Ev.rounds (eqUnitS_evo (cvUnitS l0) O0.out)
 have n_ := Aside0.mk e54; clear e54; have e54 := n_; clear n_
 go_wp2_with (fail)
 ((with_reducible refine (laws_eqUnitS.calls k55 A29 c30 (cvUnitS l0) A51 c52 (cvUnitS l0) true _ (Kd.R_reads' HO31.out).2.2 (Kd.R_reads' HO31.out).2.1 (Kd.R_reads' HO53.out).2.2 (Kd.R_reads' HO53.out).2.1 e54.out).mono ?_))
 rintro e w56 ⟨rfl, hd_⟩
 have hb_ := hd_; clear hd_
 have n_ := Aside0.mk (Kd.R_below HO24.out hb_)
 clear HO24; have HO24 := n_; clear n_
 have n_ := Aside0.mk (Kd.R_below HO31.out hb_)
 clear HO31; have HO31 := n_; clear n_
 have n_ := Aside0.mk (Kd.R_below HO38.out hb_)
 clear HO38; have HO38 := n_; clear n_
 have n_ := Aside0.mk (Kd.R_below HO43.out hb_)
 clear HO43; have HO43 := n_; clear n_
 have n_ := Aside0.mk (Kd.R_below HO53.out hb_)
 clear HO53; have HO53 := n_; clear n_
 have n_ := Aside0.mk (HB.out.trans (hb_.mono HB.out.size)); clear HB; have HB := n_; clear n_
 have hs_ : w49.heap.size ≤ w56.heap.size := hb_.size
 have n_ := Aside0.mk (And.intro hs_ HZ.out); clear HZ; have HZ := n_; clear n_ hs_
 clear hb_
 clear HO53
 obtain ⟨k58, e57⟩ := Ev.rounds (toBoolS_evo l1 O1.out)
 have n_ := Aside0.mk e57; clear e57; have e57 := n_; clear n_
 go_wp2_with (fail)
 ((with_reducible refine (laws_toBoolS.calls k58 A1 c1 l1 l1 _ (Kd.C_below HR1.out HB.out) HC1.out e57.out).mono ?_))
 rintro e w59 ⟨v60, rfl, ho0, hb_⟩
 obtain ⟨A61, c62, rfl⟩ := Kd.R_slice ho0
 have HO63 := Aside0.mk (Kd.R_lower (Kd.R_mono (ok' := Rng w56.heap.size w59.heap.size) (Kd.R_bound ho0) (fun k_ h_ => ⟨h_.2.1, h_.2.2.1⟩)) HB.out.size)
 clear ho0
 have n_ := Aside0.mk (Kd.R_below HO24.out hb_)
 clear HO24; have HO24 := n_; clear n_
 have n_ := Aside0.mk (Kd.R_below HO31.out hb_)
 clear HO31; have HO31 := n_; clear n_
 have n_ := Aside0.mk (Kd.R_below HO38.out hb_)
 clear HO38; have HO38 := n_; clear n_
 have n_ := Aside0.mk (Kd.R_below HO43.out hb_)
 clear HO43; have HO43 := n_; clear n_
 have n_ := Aside0.mk (HB.out.trans (hb_.mono HB.out.size)); clear HB; have HB := n_; clear n_
 have hs_ : w56.heap.size ≤ w59.heap.size := hb_.size
 have n_ := Aside0.mk (And.intro hs_ HZ.out); clear HZ; have HZ := n_; clear n_ hs_
 clear hb_
 obtain ⟨k65, e64⟩ := Ev.rounds (eqBoolS_evo l1 O1.out)
 have n_ := Aside0.mk e64; clear e64; have e64 := n_; clear n_
 go_wp2_with (fail)
 ((with_reducible refine (laws_eqBoolS.calls k65 A36 c37 l1 A61 c62 l1 true _ (Kd.R_reads' HO38.out).2.2 (Kd.R_reads' HO38.out).2.1 (Kd.R_reads' HO63.out).2.2 (Kd.R_reads' HO63.out).2.1 e64.out).mono ?_))
 rintro e w66 ⟨rfl, hd_⟩
 have hb_ := hd_.below; clear hd_
 have n_ := Aside0.mk (Kd.R_below HO24.out hb_)
 clear HO24; have HO24 := n_; clear n_
 have n_ := Aside0.mk (Kd.R_below HO31.out hb_)
 clear HO31; have HO31 := n_; clear n_
 have n_ := Aside0.mk (Kd.R_below HO38.out hb_)
 clear HO38; have HO38 := n_; clear n_
 have n_ := Aside0.mk (Kd.R_below HO43.out hb_)
 clear HO43; have HO43 := n_; clear n_
 have n_ := Aside0.mk (Kd.R_below HO63.out hb_)
 clear HO63; have HO63 := n_; clear n_
 have n_ := Aside0.mk (HB.out.trans (hb_.mono HB.out.size)); clear HB; have HB := n_; clear n_
 have hs_ : w59.heap.size ≤ w66.heap.size := hb_.size
 have n_ := Aside0.mk (And.intro hs_ HZ.out); clear HZ; have HZ := n_; clear n_ hs_
 clear hb_
 clear HO63
 go_wp2_with (fail)
 have hk0_ : 0 ≤ (1 : Int) ∧ (1 : Int) ≤ 900000000000000 := by decide
 ((with_reducible refine (markUnitS_rng (Rng w20.heap.size w27.heap.size) _ (cvUnitS l0) 1 w _ HB.out HO31.out O0.out hk0_.1 (Int.le_trans hk0_.2 (by decide))).mono ?_))
 rintro e w68 ⟨rfl, hy0, HB2_, hk_⟩
 clear hk0_
 have n_ := Aside0.mk (Kd.R_kept HO24.out hk_ (fun k_ h1_ h2_ => by unfold Rng at h1_ h2_; have hz_ := HZ.out; omega))
 clear HO24; have HO24 := n_; clear n_
 have n_ := Aside0.mk (Kd.R_kept HO38.out hk_ (fun k_ h1_ h2_ => by unfold Rng at h1_ h2_; have hz_ := HZ.out; omega))
 clear HO38; have HO38 := n_; clear n_
 have n_ := Aside0.mk (Kd.R_kept HO43.out hk_ (fun k_ h1_ h2_ => by unfold Rng at h1_ h2_; have hz_ := HZ.out; omega))
 clear HO43; have HO43 := n_; clear n_
 clear HO31; have HO31 := Aside0.mk hy0; clear hy0
 clear HB; have HB := Aside0.mk HB2_; clear HB2_
 have hs_ : w66.heap.size ≤ w68.heap.size := hk_.1; clear hk_
 have n_ := Aside0.mk (And.intro hs_ HZ.out); clear HZ; have HZ := n_; clear n_ hs_
 have hm_ := cntUnitS_bd (cvUnitS l0) O0.out
 obtain ⟨m67, he_⟩ : ∃ m_ : Int, (1 : Int) + cntUnitS (cvUnitS l0) = m_ := ⟨_, rfl⟩
 rw [he_]
 have HMm67 : Aside0 (0 ≤ m67 ∧ m67 ≤ 3000000000001) := ⟨by omega⟩
 have HEm67 := Aside0.mk he_; clear he_ hm_
 have hdmm67 : decide (m67 < 0) = false := decide_eq_false (by have h_ := HMm67.out; omega)
 go_wp2_with (fail)
 have hk0_ : 0 ≤ (m67 : Int) ∧ (m67 : Int) ≤ 900000000000000 := by have h_ := HMm67.out; omega
 ((with_reducible refine (markBoolS_rng (Rng w27.heap.size w34.heap.size) _ l1 m67 w _ HB.out HO38.out O1.out hk0_.1 (Int.le_trans hk0_.2 (by decide))).mono ?_))
 rintro e w70 ⟨rfl, hy0, HB2_, hk_⟩
 clear hk0_
 have n_ := Aside0.mk (Kd.R_kept HO24.out hk_ (fun k_ h1_ h2_ => by unfold Rng at h1_ h2_; have hz_ := HZ.out; omega))
 clear HO24; have HO24 := n_; clear n_
 have n_ := Aside0.mk (Kd.R_kept HO31.out hk_ (fun k_ h1_ h2_ => by unfold Rng at h1_ h2_; have hz_ := HZ.out; omega))
 clear HO31; have HO31 := n_; clear n_
 have n_ := Aside0.mk (Kd.R_kept HO43.out hk_ (fun k_ h1_ h2_ => by unfold Rng at h1_ h2_; have hz_ := HZ.out; omega))
 clear HO43; have HO43 := n_; clear n_
 clear HO38; have HO38 := Aside0.mk hy0; clear hy0
 clear HB; have HB := Aside0.mk HB2_; clear HB2_
 have hs_ : w68.heap.size ≤ w70.heap.size := hk_.1; clear hk_
 have n_ := Aside0.mk (And.intro hs_ HZ.out); clear HZ; have HZ := n_; clear n_ hs_
 have hm_ := cntBoolS_bd l1 O1.out
 obtain ⟨m69, he_⟩ : ∃ m_ : Int, (m67 : Int) + cntBoolS l1 = m_ := ⟨_, rfl⟩
 rw [he_]
 have HMm69 : Aside0 (0 ≤ m69 ∧ m69 ≤ 6000000000001) := ⟨by have h_ := HMm67.out; omega⟩
 have HEm69 := Aside0.mk he_; clear he_ hm_
 have hdmm69 : decide (m69 < 0) = false := decide_eq_false (by have h_ := HMm69.out; omega)
 obtain ⟨k72, e71⟩ := Ev.rounds (eqInt64S_evo r1 OR0.out)
 have n_ := Aside0.mk e71; clear e71; have e71 := n_; clear n_
 go_wp2_with (fail)
 ((with_reducible refine (laws_eqInt64S.calls k72 A41 c42 r1 A22 c23 r1 true _ (Kd.R_reads' HO43.out).2.2 (Kd.R_reads' HO43.out).2.1 (Kd.R_reads' HO24.out).2.2 (Kd.R_reads' HO24.out).2.1 e71.out).mono ?_))
 rintro e w73 ⟨rfl, hd_⟩
 have hb_ := hd_.below; clear hd_
 have n_ := Aside0.mk (Kd.R_below HO24.out hb_)
 clear HO24; have HO24 := n_; clear n_
 have n_ := Aside0.mk (Kd.R_below HO31.out hb_)
 clear HO31; have HO31 := n_; clear n_
 have n_ := Aside0.mk (Kd.R_below HO38.out hb_)
 clear HO38; have HO38 := n_; clear n_
 have n_ := Aside0.mk (Kd.R_below HO43.out hb_)
 clear HO43; have HO43 := n_; clear n_
 have n_ := Aside0.mk (HB.out.trans (hb_.mono HB.out.size)); clear HB; have HB := n_; clear n_
 have hs_ : w70.heap.size ≤ w73.heap.size := hb_.size
 have n_ := Aside0.mk (And.intro hs_ HZ.out); clear HZ; have HZ := n_; clear n_ hs_
 clear hb_
 go_wp2_with (fail)
 have hk0_ : 0 ≤ (1 : Int) ∧ (1 : Int) ≤ 900000000000000 := by decide
 ((with_reducible refine (markInt64S_rng (Rng w34.heap.size w39.heap.size) _ r1 1 w _ HB.out HO43.out OR0.out hk0_.1 (Int.le_trans hk0_.2 (by decide))).mono ?_))
 rintro e w75 ⟨rfl, hy0, HB2_, hk_⟩
 clear hk0_
 have n_ := Aside0.mk (Kd.R_kept HO24.out hk_ (fun k_ h1_ h2_ => by unfold Rng at h1_ h2_; have hz_ := HZ.out; omega))
 clear HO24; have HO24 := n_; clear n_
 have n_ := Aside0.mk (Kd.R_kept HO31.out hk_ (fun k_ h1_ h2_ => by unfold Rng at h1_ h2_; have hz_ := HZ.out; omega))
 clear HO31; have HO31 := n_; clear n_
 have n_ := Aside0.mk (Kd.R_kept HO38.out hk_ (fun k_ h1_ h2_ => by unfold Rng at h1_ h2_; have hz_ := HZ.out; omega))
 clear HO38; have HO38 := n_; clear n_
 clear HO43; have HO43 := Aside0.mk hy0; clear hy0
 clear HB; have HB := Aside0.mk HB2_; clear HB2_
 have hs_ : w73.heap.size ≤ w75.heap.size := hk_.1; clear hk_
 have n_ := Aside0.mk (And.intro hs_ HZ.out); clear HZ; have HZ := n_; clear n_ hs_
 have hm_ := cntInt64S_bd r1 OR0.out
 obtain ⟨m74, he_⟩ : ∃ m_ : Int, (1 : Int) + cntInt64S r1 = m_ := ⟨_, rfl⟩
 rw [he_]
 have HMm74 : Aside0 (0 ≤ m74 ∧ m74 ≤ 3000000000001) := ⟨by omega⟩
 have HEm74 := Aside0.mk he_; clear he_ hm_
 have hdmm74 : decide (m74 < 0) = false := decide_eq_false (by have h_ := HMm74.out; omega)
 obtain ⟨k77, e76⟩ := Ev.rounds (heldInt64S_ev r1 1 OR0.out (by decide) (by decide))
 have n_ := Aside0.mk e76; clear e76; have e76 := n_; clear n_
 have n_ := e76.out; rw [HEm74.out] at n_; clear e76; have e76 := Aside0.mk n_; clear n_
 go_wp2_with (fail)
 refine calls_of_args (args' := #[.slice A41 (mkInt64S r1 1).length c42, .int .i64 1]) (by simp only [mkInt64S_len r1 1]) ?_
 ((with_reducible refine (laws_heldInt64S.calls k77 A41 c42 (mkInt64S r1 1) 1 m74 _ (Kd.R_reads' HO43.out).2.2 (by have h_ := Kd.R_reads' HO43.out; have h1_ := h_.1; have h2_ := h_.2.1; omega) e76.out).mono ?_))
 rintro e w78 ⟨rfl, hd_⟩
 have hb_ := hd_.below; clear hd_
 have n_ := Aside0.mk (Kd.R_below HO24.out hb_)
 clear HO24; have HO24 := n_; clear n_
 have n_ := Aside0.mk (Kd.R_below HO31.out hb_)
 clear HO31; have HO31 := n_; clear n_
 have n_ := Aside0.mk (Kd.R_below HO38.out hb_)
 clear HO38; have HO38 := n_; clear n_
 have n_ := Aside0.mk (Kd.R_below HO43.out hb_)
 clear HO43; have HO43 := n_; clear n_
 have n_ := Aside0.mk (HB.out.trans (hb_.mono HB.out.size)); clear HB; have HB := n_; clear n_
 have hs_ : w75.heap.size ≤ w78.heap.size := hb_.size
 have n_ := Aside0.mk (And.intro hs_ HZ.out); clear HZ; have HZ := n_; clear n_ hs_
 clear hb_
 obtain ⟨k80, e79⟩ := Ev.rounds (toUnitS_evo l0 O0.out)
 have n_ := Aside0.mk e79; clear e79; have e79 := n_; clear n_
 go_wp2_with (fail)
 ((with_reducible refine (laws_toUnitS.calls k80 A0 c0 l0 (cvUnitS l0) _ (Kd.C_below HR0.out HB.out) HC0.out e79.out).mono ?_))
 rintro e w81 ⟨v82, rfl, ho0, hb_⟩
 obtain ⟨A83, c84, rfl⟩ := Kd.R_slice ho0
 have HO85 := Aside0.mk (Kd.R_lower (Kd.R_mono (ok' := Rng w78.heap.size w81.heap.size) (Kd.R_bound ho0) (fun k_ h_ => ⟨h_.2.1, h_.2.2.1⟩)) HB.out.size)
 clear ho0
 have n_ := Aside0.mk (Kd.R_below HO24.out hb_)
 clear HO24; have HO24 := n_; clear n_
 have n_ := Aside0.mk (Kd.R_below HO31.out hb_)
 clear HO31; have HO31 := n_; clear n_
 have n_ := Aside0.mk (Kd.R_below HO38.out hb_)
 clear HO38; have HO38 := n_; clear n_
 have n_ := Aside0.mk (Kd.R_below HO43.out hb_)
 clear HO43; have HO43 := n_; clear n_
 have n_ := Aside0.mk (HB.out.trans (hb_.mono HB.out.size)); clear HB; have HB := n_; clear n_
 have hs_ : w78.heap.size ≤ w81.heap.size := hb_.size
 have n_ := Aside0.mk (And.intro hs_ HZ.out); clear HZ; have HZ := n_; clear n_ hs_
 clear hb_
 obtain ⟨k87, e86⟩ := Ev.rounds (toBoolS_evo l1 O1.out)
 have n_ := Aside0.mk e86; clear e86; have e86 := n_; clear n_
 go_wp2_with (fail)
 ((with_reducible refine (laws_toBoolS.calls k87 A1 c1 l1 l1 _ (Kd.C_below HR1.out HB.out) HC1.out e86.out).mono ?_))
 rintro e w88 ⟨v89, rfl, ho0, hb_⟩
 obtain ⟨A90, c91, rfl⟩ := Kd.R_slice ho0
 have HO92 := Aside0.mk (Kd.R_lower (Kd.R_mono (ok' := Rng w81.heap.size w88.heap.size) (Kd.R_bound ho0) (fun k_ h_ => ⟨h_.2.1, h_.2.2.1⟩)) HB.out.size)
 clear ho0
 have n_ := Aside0.mk (Kd.R_below HO24.out hb_)
 clear HO24; have HO24 := n_; clear n_
 have n_ := Aside0.mk (Kd.R_below HO31.out hb_)
 clear HO31; have HO31 := n_; clear n_
 have n_ := Aside0.mk (Kd.R_below HO38.out hb_)
 clear HO38; have HO38 := n_; clear n_
 have n_ := Aside0.mk (Kd.R_below HO43.out hb_)
 clear HO43; have HO43 := n_; clear n_
 have n_ := Aside0.mk (Kd.R_below HO85.out hb_)
 clear HO85; have HO85 := n_; clear n_
 have n_ := Aside0.mk (HB.out.trans (hb_.mono HB.out.size)); clear HB; have HB := n_; clear n_
 have hs_ : w81.heap.size ≤ w88.heap.size := hb_.size
 have n_ := Aside0.mk (And.intro hs_ HZ.out); clear HZ; have HZ := n_; clear n_ hs_
 clear hb_
 go_wp2_with (fail)
 ((with_reducible refine (impl_ShareDemand.calls kEI A83 c84 (cvUnitS l0) A90 c91 l1 a2 r1 r2 r3 _ (Kd.R_reads' HO85.out).2.2 (Kd.R_reads' HO85.out).2.1 (Kd.R_reads' HO92.out).2.2 (Kd.R_reads' HO92.out).2.1 EI.out).mono ?_))
 rintro e w93 ⟨v94, rfl, ho0, hb_⟩
 obtain ⟨A95, c96, rfl⟩ := Kd.R_slice ho0
 have HO97 := Aside0.mk (Kd.R_lower (Kd.R_mono (ok' := Rng w88.heap.size w93.heap.size) (Kd.R_bound ho0) (fun k_ h_ => ⟨h_.2.1, h_.2.2.1⟩)) HB.out.size)
 clear ho0
 have n_ := Aside0.mk (Kd.R_below HO24.out hb_)
 clear HO24; have HO24 := n_; clear n_
 have n_ := Aside0.mk (Kd.R_below HO31.out hb_)
 clear HO31; have HO31 := n_; clear n_
 have n_ := Aside0.mk (Kd.R_below HO38.out hb_)
 clear HO38; have HO38 := n_; clear n_
 have n_ := Aside0.mk (Kd.R_below HO43.out hb_)
 clear HO43; have HO43 := n_; clear n_
 have n_ := Aside0.mk (Kd.R_below HO85.out hb_)
 clear HO85; have HO85 := n_; clear n_
 have n_ := Aside0.mk (Kd.R_below HO92.out hb_)
 clear HO92; have HO92 := n_; clear n_
 have n_ := Aside0.mk (HB.out.trans (hb_.mono HB.out.size)); clear HB; have HB := n_; clear n_
 have hs_ : w88.heap.size ≤ w93.heap.size := hb_.size
 have n_ := Aside0.mk (And.intro hs_ HZ.out); clear HZ; have HZ := n_; clear n_ hs_
 clear hb_
 clear HO85
 clear HO92
 obtain ⟨k99, e98⟩ := Ev.rounds (eqInt64S_evo r1 OR0.out)
 have n_ := Aside0.mk e98; clear e98; have e98 := n_; clear n_
 go_wp2_with (fail)
 ((with_reducible refine (laws_eqInt64S.calls k99 A95 c96 r1 A22 c23 r1 true _ (Kd.R_reads' HO97.out).2.2 (Kd.R_reads' HO97.out).2.1 (Kd.R_reads' HO24.out).2.2 (Kd.R_reads' HO24.out).2.1 e98.out).mono ?_))
 rintro e w100 ⟨rfl, hd_⟩
 have hb_ := hd_.below; clear hd_
 have n_ := Aside0.mk (Kd.R_below HO24.out hb_)
 clear HO24; have HO24 := n_; clear n_
 have n_ := Aside0.mk (Kd.R_below HO31.out hb_)
 clear HO31; have HO31 := n_; clear n_
 have n_ := Aside0.mk (Kd.R_below HO38.out hb_)
 clear HO38; have HO38 := n_; clear n_
 have n_ := Aside0.mk (Kd.R_below HO43.out hb_)
 clear HO43; have HO43 := n_; clear n_
 have n_ := Aside0.mk (Kd.R_below HO97.out hb_)
 clear HO97; have HO97 := n_; clear n_
 have n_ := Aside0.mk (HB.out.trans (hb_.mono HB.out.size)); clear HB; have HB := n_; clear n_
 have hs_ : w93.heap.size ≤ w100.heap.size := hb_.size
 have n_ := Aside0.mk (And.intro hs_ HZ.out); clear HZ; have HZ := n_; clear n_ hs_
 clear hb_
 obtain ⟨k102, e101⟩ := Ev.rounds (heldInt64S_ev r1 1 OR0.out (by decide) (by decide))
 have n_ := Aside0.mk e101; clear e101; have e101 := n_; clear n_
 have n_ := e101.out; rw [HEm74.out] at n_; clear e101; have e101 := Aside0.mk n_; clear n_
 go_wp2_with (fail)
 refine calls_of_args (args' := #[.slice A41 (mkInt64S r1 1).length c42, .int .i64 1]) (by simp only [mkInt64S_len r1 1]) ?_
 ((with_reducible refine (laws_heldInt64S.calls k102 A41 c42 (mkInt64S r1 1) 1 m74 _ (Kd.R_reads' HO43.out).2.2 (by have h_ := Kd.R_reads' HO43.out; have h1_ := h_.1; have h2_ := h_.2.1; omega) e101.out).mono ?_))
 rintro e w103 ⟨rfl, hd_⟩
 have hb_ := hd_.below; clear hd_
 have n_ := Aside0.mk (Kd.R_below HO24.out hb_)
 clear HO24; have HO24 := n_; clear n_
 have n_ := Aside0.mk (Kd.R_below HO31.out hb_)
 clear HO31; have HO31 := n_; clear n_
 have n_ := Aside0.mk (Kd.R_below HO38.out hb_)
 clear HO38; have HO38 := n_; clear n_
 have n_ := Aside0.mk (Kd.R_below HO43.out hb_)
 clear HO43; have HO43 := n_; clear n_
 have n_ := Aside0.mk (Kd.R_below HO97.out hb_)
 clear HO97; have HO97 := n_; clear n_
 have n_ := Aside0.mk (HB.out.trans (hb_.mono HB.out.size)); clear HB; have HB := n_; clear n_
 have hs_ : w100.heap.size ≤ w103.heap.size := hb_.size
 have n_ := Aside0.mk (And.intro hs_ HZ.out); clear HZ; have HZ := n_; clear n_ hs_
 clear hb_
 go_wp2
 go_ret
 exact ⟨rfl, HB.out⟩
end Go.Proofs.Ytebkgebibammiaa.LwFnExactShareDemand
