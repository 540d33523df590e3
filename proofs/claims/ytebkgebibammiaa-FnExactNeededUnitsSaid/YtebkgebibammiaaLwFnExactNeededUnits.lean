/- The walk of the law FnExactNeededUnits: written by a program of this session. -/
import Derived.Test.YtebkgebibammiaaPureFnExactNeededUnits
import Derived.Test.YtebkgebibammiaaMkFnExactNeededUnits
namespace Go.Proofs.Ytebkgebibammiaa.LwFnExactNeededUnits
open Go.RowKit Go.Proofs.Ytebkgebibammiaa.PFnExactNeededUnits Go.Proofs.Ytebkgebibammiaa.Pure Go.Proofs.YtebkgebibammiaaW.PrintWords Go.Proofs.YtebkgebibammiaaW.PrintLast Go.Proofs.YtebkgebibammiaaW.PrintMore
set_option linter.unusedVariables false
set_option linter.unusedSimpArgs false
/- What Pure must hold: theorem core : ∀ (l0 : List (S77)) (a1 : Int) (o0 : okUnitS l0) (w1 : (Lit.int .i64 a1).wf = true), ∃ (r1 : Int) (r2 : Int), Ev (fun k => spec_NeededUnits.f k l0 a1) (r1, r2) ∧ Ev (fun k => impl_NeededUnits.f k l0 a1) (r1, r2) -/
set_option maxHeartbeats 8000000 in
set_option maxRecDepth 100000 in
theorem walk (A0 : Option Addr) (c0 : Nat) (l0 : List (S73)) (a1 : Int) (w : World) (w0 : l0.length ≤ maxLen ∧ ∀ x0 ∈ l0, x0.f0.size ≤ maxLen ∧ (Lit.int .i64 x0.f1).wf = true ∧ (Lit.int .i64 x0.f2).wf = true ∧ (Lit.int .i64 x0.f3).wf = true ∧ (Lit.int .i64 x0.f4).wf = true ∧ (Lit.int .i64 x0.f5).wf = true ∧ (Lit.int .i64 x0.f6).wf = true) (w1 : (Lit.int .i64 a1).wf = true) (hr0 : Kd.C k73 w A0 l0.length l0) (hc0 : l0.length ≤ c0) :
  Calls Try.prog 5 #[.slice A0 l0.length c0, .int .i64 a1] w fun e w' => e = .returned (.bool true) ∧ Below w.heap.size w w' := by
 have HR0 := Aside0.mk hr0
 have HC0 := Aside0.mk hc0
 clear hr0 hc0
 have HW0 := Aside0.mk w0
 clear w0
 have HW1 := Aside0.mk w1
 clear w1
 have HB := Aside0.mk (Below.refl w.heap.size w)
 go_enter Try.func5, Try.ntmps5
 obtain ⟨z1, he_, hq_⟩ := szUnitS_evo l0 (1048576) HW0.out (by decide) (by decide)
 obtain ⟨k4, e3⟩ := Ev.rounds he_
 clear he_; have n_ := Aside0.mk e3; clear e3; have e3 := n_; clear n_
 have HQ0 := Aside0.mk hq_; clear hq_
 go_wp2_with (fail)
 ((with_reducible refine (laws_szUnitS.calls k4 A0 c0 l0 (1048576) z1 _ (Kd.C_below HR0.out HB.out) HC0.out e3.out).mono ?_))
 rintro e w5 ⟨rfl, hd_⟩
 have hb_ := hd_; clear hd_
 have n_ := Aside0.mk (HB.out.trans (hb_.mono HB.out.size)); clear HB; have HB := n_; clear n_
 have hs_ : w.heap.size ≤ w5.heap.size := hb_.size
 have HZ := Aside0.mk (And.intro hs_ True.intro); clear hs_
 clear hb_
 by_cases hn_ : z1 < 0
 ·
  have hd_ : decide (z1 < 0) = true := decide_eq_true hn_
  clear hn_
  go_wp2
  go_ret
  exact ⟨rfl, HB.out⟩
 have O0 : Aside0 (okUnitS (cvUnitS l0)) := ⟨(HQ0.out.resolve_left hn_).2.2⟩
 have HL0 : Aside0 (0 ≤ z1 ∧ z1 ≤ 1048576) := ⟨by have h_ := HQ0.out.resolve_left hn_; have h1_ : (1048576) ≤ 1048576 := (by decide); omega⟩
 have hd_ : decide (z1 < 0) = false := decide_eq_false hn_; clear hn_
 obtain ⟨r1, r2, es_, ei_⟩ := core (cvUnitS l0) a1 O0.out HW1.out
 obtain ⟨kES, h_⟩ := Ev.rounds es_; have ES := Aside0.mk h_; clear h_ es_
 obtain ⟨kEI, h_⟩ := Ev.rounds ei_; have EI := Aside0.mk h_; clear h_ ei_
 obtain ⟨k7, e6⟩ := Ev.rounds (toUnitS_evo l0 O0.out)
 have n_ := Aside0.mk e6; clear e6; have e6 := n_; clear n_
 go_wp2_with (fail)
 ((with_reducible refine (laws_toUnitS.calls k7 A0 c0 l0 (cvUnitS l0) _ (Kd.C_below HR0.out HB.out) HC0.out e6.out).mono ?_))
 rintro e w8 ⟨v9, rfl, ho0, hb_⟩
 obtain ⟨A10, c11, rfl⟩ := Kd.R_slice ho0
 have HO12 := Aside0.mk (Kd.R_lower (Kd.R_mono (ok' := Rng w5.heap.size w8.heap.size) (Kd.R_bound ho0) (fun k_ h_ => ⟨h_.2.1, h_.2.2.1⟩)) HB.out.size)
 clear ho0
 have n_ := Aside0.mk (HB.out.trans (hb_.mono HB.out.size)); clear HB; have HB := n_; clear n_
 have hs_ : w5.heap.size ≤ w8.heap.size := hb_.size
 have n_ := Aside0.mk (And.intro hs_ HZ.out); clear HZ; have HZ := n_; clear n_ hs_
 clear hb_
 go_wp2_with (fail)
 ((with_reducible refine (spec_NeededUnits.calls kES A10 c11 (cvUnitS l0) a1 r1 r2 _ (Kd.R_reads' HO12.out).2.2 (Kd.R_reads' HO12.out).2.1 ES.out).mono ?_))
 rintro e w13 ⟨rfl, hb_⟩
 have n_ := Aside0.mk (Kd.R_below HO12.out hb_)
 clear HO12; have HO12 := n_; clear n_
 have n_ := Aside0.mk (HB.out.trans (hb_.mono HB.out.size)); clear HB; have HB := n_; clear n_
 have hs_ : w8.heap.size ≤ w13.heap.size := hb_.size
 have n_ := Aside0.mk (And.intro hs_ HZ.out); clear HZ; have HZ := n_; clear n_ hs_
 clear hb_
 clear HO12
 obtain ⟨k15, e14⟩ := Ev.rounds (toUnitS_evo l0 O0.out)
 have n_ := Aside0.mk e14; clear e14; have e14 := n_; clear n_
 go_wp2_with (fail)
 ((with_reducible refine (laws_toUnitS.calls k15 A0 c0 l0 (cvUnitS l0) _ (Kd.C_below HR0.out HB.out) HC0.out e14.out).mono ?_))
 rintro e w16 ⟨v17, rfl, ho0, hb_⟩
 obtain ⟨A18, c19, rfl⟩ := Kd.R_slice ho0
 have HO20 := Aside0.mk (Kd.R_lower (Kd.R_mono (ok' := Rng w13.heap.size w16.heap.size) (Kd.R_bound ho0) (fun k_ h_ => ⟨h_.2.1, h_.2.2.1⟩)) HB.out.size)
 clear ho0
 have n_ := Aside0.mk (HB.out.trans (hb_.mono HB.out.size)); clear HB; have HB := n_; clear n_
 have hs_ : w13.heap.size ≤ w16.heap.size := hb_.size
 have n_ := Aside0.mk (And.intro hs_ HZ.out); clear HZ; have HZ := n_; clear n_ hs_
 clear hb_
 go_wp2_with (fail)
 ((with_reducible refine (impl_NeededUnits.calls kEI A18 c19 (cvUnitS l0) a1 r1 r2 _ (Kd.R_reads' HO20.out).2.2 (Kd.R_reads' HO20.out).2.1 EI.out).mono ?_))
 rintro e w21 ⟨rfl, hb_⟩
 have n_ := Aside0.mk (Kd.R_below HO20.out hb_)
 clear HO20; have HO20 := n_; clear n_
 have n_ := Aside0.mk (HB.out.trans (hb_.mono HB.out.size)); clear HB; have HB := n_; clear n_
 have hs_ : w16.heap.size ≤ w21.heap.size := hb_.size
 have n_ := Aside0.mk (And.intro hs_ HZ.out); clear HZ; have HZ := n_; clear n_ hs_
 clear hb_
 obtain ⟨k23, e22⟩ := Ev.rounds (toUnitS_evo l0 O0.out)
 have n_ := Aside0.mk e22; clear e22; have e22 := n_; clear n_
 go_wp2_with (fail)
 ((with_reducible refine (laws_toUnitS.calls k23 A0 c0 l0 (cvUnitS l0) _ (Kd.C_below HR0.out HB.out) HC0.out e22.out).mono ?_))
 rintro e w24 ⟨v25, rfl, ho0, hb_⟩
 obtain ⟨A26, c27, rfl⟩ := Kd.R_slice ho0
 have HO28 := Aside0.mk (Kd.R_lower (Kd.R_mono (ok' := Rng w21.heap.size w24.heap.size) (Kd.R_bound ho0) (fun k_ h_ => ⟨h_.2.1, h_.2.2.1⟩)) HB.out.size)
 clear ho0
 have n_ := Aside0.mk (Kd.R_below HO20.out hb_)
 clear HO20; have HO20 := n_; clear n_
 have n_ := Aside0.mk (HB.out.trans (hb_.mono HB.out.size)); clear HB; have HB := n_; clear n_
 have hs_ : w21.heap.size ≤ w24.heap.size := hb_.size
 have n_ := Aside0.mk (And.intro hs_ HZ.out); clear HZ; have HZ := n_; clear n_ hs_
 clear hb_
 obtain ⟨k30, e29⟩ := Ev.rounds (eqUnitS_evo (cvUnitS l0) O0.out)
 have n_ := Aside0.mk e29; clear e29; have e29 := n_; clear n_
 go_wp2_with (fail)
 ((with_reducible refine (laws_eqUnitS.calls k30 A18 c19 (cvUnitS l0) A26 c27 (cvUnitS l0) true _ (Kd.R_reads' HO20.out).2.2 (Kd.R_reads' HO20.out).2.1 (Kd.R_reads' HO28.out).2.2 (Kd.R_reads' HO28.out).2.1 e29.out).mono ?_))
 rintro e w31 ⟨rfl, hd_⟩
 have hb_ := hd_; clear hd_
 have n_ := Aside0.mk (Kd.R_below HO20.out hb_)
 clear HO20; have HO20 := n_; clear n_
 have n_ := Aside0.mk (Kd.R_below HO28.out hb_)
 clear HO28; have HO28 := n_; clear n_
 have n_ := Aside0.mk (HB.out.trans (hb_.mono HB.out.size)); clear HB; have HB := n_; clear n_
 have hs_ : w24.heap.size ≤ w31.heap.size := hb_.size
 have n_ := Aside0.mk (And.intro hs_ HZ.out); clear HZ; have HZ := n_; clear n_ hs_
 clear hb_
 clear HO28
 go_wp2
 go_ret
 exact ⟨rfl, HB.out⟩
end Go.Proofs.Ytebkgebibammiaa.LwFnExactNeededUnits
