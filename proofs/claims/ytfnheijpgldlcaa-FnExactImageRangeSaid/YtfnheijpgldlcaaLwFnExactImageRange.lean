/- The walk of the law FnExactImageRange: written by a program of this session. -/
import Derived.Test.YtfnheijpgldlcaaPureFnExactImageRange
import Derived.Test.YtfnheijpgldlcaaMkFnExactImageRange
namespace Go.Proofs.Ytfnheijpgldlcaa.LwFnExactImageRange
open Go.RowKit Go.Proofs.Ytfnheijpgldlcaa.PFnExactImageRange Go.Proofs.Ytfnheijpgldlcaa.Pure Go.Proofs.YtfnheijpgldlcaaW.PrintWords Go.Proofs.YtfnheijpgldlcaaW.PrintLast Go.Proofs.YtfnheijpgldlcaaW.PrintMore
set_option linter.unusedVariables false
set_option linter.unusedSimpArgs false
/- What Pure must hold: theorem core : ∀ (l0 : List (List Int)) (w0 : l0.length ≤ maxLen ∧ ∀ x0 ∈ l0, x0.length ≤ maxLen ∧ ∀ x1 ∈ x0, (Lit.int .i64 x1).wf = true) (o0 : okInt64SS l0), ∃ (r1 : Int) (r2 : Int) (r3 : Int), Ev (fun k => spec_ImageRange.f k l0) (r1, r2, r3) ∧ Ev (fun k => impl_ImageRange.f k l0) (r1, r2, r3) -/
set_option maxHeartbeats 8000000 in
set_option maxRecDepth 100000 in
theorem walk (A0 : Option Addr) (c0 : Nat) (l0 : List (List Int)) (w : World) (w0 : l0.length ≤ maxLen ∧ ∀ x0 ∈ l0, x0.length ≤ maxLen ∧ ∀ x1 ∈ x0, (Lit.int .i64 x1).wf = true) (hr0 : Kd.C (Kd.slice 2 (Kd.int .i64)) w A0 l0.length l0) (hc0 : l0.length ≤ c0) :
    Calls Try.prog 8 #[.slice A0 l0.length c0] w fun e w' => e = .returned (.bool true) ∧ Below w.heap.size w w' := by
  have HR0 := Aside0.mk hr0
  have HC0 := Aside0.mk hc0
  clear hr0 hc0
  have HW0 := Aside0.mk w0
  clear w0
  have HB := Aside0.mk (Below.refl w.heap.size w)
  go_enter Try.func8, Try.ntmps8
  obtain ⟨z1, he_, hq_⟩ := szInt64SS_evo l0 (1048576) HW0.out (by decide) (by decide)
  obtain ⟨k4, e3⟩ := Ev.rounds he_
  clear he_; have n_ := Aside0.mk e3; clear e3; have e3 := n_; clear n_
  have HQ0 := Aside0.mk hq_; clear hq_
  go_wp2_with (fail)
  ((with_reducible refine (laws_szInt64SS.calls k4 A0 c0 l0 (1048576) z1 _ (Kd.C_below HR0.out HB.out) HC0.out e3.out).mono ?_))
  rintro e w5 ⟨rfl, hd_⟩
  have hb_ := hd_.below; clear hd_
  have n_ := Aside0.mk (HB.out.trans (hb_.mono HB.out.size)); clear HB; have HB := n_; clear n_
  have hs_ : w.heap.size ≤ w5.heap.size := hb_.size
  have HZ := Aside0.mk (And.intro hs_ True.intro); clear hs_
  clear hb_
  by_cases hn_ : z1 < 0
  · have hd_ : decide (z1 < 0) = true := decide_eq_true hn_
    clear hn_
    go_wp2
    go_ret
    exact ⟨rfl, HB.out⟩
  have O0 : Aside0 (okInt64SS l0) := ⟨(HQ0.out.resolve_left hn_).2.2⟩
  have HL0 : Aside0 (0 ≤ z1 ∧ z1 ≤ 1048576) := ⟨by have h_ := HQ0.out.resolve_left hn_; have h1_ : (1048576) ≤ 1048576 := (by decide); omega⟩
  have hd_ : decide (z1 < 0) = false := decide_eq_false hn_; clear hn_
  obtain ⟨r1, r2, r3, es_, ei_⟩ := core l0 HW0.out O0.out
  obtain ⟨kES, h_⟩ := Ev.rounds es_; have ES := Aside0.mk h_; clear h_ es_
  obtain ⟨kEI, h_⟩ := Ev.rounds ei_; have EI := Aside0.mk h_; clear h_ ei_
  obtain ⟨k7, e6⟩ := Ev.rounds (toInt64SS_evo l0 O0.out)
  have n_ := Aside0.mk e6; clear e6; have e6 := n_; clear n_
  go_wp2_with (fail)
  ((with_reducible refine (laws_toInt64SS.calls k7 A0 c0 l0 l0 _ (Kd.C_below HR0.out HB.out) HC0.out e6.out).mono ?_))
  rintro e w8 ⟨v9, rfl, ho0, hb_⟩
  obtain ⟨A10, c11, rfl⟩ := Kd.S_slice ho0
  have HO12 := Aside0.mk (Kd.S_lower (Kd.S_mono (ok' := Rng w5.heap.size w8.heap.size) (Kd.S_bound ho0) (fun k_ h_ => ⟨h_.2.1, h_.2.2.1⟩)) HB.out.size)
  clear ho0
  have n_ := Aside0.mk (HB.out.trans (hb_.mono HB.out.size)); clear HB; have HB := n_; clear n_
  have hs_ : w5.heap.size ≤ w8.heap.size := hb_.size
  have n_ := Aside0.mk (And.intro hs_ HZ.out); clear HZ; have HZ := n_; clear n_ hs_
  clear hb_
  go_wp2_with (fail)
  ((with_reducible refine (spec_ImageRange.calls kES A10 c11 l0 r1 r2 r3 _ (Kd.S_reads' HO12.out).2.2 (Kd.S_reads' HO12.out).2.1 ES.out).mono ?_))
  rintro e w13 ⟨rfl, hd_⟩
  have hb_ := hd_.below; clear hd_
  have n_ := Aside0.mk (Kd.S_below HO12.out hb_)
  clear HO12; have HO12 := n_; clear n_
  have n_ := Aside0.mk (HB.out.trans (hb_.mono HB.out.size)); clear HB; have HB := n_; clear n_
  have hs_ : w8.heap.size ≤ w13.heap.size := hb_.size
  have n_ := Aside0.mk (And.intro hs_ HZ.out); clear HZ; have HZ := n_; clear n_ hs_
  clear hb_
  clear HO12
  obtain ⟨k15, e14⟩ := Ev.rounds (toInt64SS_evo l0 O0.out)
  have n_ := Aside0.mk e14; clear e14; have e14 := n_; clear n_
  go_wp2_with (fail)
  ((with_reducible refine (laws_toInt64SS.calls k15 A0 c0 l0 l0 _ (Kd.C_below HR0.out HB.out) HC0.out e14.out).mono ?_))
  rintro e w16 ⟨v17, rfl, ho0, hb_⟩
  obtain ⟨A18, c19, rfl⟩ := Kd.S_slice ho0
  have HO20 := Aside0.mk (Kd.S_lower (Kd.S_mono (ok' := Rng w13.heap.size w16.heap.size) (Kd.S_bound ho0) (fun k_ h_ => ⟨h_.2.1, h_.2.2.1⟩)) HB.out.size)
  clear ho0
  have n_ := Aside0.mk (HB.out.trans (hb_.mono HB.out.size)); clear HB; have HB := n_; clear n_
  have hs_ : w13.heap.size ≤ w16.heap.size := hb_.size
  have n_ := Aside0.mk (And.intro hs_ HZ.out); clear HZ; have HZ := n_; clear n_ hs_
  clear hb_
  go_wp2_with (fail)
  ((with_reducible refine (impl_ImageRange.calls kEI A18 c19 l0 r1 r2 r3 _ (Kd.S_reads' HO20.out).2.2 (Kd.S_reads' HO20.out).2.1 EI.out).mono ?_))
  rintro e w21 ⟨rfl, hb_⟩
  have n_ := Aside0.mk (Kd.S_below HO20.out hb_)
  clear HO20; have HO20 := n_; clear n_
  have n_ := Aside0.mk (HB.out.trans (hb_.mono HB.out.size)); clear HB; have HB := n_; clear n_
  have hs_ : w16.heap.size ≤ w21.heap.size := hb_.size
  have n_ := Aside0.mk (And.intro hs_ HZ.out); clear HZ; have HZ := n_; clear n_ hs_
  clear hb_
  obtain ⟨k23, e22⟩ := Ev.rounds (toInt64SS_evo l0 O0.out)
  have n_ := Aside0.mk e22; clear e22; have e22 := n_; clear n_
  go_wp2_with (fail)
  ((with_reducible refine (laws_toInt64SS.calls k23 A0 c0 l0 l0 _ (Kd.C_below HR0.out HB.out) HC0.out e22.out).mono ?_))
  rintro e w24 ⟨v25, rfl, ho0, hb_⟩
  obtain ⟨A26, c27, rfl⟩ := Kd.S_slice ho0
  have HO28 := Aside0.mk (Kd.S_lower (Kd.S_mono (ok' := Rng w21.heap.size w24.heap.size) (Kd.S_bound ho0) (fun k_ h_ => ⟨h_.2.1, h_.2.2.1⟩)) HB.out.size)
  clear ho0
  have n_ := Aside0.mk (Kd.S_below HO20.out hb_)
  clear HO20; have HO20 := n_; clear n_
  have n_ := Aside0.mk (HB.out.trans (hb_.mono HB.out.size)); clear HB; have HB := n_; clear n_
  have hs_ : w21.heap.size ≤ w24.heap.size := hb_.size
  have n_ := Aside0.mk (And.intro hs_ HZ.out); clear HZ; have HZ := n_; clear n_ hs_
  clear hb_
  obtain ⟨k30, e29⟩ := Ev.rounds (eqInt64SS_evo l0 O0.out)
  have n_ := Aside0.mk e29; clear e29; have e29 := n_; clear n_
  go_wp2_with (fail)
  ((with_reducible refine (laws_eqInt64SS.calls k30 A18 c19 l0 A26 c27 l0 true _ (Kd.S_reads' HO20.out).2.2 (Kd.S_reads' HO20.out).2.1 (Kd.S_reads' HO28.out).2.2 (Kd.S_reads' HO28.out).2.1 e29.out).mono ?_))
  rintro e w31 ⟨rfl, hd_⟩
  have hb_ := hd_.below; clear hd_
  have n_ := Aside0.mk (Kd.S_below HO20.out hb_)
  clear HO20; have HO20 := n_; clear n_
  have n_ := Aside0.mk (Kd.S_below HO28.out hb_)
  clear HO28; have HO28 := n_; clear n_
  have n_ := Aside0.mk (HB.out.trans (hb_.mono HB.out.size)); clear HB; have HB := n_; clear n_
  have hs_ : w24.heap.size ≤ w31.heap.size := hb_.size
  have n_ := Aside0.mk (And.intro hs_ HZ.out); clear HZ; have HZ := n_; clear n_ hs_
  clear hb_
  clear HO28
  go_wp2
  go_ret
  exact ⟨rfl, HB.out⟩
end Go.Proofs.Ytfnheijpgldlcaa.LwFnExactImageRange
