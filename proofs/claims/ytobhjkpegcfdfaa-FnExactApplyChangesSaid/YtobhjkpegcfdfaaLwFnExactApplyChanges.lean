/- The walk of the law FnExactApplyChanges: written by a program of this session. -/
import Derived.Test.YtobhjkpegcfdfaaPureFnExactApplyChanges
import Derived.Test.YtobhjkpegcfdfaaMkFnExactApplyChanges
namespace Go.Proofs.Ytobhjkpegcfdfaa.LwFnExactApplyChanges
open Go.RowKit Go.Proofs.Ytobhjkpegcfdfaa.PFnExactApplyChanges Go.Proofs.Ytobhjkpegcfdfaa.Pure Go.Proofs.YtobhjkpegcfdfaaW.PrintWords Go.Proofs.YtobhjkpegcfdfaaW.PrintLast Go.Proofs.YtobhjkpegcfdfaaW.PrintMore
set_option linter.unusedVariables false
set_option linter.unusedSimpArgs false
/- What Pure must hold: theorem core : ∀ (l0 : List (S150)) (l1 : List (S152)) (o0 : okSettingS l0) (o1 : okChangeS l1), ∃ (r1 : List (S150)) (r2 : Int), Ev (fun k => spec_ApplyChanges.f k l0 l1) (r1, r2) ∧ Ev (fun k => impl_ApplyChanges.f k l0 l1) (r1, r2) ∧ okSettingS r1 -/
set_option maxHeartbeats 8000000 in
set_option maxRecDepth 100000 in
theorem walk (A0 : Option Addr) (c0 : Nat) (l0 : List (S143)) (A1 : Option Addr) (c1 : Nat) (l1 : List (S146)) (w : World) (w0 : l0.length ≤ maxLen ∧ ∀ x0 ∈ l0, x0.f0.size ≤ maxLen ∧ (Lit.int .i64 x0.f1).wf = true) (w1 : l1.length ≤ maxLen ∧ ∀ x0 ∈ l1, (Lit.int .i64 x0.f0).wf = true ∧ x0.f1.f0.size ≤ maxLen ∧ (Lit.int .i64 x0.f1.f1).wf = true) (hr0 : Kd.C k143 w A0 l0.length l0) (hc0 : l0.length ≤ c0) (hr1 : Kd.C k146 w A1 l1.length l1) (hc1 : l1.length ≤ c1) :
  Calls Try.prog 6 #[.slice A0 l0.length c0, .slice A1 l1.length c1] w fun e w' => e = .returned (.bool true) ∧ Below w.heap.size w w' := by
 have HR0 := Aside0.mk hr0
 have HC0 := Aside0.mk hc0
 clear hr0 hc0
 have HW0 := Aside0.mk w0
 clear w0
 have HR1 := Aside0.mk hr1
 have HC1 := Aside0.mk hc1
 clear hr1 hc1
 have HW1 := Aside0.mk w1
 clear w1
 have HB := Aside0.mk (Below.refl w.heap.size w)
 go_enter Try.func6, Try.ntmps6
 obtain ⟨z1, he_, hq_⟩ := szSettingS_evo l0 (1048576) HW0.out (by decide) (by decide)
 obtain ⟨k4, e3⟩ := Ev.rounds he_
 clear he_; have n_ := Aside0.mk e3; clear e3; have e3 := n_; clear n_
 have HQ0 := Aside0.mk hq_; clear hq_
 go_wp2_with (fail)
 ((with_reducible refine (laws_szSettingS.calls k4 A0 c0 l0 (1048576) z1 _ (Kd.C_below HR0.out HB.out) HC0.out e3.out).mono ?_))
 rintro e w5 ⟨rfl, hd_⟩
 have hb_ := hd_; clear hd_
 have n_ := Aside0.mk (HB.out.trans (hb_.mono HB.out.size)); clear HB; have HB := n_; clear n_
 have hs_ : w.heap.size ≤ w5.heap.size := hb_.size
 have HZ := Aside0.mk (And.intro hs_ True.intro); clear hs_
 clear hb_
 by_cases hn_ : z1 < 0
 ·
  have hd_ : decide (z1 < 0) = true := decide_eq_true hn_
  clear hn_
  go_wp2
  go_ret
  exact ⟨rfl, HB.out⟩
 have O0 : Aside0 (okSettingS (cvSettingS l0)) := ⟨(HQ0.out.resolve_left hn_).2.2⟩
 have HL0 : Aside0 (0 ≤ z1 ∧ z1 ≤ 1048576) := ⟨by have h_ := HQ0.out.resolve_left hn_; have h1_ : (1048576) ≤ 1048576 := (by decide); omega⟩
 have hd_ : decide (z1 < 0) = false := decide_eq_false hn_; clear hn_
 obtain ⟨z6, he_, hq_⟩ := szChangeS_evo l1 z1 HW1.out HL0.out.1 HL0.out.2
 obtain ⟨k9, e8⟩ := Ev.rounds he_
 clear he_; have n_ := Aside0.mk e8; clear e8; have e8 := n_; clear n_
 have HQ1 := Aside0.mk hq_; clear hq_
 go_wp2_with (fail)
 ((with_reducible refine (laws_szChangeS.calls k9 A1 c1 l1 z1 z6 _ (Kd.C_below HR1.out HB.out) HC1.out e8.out).mono ?_))
 rintro e w10 ⟨rfl, hd_⟩
 have hb_ := hd_; clear hd_
 have n_ := Aside0.mk (HB.out.trans (hb_.mono HB.out.size)); clear HB; have HB := n_; clear n_
 have hs_ : w5.heap.size ≤ w10.heap.size := hb_.size
 have n_ := Aside0.mk (And.intro hs_ HZ.out); clear HZ; have HZ := n_; clear n_ hs_
 clear hb_
 by_cases hn_ : z6 < 0
 ·
  have hd_ : decide (z6 < 0) = true := decide_eq_true hn_
  clear hn_
  go_wp2
  go_ret
  exact ⟨rfl, HB.out⟩
 have O1 : Aside0 (okChangeS (cvChangeS l1)) := ⟨(HQ1.out.resolve_left hn_).2.2⟩
 have HL1 : Aside0 (0 ≤ z6 ∧ z6 ≤ 1048576) := ⟨by have h_ := HQ1.out.resolve_left hn_; have h1_ : z1 ≤ 1048576 := HL0.out.2; omega⟩
 have hd_ : decide (z6 < 0) = false := decide_eq_false hn_; clear hn_
 obtain ⟨r1, r2, es_, ei_, ok0_⟩ := core (cvSettingS l0) (cvChangeS l1) O0.out O1.out
 obtain ⟨kES, h_⟩ := Ev.rounds es_; have ES := Aside0.mk h_; clear h_ es_
 obtain ⟨kEI, h_⟩ := Ev.rounds ei_; have EI := Aside0.mk h_; clear h_ ei_
 have OR0 := Aside0.mk ok0_; clear ok0_
 obtain ⟨k12, e11⟩ := Ev.rounds (toSettingS_evo l0 O0.out)
 have n_ := Aside0.mk e11; clear e11; have e11 := n_; clear n_
 go_wp2_with (fail)
 ((with_reducible refine (laws_toSettingS.calls k12 A0 c0 l0 (cvSettingS l0) _ (Kd.C_below HR0.out HB.out) HC0.out e11.out).mono ?_))
 rintro e w13 ⟨v14, rfl, ho0, hb_⟩
 obtain ⟨A15, c16, rfl⟩ := Kd.R_slice ho0
 have HO17 := Aside0.mk (Kd.R_lower (Kd.R_mono (ok' := Rng w10.heap.size w13.heap.size) (Kd.R_bound ho0) (fun k_ h_ => ⟨h_.2.1, h_.2.2.1⟩)) HB.out.size)
 clear ho0
 have n_ := Aside0.mk (HB.out.trans (hb_.mono HB.out.size)); clear HB; have HB := n_; clear n_
 have hs_ : w10.heap.size ≤ w13.heap.size := hb_.size
 have n_ := Aside0.mk (And.intro hs_ HZ.out); clear HZ; have HZ := n_; clear n_ hs_
 clear hb_
 obtain ⟨k19, e18⟩ := Ev.rounds (toChangeS_evo l1 O1.out)
 have n_ := Aside0.mk e18; clear e18; have e18 := n_; clear n_
 go_wp2_with (fail)
 ((with_reducible refine (laws_toChangeS.calls k19 A1 c1 l1 (cvChangeS l1) _ (Kd.C_below HR1.out HB.out) HC1.out e18.out).mono ?_))
 rintro e w20 ⟨v21, rfl, ho0, hb_⟩
 obtain ⟨A22, c23, rfl⟩ := Kd.R_slice ho0
 have HO24 := Aside0.mk (Kd.R_lower (Kd.R_mono (ok' := Rng w13.heap.size w20.heap.size) (Kd.R_bound ho0) (fun k_ h_ => ⟨h_.2.1, h_.2.2.1⟩)) HB.out.size)
 clear ho0
 have n_ := Aside0.mk (Kd.R_below HO17.out hb_)
 clear HO17; have HO17 := n_; clear n_
 have n_ := Aside0.mk (HB.out.trans (hb_.mono HB.out.size)); clear HB; have HB := n_; clear n_
 have hs_ : w13.heap.size ≤ w20.heap.size := hb_.size
 have n_ := Aside0.mk (And.intro hs_ HZ.out); clear HZ; have HZ := n_; clear n_ hs_
 clear hb_
 go_wp2_with (fail)
 ((with_reducible refine (spec_ApplyChanges.calls kES A15 c16 (cvSettingS l0) A22 c23 (cvChangeS l1) r1 r2 _ (Kd.R_reads' HO17.out).2.2 (Kd.R_reads' HO17.out).2.1 (Kd.R_reads' HO24.out).2.2 (Kd.R_reads' HO24.out).2.1 ES.out).mono ?_))
 rintro e w25 ⟨v26, rfl, ho0, hb_⟩
 obtain ⟨A27, c28, rfl⟩ := Kd.R_slice ho0
 have HO29 := Aside0.mk (Kd.R_lower (Kd.R_mono (ok' := Rng w20.heap.size w25.heap.size) (Kd.R_bound ho0) (fun k_ h_ => ⟨h_.2.1, h_.2.2.1⟩)) HB.out.size)
 clear ho0
 have n_ := Aside0.mk (Kd.R_below HO17.out hb_)
 clear HO17; have HO17 := n_; clear n_
 have n_ := Aside0.mk (Kd.R_below HO24.out hb_)
 clear HO24; have HO24 := n_; clear n_
 have n_ := Aside0.mk (HB.out.trans (hb_.mono HB.out.size)); clear HB; have HB := n_; clear n_
 have hs_ : w20.heap.size ≤ w25.heap.size := hb_.size
 have n_ := Aside0.mk (And.intro hs_ HZ.out); clear HZ; have HZ := n_; clear n_ hs_
 clear hb_
 clear HO17
 clear HO24
 obtain ⟨k31, e30⟩ := Ev.rounds (toSettingS_evo l0 O0.out)
 have n_ := Aside0.mk e30; clear e30; have e30 := n_; clear n_
 go_wp2_with (fail)
 ((with_reducible refine (laws_toSettingS.calls k31 A0 c0 l0 (cvSettingS l0) _ (Kd.C_below HR0.out HB.out) HC0.out e30.out).mono ?_))
 rintro e w32 ⟨v33, rfl, ho0, hb_⟩
 obtain ⟨A34, c35, rfl⟩ := Kd.R_slice ho0
 have HO36 := Aside0.mk (Kd.R_lower (Kd.R_mono (ok' := Rng w25.heap.size w32.heap.size) (Kd.R_bound ho0) (fun k_ h_ => ⟨h_.2.1, h_.2.2.1⟩)) HB.out.size)
 clear ho0
 have n_ := Aside0.mk (Kd.R_below HO29.out hb_)
 clear HO29; have HO29 := n_; clear n_
 have n_ := Aside0.mk (HB.out.trans (hb_.mono HB.out.size)); clear HB; have HB := n_; clear n_
 have hs_ : w25.heap.size ≤ w32.heap.size := hb_.size
 have n_ := Aside0.mk (And.intro hs_ HZ.out); clear HZ; have HZ := n_; clear n_ hs_
 clear hb_
 obtain ⟨k38, e37⟩ := Ev.rounds (toChangeS_evo l1 O1.out)
 have n_ := Aside0.mk e37; clear e37; have e37 := n_; clear n_
 go_wp2_with (fail)
 ((with_reducible refine (laws_toChangeS.calls k38 A1 c1 l1 (cvChangeS l1) _ (Kd.C_below HR1.out HB.out) HC1.out e37.out).mono ?_))
 rintro e w39 ⟨v40, rfl, ho0, hb_⟩
 obtain ⟨A41, c42, rfl⟩ := Kd.R_slice ho0
 have HO43 := Aside0.mk (Kd.R_lower (Kd.R_mono (ok' := Rng w32.heap.size w39.heap.size) (Kd.R_bound ho0) (fun k_ h_ => ⟨h_.2.1, h_.2.2.1⟩)) HB.out.size)
 clear ho0
 have n_ := Aside0.mk (Kd.R_below HO29.out hb_)
 clear HO29; have HO29 := n_; clear n_
 have n_ := Aside0.mk (Kd.R_below HO36.out hb_)
 clear HO36; have HO36 := n_; clear n_
 have n_ := Aside0.mk (HB.out.trans (hb_.mono HB.out.size)); clear HB; have HB := n_; clear n_
 have hs_ : w32.heap.size ≤ w39.heap.size := hb_.size
 have n_ := Aside0.mk (And.intro hs_ HZ.out); clear HZ; have HZ := n_; clear n_ hs_
 clear hb_
 go_wp2_with (fail)
 ((with_reducible refine (impl_ApplyChanges.calls kEI A34 c35 (cvSettingS l0) A41 c42 (cvChangeS l1) r1 r2 _ (Kd.R_reads' HO36.out).2.2 (Kd.R_reads' HO36.out).2.1 (Kd.R_reads' HO43.out).2.2 (Kd.R_reads' HO43.out).2.1 EI.out).mono ?_))
 rintro e w44 ⟨v45, rfl, ho0, hb_⟩
 obtain ⟨A46, c47, rfl⟩ := Kd.R_slice ho0
 have HO48 := Aside0.mk (Kd.R_lower (Kd.R_mono (ok' := Rng w39.heap.size w44.heap.size) (Kd.R_bound ho0) (fun k_ h_ => ⟨h_.2.1, h_.2.2.1⟩)) HB.out.size)
 clear ho0
 have n_ := Aside0.mk (Kd.R_below HO29.out hb_)
 clear HO29; have HO29 := n_; clear n_
 have n_ := Aside0.mk (Kd.R_below HO36.out hb_)
 clear HO36; have HO36 := n_; clear n_
 have n_ := Aside0.mk (Kd.R_below HO43.out hb_)
 clear HO43; have HO43 := n_; clear n_
 have n_ := Aside0.mk (HB.out.trans (hb_.mono HB.out.size)); clear HB; have HB := n_; clear n_
 have hs_ : w39.heap.size ≤ w44.heap.size := hb_.size
 have n_ := Aside0.mk (And.intro hs_ HZ.out); clear HZ; have HZ := n_; clear n_ hs_
 clear hb_
 obtain ⟨k50, e49⟩ := Ev.rounds (eqSettingS_evo r1 OR0.out)
 have n_ := Aside0.mk e49; clear e49; have e49 := n_; clear n_
 go_wp2_with (fail)
 ((with_reducible refine (laws_eqSettingS.calls k50 A46 c47 r1 A27 c28 r1 true _ (Kd.R_reads' HO48.out).2.2 (Kd.R_reads' HO48.out).2.1 (Kd.R_reads' HO29.out).2.2 (Kd.R_reads' HO29.out).2.1 e49.out).mono ?_))
 rintro e w51 ⟨rfl, hd_⟩
 have hb_ := hd_; clear hd_
 have n_ := Aside0.mk (Kd.R_below HO29.out hb_)
 clear HO29; have HO29 := n_; clear n_
 have n_ := Aside0.mk (Kd.R_below HO36.out hb_)
 clear HO36; have HO36 := n_; clear n_
 have n_ := Aside0.mk (Kd.R_below HO43.out hb_)
 clear HO43; have HO43 := n_; clear n_
 have n_ := Aside0.mk (Kd.R_below HO48.out hb_)
 clear HO48; have HO48 := n_; clear n_
 have n_ := Aside0.mk (HB.out.trans (hb_.mono HB.out.size)); clear HB; have HB := n_; clear n_
 have hs_ : w44.heap.size ≤ w51.heap.size := hb_.size
 have n_ := Aside0.mk (And.intro hs_ HZ.out); clear HZ; have HZ := n_; clear n_ hs_
 clear hb_
 obtain ⟨k53, e52⟩ := Ev.rounds (toSettingS_evo l0 O0.out)
 have n_ := Aside0.mk e52; clear e52; have e52 := n_; clear n_
 go_wp2_with (fail)
 ((with_reducible refine (laws_toSettingS.calls k53 A0 c0 l0 (cvSettingS l0) _ (Kd.C_below HR0.out HB.out) HC0.out e52.out).mono ?_))
 rintro e w54 ⟨v55, rfl, ho0, hb_⟩
 obtain ⟨A56, c57, rfl⟩ := Kd.R_slice ho0
 have HO58 := Aside0.mk (Kd.R_lower (Kd.R_mono (ok' := Rng w51.heap.size w54.heap.size) (Kd.R_bound ho0) (fun k_ h_ => ⟨h_.2.1, h_.2.2.1⟩)) HB.out.size)
 clear ho0
 have n_ := Aside0.mk (Kd.R_below HO29.out hb_)
 clear HO29; have HO29 := n_; clear n_
 have n_ := Aside0.mk (Kd.R_below HO36.out hb_)
 clear HO36; have HO36 := n_; clear n_
 have n_ := Aside0.mk (Kd.R_below HO43.out hb_)
 clear HO43; have HO43 := n_; clear n_
 have n_ := Aside0.mk (Kd.R_below HO48.out hb_)
 clear HO48; have HO48 := n_; clear n_
 have n_ := Aside0.mk (HB.out.trans (hb_.mono HB.out.size)); clear HB; have HB := n_; clear n_
 have hs_ : w51.heap.size ≤ w54.heap.size := hb_.size
 have n_ := Aside0.mk (And.intro hs_ HZ.out); clear HZ; have HZ := n_; clear n_ hs_
 clear hb_
 obtain ⟨k60, e59⟩ := Ev.rounds (eqSettingS_evo (cvSettingS l0) O0.out)
 have n_ := Aside0.mk e59; clear e59; have e59 := n_; clear n_
 go_wp2_with (fail)
 ((with_reducible refine (laws_eqSettingS.calls k60 A34 c35 (cvSettingS l0) A56 c57 (cvSettingS l0) true _ (Kd.R_reads' HO36.out).2.2 (Kd.R_reads' HO36.out).2.1 (Kd.R_reads' HO58.out).2.2 (Kd.R_reads' HO58.out).2.1 e59.out).mono ?_))
 rintro e w61 ⟨rfl, hd_⟩
 have hb_ := hd_; clear hd_
 have n_ := Aside0.mk (Kd.R_below HO29.out hb_)
 clear HO29; have HO29 := n_; clear n_
 have n_ := Aside0.mk (Kd.R_below HO36.out hb_)
 clear HO36; have HO36 := n_; clear n_
 have n_ := Aside0.mk (Kd.R_below HO43.out hb_)
 clear HO43; have HO43 := n_; clear n_
 have n_ := Aside0.mk (Kd.R_below HO48.out hb_)
 clear HO48; have HO48 := n_; clear n_
 have n_ := Aside0.mk (Kd.R_below HO58.out hb_)
 clear HO58; have HO58 := n_; clear n_
 have n_ := Aside0.mk (HB.out.trans (hb_.mono HB.out.size)); clear HB; have HB := n_; clear n_
 have hs_ : w54.heap.size ≤ w61.heap.size := hb_.size
 have n_ := Aside0.mk (And.intro hs_ HZ.out); clear HZ; have HZ := n_; clear n_ hs_
 clear hb_
 clear HO58
 obtain ⟨k63, e62⟩ := Ev.rounds (toChangeS_evo l1 O1.out)
 have n_ := Aside0.mk e62; clear e62; have e62 := n_; clear n_
 go_wp2_with (fail)
 ((with_reducible refine (laws_toChangeS.calls k63 A1 c1 l1 (cvChangeS l1) _ (Kd.C_below HR1.out HB.out) HC1.out e62.out).mono ?_))
 rintro e w64 ⟨v65, rfl, ho0, hb_⟩
 obtain ⟨A66, c67, rfl⟩ := Kd.R_slice ho0
 have HO68 := Aside0.mk (Kd.R_lower (Kd.R_mono (ok' := Rng w61.heap.size w64.heap.size) (Kd.R_bound ho0) (fun k_ h_ => ⟨h_.2.1, h_.2.2.1⟩)) HB.out.size)
 clear ho0
 have n_ := Aside0.mk (Kd.R_below HO29.out hb_)
 clear HO29; have HO29 := n_; clear n_
 have n_ := Aside0.mk (Kd.R_below HO36.out hb_)
 clear HO36; have HO36 := n_; clear n_
 have n_ := Aside0.mk (Kd.R_below HO43.out hb_)
 clear HO43; have HO43 := n_; clear n_
 have n_ := Aside0.mk (Kd.R_below HO48.out hb_)
 clear HO48; have HO48 := n_; clear n_
 have n_ := Aside0.mk (HB.out.trans (hb_.mono HB.out.size)); clear HB; have HB := n_; clear n_
 have hs_ : w61.heap.size ≤ w64.heap.size := hb_.size
 have n_ := Aside0.mk (And.intro hs_ HZ.out); clear HZ; have HZ := n_; clear n_ hs_
 clear hb_
 obtain ⟨k70, e69⟩ := Ev.rounds (eqChangeS_evo (cvChangeS l1) O1.out)
 have n_ := Aside0.mk e69; clear e69; have e69 := n_; clear n_
 go_wp2_with (fail)
 ((with_reducible refine (laws_eqChangeS.calls k70 A41 c42 (cvChangeS l1) A66 c67 (cvChangeS l1) true _ (Kd.R_reads' HO43.out).2.2 (Kd.R_reads' HO43.out).2.1 (Kd.R_reads' HO68.out).2.2 (Kd.R_reads' HO68.out).2.1 e69.out).mono ?_))
 rintro e w71 ⟨rfl, hd_⟩
 have hb_ := hd_; clear hd_
 have n_ := Aside0.mk (Kd.R_below HO29.out hb_)
 clear HO29; have HO29 := n_; clear n_
 have n_ := Aside0.mk (Kd.R_below HO36.out hb_)
 clear HO36; have HO36 := n_; clear n_
 have n_ := Aside0.mk (Kd.R_below HO43.out hb_)
 clear HO43; have HO43 := n_; clear n_
 have n_ := Aside0.mk (Kd.R_below HO48.out hb_)
 clear HO48; have HO48 := n_; clear n_
 have n_ := Aside0.mk (Kd.R_below HO68.out hb_)
 clear HO68; have HO68 := n_; clear n_
 have n_ := Aside0.mk (HB.out.trans (hb_.mono HB.out.size)); clear HB; have HB := n_; clear n_
 have hs_ : w64.heap.size ≤ w71.heap.size := hb_.size
 have n_ := Aside0.mk (And.intro hs_ HZ.out); clear HZ; have HZ := n_; clear n_ hs_
 clear hb_
 clear HO68
 go_wp2_with (fail)
 have hk0_ : 0 ≤ (1 : Int) ∧ (1 : Int) ≤ 900000000000000 := by decide
 ((with_reducible refine (markSettingS_rng (Rng w25.heap.size w32.heap.size) _ (cvSettingS l0) 1 w _ HB.out HO36.out O0.out hk0_.1 (Int.le_trans hk0_.2 (by decide))).mono ?_))
 rintro e w73 ⟨rfl, hy0, HB2_, hk_⟩
 clear hk0_
 have n_ := Aside0.mk (Kd.R_kept HO29.out hk_ (fun k_ h1_ h2_ => by unfold Rng at h1_ h2_; have hz_ := HZ.out; omega))
 clear HO29; have HO29 := n_; clear n_
 have n_ := Aside0.mk (Kd.R_kept HO43.out hk_ (fun k_ h1_ h2_ => by unfold Rng at h1_ h2_; have hz_ := HZ.out; omega))
 clear HO43; have HO43 := n_; clear n_
 have n_ := Aside0.mk (Kd.R_kept HO48.out hk_ (fun k_ h1_ h2_ => by unfold Rng at h1_ h2_; have hz_ := HZ.out; omega))
 clear HO48; have HO48 := n_; clear n_
 clear HO36; have HO36 := Aside0.mk hy0; clear hy0
 clear HB; have HB := Aside0.mk HB2_; clear HB2_
 have hs_ : w71.heap.size ≤ w73.heap.size := hk_.1; clear hk_
 have n_ := Aside0.mk (And.intro hs_ HZ.out); clear HZ; have HZ := n_; clear n_ hs_
 have hm_ := cntSettingS_bd (cvSettingS l0) O0.out
 obtain ⟨m72, he_⟩ : ∃ m_ : Int, (1 : Int) + cntSettingS (cvSettingS l0) = m_ := ⟨_, rfl⟩
 rw [he_]
 have HMm72 : Aside0 (0 ≤ m72 ∧ m72 ≤ 3000000000001) := ⟨by omega⟩
 have HEm72 := Aside0.mk he_; clear he_ hm_
 have hdmm72 : decide (m72 < 0) = false := decide_eq_false (by have h_ := HMm72.out; omega)
 go_wp2_with (fail)
 have hk0_ : 0 ≤ (m72 : Int) ∧ (m72 : Int) ≤ 900000000000000 := by have h_ := HMm72.out; omega
 ((with_reducible refine (markChangeS_rng (Rng w32.heap.size w39.heap.size) _ (cvChangeS l1) m72 w _ HB.out HO43.out O1.out hk0_.1 (Int.le_trans hk0_.2 (by decide))).mono ?_))
 rintro e w75 ⟨rfl, hy0, HB2_, hk_⟩
 clear hk0_
 have n_ := Aside0.mk (Kd.R_kept HO29.out hk_ (fun k_ h1_ h2_ => by unfold Rng at h1_ h2_; have hz_ := HZ.out; omega))
 clear HO29; have HO29 := n_; clear n_
 have n_ := Aside0.mk (Kd.R_kept HO36.out hk_ (fun k_ h1_ h2_ => by unfold Rng at h1_ h2_; have hz_ := HZ.out; omega))
 clear HO36; have HO36 := n_; clear n_
 have n_ := Aside0.mk (Kd.R_kept HO48.out hk_ (fun k_ h1_ h2_ => by unfold Rng at h1_ h2_; have hz_ := HZ.out; omega))
 clear HO48; have HO48 := n_; clear n_
 clear HO43; have HO43 := Aside0.mk hy0; clear hy0
 clear HB; have HB := Aside0.mk HB2_; clear HB2_
 have hs_ : w73.heap.size ≤ w75.heap.size := hk_.1; clear hk_
 have n_ := Aside0.mk (And.intro hs_ HZ.out); clear HZ; have HZ := n_; clear n_ hs_
 have hm_ := cntChangeS_bd (cvChangeS l1) O1.out
 obtain ⟨m74, he_⟩ : ∃ m_ : Int, (m72 : Int) + cntChangeS (cvChangeS l1) = m_ := ⟨_, rfl⟩
 rw [he_]
 have HMm74 : Aside0 (0 ≤ m74 ∧ m74 ≤ 6000000000001) := ⟨by have h_ := HMm72.out; omega⟩
 have HEm74 := Aside0.mk he_; clear he_ hm_
 have hdmm74 : decide (m74 < 0) = false := decide_eq_false (by have h_ := HMm74.out; omega)
 obtain ⟨k77, e76⟩ := Ev.rounds (eqSettingS_evo r1 OR0.out)
 have n_ := Aside0.mk e76; clear e76; have e76 := n_; clear n_
 go_wp2_with (fail)
 ((with_reducible refine (laws_eqSettingS.calls k77 A46 c47 r1 A27 c28 r1 true _ (Kd.R_reads' HO48.out).2.2 (Kd.R_reads' HO48.out).2.1 (Kd.R_reads' HO29.out).2.2 (Kd.R_reads' HO29.out).2.1 e76.out).mono ?_))
 rintro e w78 ⟨rfl, hd_⟩
 have hb_ := hd_; clear hd_
 have n_ := Aside0.mk (Kd.R_below HO29.out hb_)
 clear HO29; have HO29 := n_; clear n_
 have n_ := Aside0.mk (Kd.R_below HO36.out hb_)
 clear HO36; have HO36 := n_; clear n_
 have n_ := Aside0.mk (Kd.R_below HO43.out hb_)
 clear HO43; have HO43 := n_; clear n_
 have n_ := Aside0.mk (Kd.R_below HO48.out hb_)
 clear HO48; have HO48 := n_; clear n_
 have n_ := Aside0.mk (HB.out.trans (hb_.mono HB.out.size)); clear HB; have HB := n_; clear n_
 have hs_ : w75.heap.size ≤ w78.heap.size := hb_.size
 have n_ := Aside0.mk (And.intro hs_ HZ.out); clear HZ; have HZ := n_; clear n_ hs_
 clear hb_
 go_wp2_with (fail)
 have hk0_ : 0 ≤ (1 : Int) ∧ (1 : Int) ≤ 900000000000000 := by decide
 ((with_reducible refine (markSettingS_rng (Rng w39.heap.size w44.heap.size) _ r1 1 w _ HB.out HO48.out OR0.out hk0_.1 (Int.le_trans hk0_.2 (by decide))).mono ?_))
 rintro e w80 ⟨rfl, hy0, HB2_, hk_⟩
 clear hk0_
 have n_ := Aside0.mk (Kd.R_kept HO29.out hk_ (fun k_ h1_ h2_ => by unfold Rng at h1_ h2_; have hz_ := HZ.out; omega))
 clear HO29; have HO29 := n_; clear n_
 have n_ := Aside0.mk (Kd.R_kept HO36.out hk_ (fun k_ h1_ h2_ => by unfold Rng at h1_ h2_; have hz_ := HZ.out; omega))
 clear HO36; have HO36 := n_; clear n_
 have n_ := Aside0.mk (Kd.R_kept HO43.out hk_ (fun k_ h1_ h2_ => by unfold Rng at h1_ h2_; have hz_ := HZ.out; omega))
 clear HO43; have HO43 := n_; clear n_
 clear HO48; have HO48 := Aside0.mk hy0; clear hy0
 clear HB; have HB := Aside0.mk HB2_; clear HB2_
 have hs_ : w78.heap.size ≤ w80.heap.size := hk_.1; clear hk_
 have n_ := Aside0.mk (And.intro hs_ HZ.out); clear HZ; have HZ := n_; clear n_ hs_
 have hm_ := cntSettingS_bd r1 OR0.out
 obtain ⟨m79, he_⟩ : ∃ m_ : Int, (1 : Int) + cntSettingS r1 = m_ := ⟨_, rfl⟩
 rw [he_]
 have HMm79 : Aside0 (0 ≤ m79 ∧ m79 ≤ 3000000000001) := ⟨by omega⟩
 have HEm79 := Aside0.mk he_; clear he_ hm_
 have hdmm79 : decide (m79 < 0) = false := decide_eq_false (by have h_ := HMm79.out; omega)
 obtain ⟨k82, e81⟩ := Ev.rounds (heldSettingS_ev r1 1 OR0.out (by decide) (by decide))
 have n_ := Aside0.mk e81; clear e81; have e81 := n_; clear n_
 have n_ := e81.out; rw [HEm79.out] at n_; clear e81; have e81 := Aside0.mk n_; clear n_
 go_wp2_with (fail)
 refine calls_of_args (args' := #[.slice A46 (mkSettingS r1 1).length c47, .int .i64 1]) (by simp only [mkSettingS_len r1 1]) ?_
 ((with_reducible refine (laws_heldSettingS.calls k82 A46 c47 (mkSettingS r1 1) 1 m79 _ (Kd.R_reads' HO48.out).2.2 (by have h_ := Kd.R_reads' HO48.out; have h1_ := h_.1; have h2_ := h_.2.1; omega) e81.out).mono ?_))
 rintro e w83 ⟨rfl, hd_⟩
 have hb_ := hd_; clear hd_
 have n_ := Aside0.mk (Kd.R_below HO29.out hb_)
 clear HO29; have HO29 := n_; clear n_
 have n_ := Aside0.mk (Kd.R_below HO36.out hb_)
 clear HO36; have HO36 := n_; clear n_
 have n_ := Aside0.mk (Kd.R_below HO43.out hb_)
 clear HO43; have HO43 := n_; clear n_
 have n_ := Aside0.mk (Kd.R_below HO48.out hb_)
 clear HO48; have HO48 := n_; clear n_
 have n_ := Aside0.mk (HB.out.trans (hb_.mono HB.out.size)); clear HB; have HB := n_; clear n_
 have hs_ : w80.heap.size ≤ w83.heap.size := hb_.size
 have n_ := Aside0.mk (And.intro hs_ HZ.out); clear HZ; have HZ := n_; clear n_ hs_
 clear hb_
 obtain ⟨k85, e84⟩ := Ev.rounds (toSettingS_evo l0 O0.out)
 have n_ := Aside0.mk e84; clear e84; have e84 := n_; clear n_
 go_wp2_with (fail)
 ((with_reducible refine (laws_toSettingS.calls k85 A0 c0 l0 (cvSettingS l0) _ (Kd.C_below HR0.out HB.out) HC0.out e84.out).mono ?_))
 rintro e w86 ⟨v87, rfl, ho0, hb_⟩
 obtain ⟨A88, c89, rfl⟩ := Kd.R_slice ho0
 have HO90 := Aside0.mk (Kd.R_lower (Kd.R_mono (ok' := Rng w83.heap.size w86.heap.size) (Kd.R_bound ho0) (fun k_ h_ => ⟨h_.2.1, h_.2.2.1⟩)) HB.out.size)
 clear ho0
 have n_ := Aside0.mk (Kd.R_below HO29.out hb_)
 clear HO29; have HO29 := n_; clear n_
 have n_ := Aside0.mk (Kd.R_below HO36.out hb_)
 clear HO36; have HO36 := n_; clear n_
 have n_ := Aside0.mk (Kd.R_below HO43.out hb_)
 clear HO43; have HO43 := n_; clear n_
 have n_ := Aside0.mk (Kd.R_below HO48.out hb_)
 clear HO48; have HO48 := n_; clear n_
 have n_ := Aside0.mk (HB.out.trans (hb_.mono HB.out.size)); clear HB; have HB := n_; clear n_
 have hs_ : w83.heap.size ≤ w86.heap.size := hb_.size
 have n_ := Aside0.mk (And.intro hs_ HZ.out); clear HZ; have HZ := n_; clear n_ hs_
 clear hb_
 obtain ⟨k92, e91⟩ := Ev.rounds (toChangeS_evo l1 O1.out)
 have n_ := Aside0.mk e91; clear e91; have e91 := n_; clear n_
 go_wp2_with (fail)
 ((with_reducible refine (laws_toChangeS.calls k92 A1 c1 l1 (cvChangeS l1) _ (Kd.C_below HR1.out HB.out) HC1.out e91.out).mono ?_))
 rintro e w93 ⟨v94, rfl, ho0, hb_⟩
 obtain ⟨A95, c96, rfl⟩ := Kd.R_slice ho0
 have HO97 := Aside0.mk (Kd.R_lower (Kd.R_mono (ok' := Rng w86.heap.size w93.heap.size) (Kd.R_bound ho0) (fun k_ h_ => ⟨h_.2.1, h_.2.2.1⟩)) HB.out.size)
 clear ho0
 have n_ := Aside0.mk (Kd.R_below HO29.out hb_)
 clear HO29; have HO29 := n_; clear n_
 have n_ := Aside0.mk (Kd.R_below HO36.out hb_)
 clear HO36; have HO36 := n_; clear n_
 have n_ := Aside0.mk (Kd.R_below HO43.out hb_)
 clear HO43; have HO43 := n_; clear n_
 have n_ := Aside0.mk (Kd.R_below HO48.out hb_)
 clear HO48; have HO48 := n_; clear n_
 have n_ := Aside0.mk (Kd.R_below HO90.out hb_)
 clear HO90; have HO90 := n_; clear n_
 have n_ := Aside0.mk (HB.out.trans (hb_.mono HB.out.size)); clear HB; have HB := n_; clear n_
 have hs_ : w86.heap.size ≤ w93.heap.size := hb_.size
 have n_ := Aside0.mk (And.intro hs_ HZ.out); clear HZ; have HZ := n_; clear n_ hs_
 clear hb_
 go_wp2_with (fail)
 ((with_reducible refine (impl_ApplyChanges.calls kEI A88 c89 (cvSettingS l0) A95 c96 (cvChangeS l1) r1 r2 _ (Kd.R_reads' HO90.out).2.2 (Kd.R_reads' HO90.out).2.1 (Kd.R_reads' HO97.out).2.2 (Kd.R_reads' HO97.out).2.1 EI.out).mono ?_))
 rintro e w98 ⟨v99, rfl, ho0, hb_⟩
 obtain ⟨A100, c101, rfl⟩ := Kd.R_slice ho0
 have HO102 := Aside0.mk (Kd.R_lower (Kd.R_mono (ok' := Rng w93.heap.size w98.heap.size) (Kd.R_bound ho0) (fun k_ h_ => ⟨h_.2.1, h_.2.2.1⟩)) HB.out.size)
 clear ho0
 have n_ := Aside0.mk (Kd.R_below HO29.out hb_)
 clear HO29; have HO29 := n_; clear n_
 have n_ := Aside0.mk (Kd.R_below HO36.out hb_)
 clear HO36; have HO36 := n_; clear n_
 have n_ := Aside0.mk (Kd.R_below HO43.out hb_)
 clear HO43; have HO43 := n_; clear n_
 have n_ := Aside0.mk (Kd.R_below HO48.out hb_)
 clear HO48; have HO48 := n_; clear n_
 have n_ := Aside0.mk (Kd.R_below HO90.out hb_)
 clear HO90; have HO90 := n_; clear n_
 have n_ := Aside0.mk (Kd.R_below HO97.out hb_)
 clear HO97; have HO97 := n_; clear n_
 have n_ := Aside0.mk (HB.out.trans (hb_.mono HB.out.size)); clear HB; have HB := n_; clear n_
 have hs_ : w93.heap.size ≤ w98.heap.size := hb_.size
 have n_ := Aside0.mk (And.intro hs_ HZ.out); clear HZ; have HZ := n_; clear n_ hs_
 clear hb_
 clear HO90
 clear HO97
 obtain ⟨k104, e103⟩ := Ev.rounds (eqSettingS_evo r1 OR0.out)
 have n_ := Aside0.mk e103; clear e103; have e103 := n_; clear n_
 go_wp2_with (fail)
 ((with_reducible refine (laws_eqSettingS.calls k104 A100 c101 r1 A27 c28 r1 true _ (Kd.R_reads' HO102.out).2.2 (Kd.R_reads' HO102.out).2.1 (Kd.R_reads' HO29.out).2.2 (Kd.R_reads' HO29.out).2.1 e103.out).mono ?_))
 rintro e w105 ⟨rfl, hd_⟩
 have hb_ := hd_; clear hd_
 have n_ := Aside0.mk (Kd.R_below HO29.out hb_)
 clear HO29; have HO29 := n_; clear n_
 have n_ := Aside0.mk (Kd.R_below HO36.out hb_)
 clear HO36; have HO36 := n_; clear n_
 have n_ := Aside0.mk (Kd.R_below HO43.out hb_)
 clear HO43; have HO43 := n_; clear n_
 have n_ := Aside0.mk (Kd.R_below HO48.out hb_)
 clear HO48; have HO48 := n_; clear n_
 have n_ := Aside0.mk (Kd.R_below HO102.out hb_)
 clear HO102; have HO102 := n_; clear n_
 have n_ := Aside0.mk (HB.out.trans (hb_.mono HB.out.size)); clear HB; have HB := n_; clear n_
 have hs_ : w98.heap.size ≤ w105.heap.size := hb_.size
 have n_ := Aside0.mk (And.intro hs_ HZ.out); clear HZ; have HZ := n_; clear n_ hs_
 clear hb_
 obtain ⟨k107, e106⟩ := Ev.rounds (heldSettingS_ev r1 1 OR0.out (by decide) (by decide))
 have n_ := Aside0.mk e106; clear e106; have e106 := n_; clear n_
 have n_ := e106.out; rw [HEm79.out] at n_; clear e106; have e106 := Aside0.mk n_; clear n_
 go_wp2_with (fail)
 refine calls_of_args (args' := #[.slice A46 (mkSettingS r1 1).length c47, .int .i64 1]) (by simp only [mkSettingS_len r1 1]) ?_
 ((with_reducible refine (laws_heldSettingS.calls k107 A46 c47 (mkSettingS r1 1) 1 m79 _ (Kd.R_reads' HO48.out).2.2 (by have h_ := Kd.R_reads' HO48.out; have h1_ := h_.1; have h2_ := h_.2.1; omega) e106.out).mono ?_))
 rintro e w108 ⟨rfl, hd_⟩
 have hb_ := hd_; clear hd_
 have n_ := Aside0.mk (Kd.R_below HO29.out hb_)
 clear HO29; have HO29 := n_; clear n_
 have n_ := Aside0.mk (Kd.R_below HO36.out hb_)
 clear HO36; have HO36 := n_; clear n_
 have n_ := Aside0.mk (Kd.R_below HO43.out hb_)
 clear HO43; have HO43 := n_; clear n_
 have n_ := Aside0.mk (Kd.R_below HO48.out hb_)
 clear HO48; have HO48 := n_; clear n_
 have n_ := Aside0.mk (Kd.R_below HO102.out hb_)
 clear HO102; have HO102 := n_; clear n_
 have n_ := Aside0.mk (HB.out.trans (hb_.mono HB.out.size)); clear HB; have HB := n_; clear n_
 have hs_ : w105.heap.size ≤ w108.heap.size := hb_.size
 have n_ := Aside0.mk (And.intro hs_ HZ.out); clear HZ; have HZ := n_; clear n_ hs_
 clear hb_
 go_wp2
 go_ret
 exact ⟨rfl, HB.out⟩
end Go.Proofs.Ytobhjkpegcfdfaa.LwFnExactApplyChanges
