/- The walk of the law FnExactMergeStates: written by a program of this session. -/
import Derived.Test.YtenjhbkpcelidaaPureFnExactMergeStates
import Derived.Test.YtenjhbkpcelidaaMkFnExactMergeStates
namespace Go.Proofs.Ytenjhbkpcelidaa.LwFnExactMergeStates
open Go.RowKit Go.Proofs.Ytenjhbkpcelidaa.PFnExactMergeStates Go.Proofs.Ytenjhbkpcelidaa.Pure Go.Proofs.YtenjhbkpcelidaaW.PrintWords Go.Proofs.YtenjhbkpcelidaaW.PrintLast Go.Proofs.YtenjhbkpcelidaaW.PrintMore
set_option linter.unusedVariables false
set_option linter.unusedSimpArgs false
/- What Pure must hold: theorem core : ∀ (l0 : List (S71)) (l1 : List (S71)) (l2 : List (S71)) (o0 : okSettingS l0) (o1 : okSettingS l1) (o2 : okSettingS l2), ∃ (r1 : List (S71)) (r2 : Int), Ev (fun k => spec_MergeStates.f k l0 l1 l2) (r1, r2) ∧ Ev (fun k => impl_MergeStates.f k l0 l1 l2) (r1, r2) ∧ okSettingS r1 -/
set_option maxHeartbeats 8000000 in
set_option maxRecDepth 100000 in
theorem walk (A0 : Option Addr) (c0 : Nat) (l0 : List (S65)) (A1 : Option Addr) (c1 : Nat) (l1 : List (S65)) (A2 : Option Addr) (c2 : Nat) (l2 : List (S65)) (w : World) (w0 : l0.length ≤ maxLen ∧ ∀ x0 ∈ l0, x0.f0.size ≤ maxLen ∧ (Lit.int .i64 x0.f1).wf = true) (w1 : l1.length ≤ maxLen ∧ ∀ x0 ∈ l1, x0.f0.size ≤ maxLen ∧ (Lit.int .i64 x0.f1).wf = true) (w2 : l2.length ≤ maxLen ∧ ∀ x0 ∈ l2, x0.f0.size ≤ maxLen ∧ (Lit.int .i64 x0.f1).wf = true) (hr0 : Kd.C k65 w A0 l0.length l0) (hc0 : l0.length ≤ c0) (hr1 : Kd.C k65 w A1 l1.length l1) (hc1 : l1.length ≤ c1) (hr2 : Kd.C k65 w A2 l2.length l2) (hc2 : l2.length ≤ c2) :
  Calls Try.prog 5 #[.slice A0 l0.length c0, .slice A1 l1.length c1, .slice A2 l2.length c2] w fun e w' => e = .returned (.bool true) ∧ Below w.heap.size w w' := by
 have HR0 := Aside0.mk hr0
 have HC0 := Aside0.mk hc0
 clear hr0 hc0
 have HW0 := Aside0.mk w0
 clear w0
 have HR1 := Aside0.mk hr1
 have HC1 := Aside0.mk hc1
 clear hr1 hc1
 have HW1 := Aside0.mk w1
 clear w1
 have HR2 := Aside0.mk hr2
 have HC2 := Aside0.mk hc2
 clear hr2 hc2
 have HW2 := Aside0.mk w2
 clear w2
 have HB := Aside0.mk (Below.refl w.heap.size w)
 go_enter Try.func5, Try.ntmps5
 obtain ⟨z1, he_, hq_⟩ := szSettingS_evo l0 (1048576) HW0.out (by decide) (by decide)
 obtain ⟨k4, e3⟩ := Ev.rounds he_
 clear he_; have n_ := Aside0.mk e3; clear e3; have e3 := n_; clear n_
 have HQ0 := Aside0.mk hq_; clear hq_
 go_wp2_with (fail)
 ((with_reducible refine (laws_szSettingS.calls k4 A0 c0 l0 (1048576) z1 _ (Kd.C_below HR0.out HB.out) HC0.out e3.out).mono ?_))
 rintro e w5 ⟨rfl, hd_⟩
 have hb_ := hd_; clear hd_
 have n_ := Aside0.mk (HB.out.trans (hb_.mono HB.out.size)); clear HB; have HB := n_; clear n_
 have hs_ : w.heap.size ≤ w5.heap.size := hb_.size
 have HZ := Aside0.mk (And.intro hs_ True.intro); clear hs_
 clear hb_
 by_cases hn_ : z1 < 0
 ·
  have hd_ : decide (z1 < 0) = true := decide_eq_true hn_
  clear hn_
  go_wp2
  go_ret
  exact ⟨rfl, HB.out⟩
 have O0 : Aside0 (okSettingS (cvSettingS l0)) := ⟨(HQ0.out.resolve_left hn_).2.2⟩
 have HL0 : Aside0 (0 ≤ z1 ∧ z1 ≤ 1048576) := ⟨by have h_ := HQ0.out.resolve_left hn_; have h1_ : (1048576) ≤ 1048576 := (by decide); omega⟩
 have hd_ : decide (z1 < 0) = false := decide_eq_false hn_; clear hn_
 obtain ⟨z6, he_, hq_⟩ := szSettingS_evo l1 z1 HW1.out HL0.out.1 HL0.out.2
 obtain ⟨k9, e8⟩ := Ev.rounds he_
 clear he_; have n_ := Aside0.mk e8; clear e8; have e8 := n_; clear n_
 have HQ1 := Aside0.mk hq_; clear hq_
 go_wp2_with (fail)
 ((with_reducible refine (laws_szSettingS.calls k9 A1 c1 l1 z1 z6 _ (Kd.C_below HR1.out HB.out) HC1.out e8.out).mono ?_))
 rintro e w10 ⟨rfl, hd_⟩
 have hb_ := hd_; clear hd_
 have n_ := Aside0.mk (HB.out.trans (hb_.mono HB.out.size)); clear HB; have HB := n_; clear n_
 have hs_ : w5.heap.size ≤ w10.heap.size := hb_.size
 have n_ := Aside0.mk (And.intro hs_ HZ.out); clear HZ; have HZ := n_; clear n_ hs_
 clear hb_
 by_cases hn_ : z6 < 0
 ·
  have hd_ : decide (z6 < 0) = true := decide_eq_true hn_
  clear hn_
  go_wp2
  go_ret
  exact ⟨rfl, HB.out⟩
 have O1 : Aside0 (okSettingS (cvSettingS l1)) := ⟨(HQ1.out.resolve_left hn_).2.2⟩
 have HL1 : Aside0 (0 ≤ z6 ∧ z6 ≤ 1048576) := ⟨by have h_ := HQ1.out.resolve_left hn_; have h1_ : z1 ≤ 1048576 := HL0.out.2; omega⟩
 have hd_ : decide (z6 < 0) = false := decide_eq_false hn_; clear hn_
 obtain ⟨z11, he_, hq_⟩ := szSettingS_evo l2 z6 HW2.out HL1.out.1 HL1.out.2
 obtain ⟨k14, e13⟩ := Ev.rounds he_
 clear he_; have n_ := Aside0.mk e13; clear e13; have e13 := n_; clear n_
 have HQ2 := Aside0.mk hq_; clear hq_
 go_wp2_with (fail)
 ((with_reducible refine (laws_szSettingS.calls k14 A2 c2 l2 z6 z11 _ (Kd.C_below HR2.out HB.out) HC2.out e13.out).mono ?_))
 rintro e w15 ⟨rfl, hd_⟩
 have hb_ := hd_; clear hd_
 have n_ := Aside0.mk (HB.out.trans (hb_.mono HB.out.size)); clear HB; have HB := n_; clear n_
 have hs_ : w10.heap.size ≤ w15.heap.size := hb_.size
 have n_ := Aside0.mk (And.intro hs_ HZ.out); clear HZ; have HZ := n_; clear n_ hs_
 clear hb_
 by_cases hn_ : z11 < 0
 ·
  have hd_ : decide (z11 < 0) = true := decide_eq_true hn_
  clear hn_
  go_wp2
  go_ret
  exact ⟨rfl, HB.out⟩
 have O2 : Aside0 (okSettingS (cvSettingS l2)) := ⟨(HQ2.out.resolve_left hn_).2.2⟩
 have HL2 : Aside0 (0 ≤ z11 ∧ z11 ≤ 1048576) := ⟨by have h_ := HQ2.out.resolve_left hn_; have h1_ : z6 ≤ 1048576 := HL1.out.2; omega⟩
 have hd_ : decide (z11 < 0) = false := decide_eq_false hn_; clear hn_
 obtain ⟨r1, r2, es_, ei_, ok0_⟩ := core (cvSettingS l0) (cvSettingS l1) (cvSettingS l2) O0.out O1.out O2.out
 obtain ⟨kES, h_⟩ := Ev.rounds es_; have ES := Aside0.mk h_; clear h_ es_
 obtain ⟨kEI, h_⟩ := Ev.rounds ei_; have EI := Aside0.mk h_; clear h_ ei_
 have OR0 := Aside0.mk ok0_; clear ok0_
 obtain ⟨k17, e16⟩ := Ev.rounds (toSettingS_evo l0 O0.out)
 have n_ := Aside0.mk e16; clear e16; have e16 := n_; clear n_
 go_wp2_with (fail)
 ((with_reducible refine (laws_toSettingS.calls k17 A0 c0 l0 (cvSettingS l0) _ (Kd.C_below HR0.out HB.out) HC0.out e16.out).mono ?_))
 rintro e w18 ⟨v19, rfl, ho0, hb_⟩
 obtain ⟨A20, c21, rfl⟩ := Kd.R_slice ho0
 have HO22 := Aside0.mk (Kd.R_lower (Kd.R_mono (ok' := Rng w15.heap.size w18.heap.size) (Kd.R_bound ho0) (fun k_ h_ => ⟨h_.2.1, h_.2.2.1⟩)) HB.out.size)
 clear ho0
 have n_ := Aside0.mk (HB.out.trans (hb_.mono HB.out.size)); clear HB; have HB := n_; clear n_
 have hs_ : w15.heap.size ≤ w18.heap.size := hb_.size
 have n_ := Aside0.mk (And.intro hs_ HZ.out); clear HZ; have HZ := n_; clear n_ hs_
 clear hb_
 obtain ⟨k24, e23⟩ := Ev.rounds (toSettingS_evo l1 O1.out)
 have n_ := Aside0.mk e23; clear e23; have e23 := n_; clear n_
 go_wp2_with (fail)
 ((with_reducible refine (laws_toSettingS.calls k24 A1 c1 l1 (cvSettingS l1) _ (Kd.C_below HR1.out HB.out) HC1.out e23.out).mono ?_))
 rintro e w25 ⟨v26, rfl, ho0, hb_⟩
 obtain ⟨A27, c28, rfl⟩ := Kd.R_slice ho0
 have HO29 := Aside0.mk (Kd.R_lower (Kd.R_mono (ok' := Rng w18.heap.size w25.heap.size) (Kd.R_bound ho0) (fun k_ h_ => ⟨h_.2.1, h_.2.2.1⟩)) HB.out.size)
 clear ho0
 have n_ := Aside0.mk (Kd.R_below HO22.out hb_)
 clear HO22; have HO22 := n_; clear n_
 have n_ := Aside0.mk (HB.out.trans (hb_.mono HB.out.size)); clear HB; have HB := n_; clear n_
 have hs_ : w18.heap.size ≤ w25.heap.size := hb_.size
 have n_ := Aside0.mk (And.intro hs_ HZ.out); clear HZ; have HZ := n_; clear n_ hs_
 clear hb_
 obtain ⟨k31, e30⟩ := Ev.rounds (toSettingS_evo l2 O2.out)
 have n_ := Aside0.mk e30; clear e30; have e30 := n_; clear n_
 go_wp2_with (fail)
 ((with_reducible refine (laws_toSettingS.calls k31 A2 c2 l2 (cvSettingS l2) _ (Kd.C_below HR2.out HB.out) HC2.out e30.out).mono ?_))
 rintro e w32 ⟨v33, rfl, ho0, hb_⟩
 obtain ⟨A34, c35, rfl⟩ := Kd.R_slice ho0
 have HO36 := Aside0.mk (Kd.R_lower (Kd.R_mono (ok' := Rng w25.heap.size w32.heap.size) (Kd.R_bound ho0) (fun k_ h_ => ⟨h_.2.1, h_.2.2.1⟩)) HB.out.size)
 clear ho0
 have n_ := Aside0.mk (Kd.R_below HO22.out hb_)
 clear HO22; have HO22 := n_; clear n_
 have n_ := Aside0.mk (Kd.R_below HO29.out hb_)
 clear HO29; have HO29 := n_; clear n_
 have n_ := Aside0.mk (HB.out.trans (hb_.mono HB.out.size)); clear HB; have HB := n_; clear n_
 have hs_ : w25.heap.size ≤ w32.heap.size := hb_.size
 have n_ := Aside0.mk (And.intro hs_ HZ.out); clear HZ; have HZ := n_; clear n_ hs_
 clear hb_
 go_wp2_with (fail)
 ((with_reducible refine (spec_MergeStates.calls kES A20 c21 (cvSettingS l0) A27 c28 (cvSettingS l1) A34 c35 (cvSettingS l2) r1 r2 _ (Kd.R_reads' HO22.out).2.2 (Kd.R_reads' HO22.out).2.1 (Kd.R_reads' HO29.out).2.2 (Kd.R_reads' HO29.out).2.1 (Kd.R_reads' HO36.out).2.2 (Kd.R_reads' HO36.out).2.1 ES.out).mono ?_))
 rintro e w37 ⟨v38, rfl, ho0, hb_⟩
 obtain ⟨A39, c40, rfl⟩ := Kd.R_slice ho0
 have HO41 := Aside0.mk (Kd.R_lower (Kd.R_mono (ok' := Rng w32.heap.size w37.heap.size) (Kd.R_bound ho0) (fun k_ h_ => ⟨h_.2.1, h_.2.2.1⟩)) HB.out.size)
 clear ho0
 have n_ := Aside0.mk (Kd.R_below HO22.out hb_)
 clear HO22; have HO22 := n_; clear n_
 have n_ := Aside0.mk (Kd.R_below HO29.out hb_)
 clear HO29; have HO29 := n_; clear n_
 have n_ := Aside0.mk (Kd.R_below HO36.out hb_)
 clear HO36; have HO36 := n_; clear n_
 have n_ := Aside0.mk (HB.out.trans (hb_.mono HB.out.size)); clear HB; have HB := n_; clear n_
 have hs_ : w32.heap.size ≤ w37.heap.size := hb_.size
 have n_ := Aside0.mk (And.intro hs_ HZ.out); clear HZ; have HZ := n_; clear n_ hs_
 clear hb_
 clear HO22
 clear HO29
 clear HO36
 obtain ⟨k43, e42⟩ := Ev.rounds (toSettingS_evo l0 O0.out)
 have n_ := Aside0.mk e42; clear e42; have e42 := n_; clear n_
 go_wp2_with (fail)
 ((with_reducible refine (laws_toSettingS.calls k43 A0 c0 l0 (cvSettingS l0) _ (Kd.C_below HR0.out HB.out) HC0.out e42.out).mono ?_))
 rintro e w44 ⟨v45, rfl, ho0, hb_⟩
 obtain ⟨A46, c47, rfl⟩ := Kd.R_slice ho0
 have HO48 := Aside0.mk (Kd.R_lower (Kd.R_mono (ok' := Rng w37.heap.size w44.heap.size) (Kd.R_bound ho0) (fun k_ h_ => ⟨h_.2.1, h_.2.2.1⟩)) HB.out.size)
 clear ho0
 have n_ := Aside0.mk (Kd.R_below HO41.out hb_)
 clear HO41; have HO41 := n_; clear n_
 have n_ := Aside0.mk (HB.out.trans (hb_.mono HB.out.size)); clear HB; have HB := n_; clear n_
 have hs_ : w37.heap.size ≤ w44.heap.size := hb_.size
 have n_ := Aside0.mk (And.intro hs_ HZ.out); clear HZ; have HZ := n_; clear n_ hs_
 clear hb_
 obtain ⟨k50, e49⟩ := Ev.rounds (toSettingS_evo l1 O1.out)
 have n_ := Aside0.mk e49; clear e49; have e49 := n_; clear n_
 go_wp2_with (fail)
 ((with_reducible refine (laws_toSettingS.calls k50 A1 c1 l1 (cvSettingS l1) _ (Kd.C_below HR1.out HB.out) HC1.out e49.out).mono ?_))
 rintro e w51 ⟨v52, rfl, ho0, hb_⟩
 obtain ⟨A53, c54, rfl⟩ := Kd.R_slice ho0
 have HO55 := Aside0.mk (Kd.R_lower (Kd.R_mono (ok' := Rng w44.heap.size w51.heap.size) (Kd.R_bound ho0) (fun k_ h_ => ⟨h_.2.1, h_.2.2.1⟩)) HB.out.size)
 clear ho0
 have n_ := Aside0.mk (Kd.R_below HO41.out hb_)
 clear HO41; have HO41 := n_; clear n_
 have n_ := Aside0.mk (Kd.R_below HO48.out hb_)
 clear HO48; have HO48 := n_; clear n_
 have n_ := Aside0.mk (HB.out.trans (hb_.mono HB.out.size)); clear HB; have HB := n_; clear n_
 have hs_ : w44.heap.size ≤ w51.heap.size := hb_.size
 have n_ := Aside0.mk (And.intro hs_ HZ.out); clear HZ; have HZ := n_; clear n_ hs_
 clear hb_
 obtain ⟨k57, e56⟩ := Ev.rounds (toSettingS_evo l2 O2.out)
 have n_ := Aside0.mk e56; clear e56; have e56 := n_; clear n_
 go_wp2_with (fail)
 ((with_reducible refine (laws_toSettingS.calls k57 A2 c2 l2 (cvSettingS l2) _ (Kd.C_below HR2.out HB.out) HC2.out e56.out).mono ?_))
 rintro e w58 ⟨v59, rfl, ho0, hb_⟩
 obtain ⟨A60, c61, rfl⟩ := Kd.R_slice ho0
 have HO62 := Aside0.mk (Kd.R_lower (Kd.R_mono (ok' := Rng w51.heap.size w58.heap.size) (Kd.R_bound ho0) (fun k_ h_ => ⟨h_.2.1, h_.2.2.1⟩)) HB.out.size)
 clear ho0
 have n_ := Aside0.mk (Kd.R_below HO41.out hb_)
 clear HO41; have HO41 := n_; clear n_
 have n_ := Aside0.mk (Kd.R_below HO48.out hb_)
 clear HO48; have HO48 := n_; clear n_
 have n_ := Aside0.mk (Kd.R_below HO55.out hb_)
 clear HO55; have HO55 := n_; clear n_
 have n_ := Aside0.mk (HB.out.trans (hb_.mono HB.out.size)); clear HB; have HB := n_; clear n_
 have hs_ : w51.heap.size ≤ w58.heap.size := hb_.size
 have n_ := Aside0.mk (And.intro hs_ HZ.out); clear HZ; have HZ := n_; clear n_ hs_
 clear hb_
 go_wp2_with (fail)
 ((with_reducible refine (impl_MergeStates.calls kEI (fun _ => True) A46 c47 (cvSettingS l0) (fun _ => True) A53 c54 (cvSettingS l1) (fun _ => True) A60 c61 (cvSettingS l2) r1 r2 _ (V_ofR HO48.out) (V_ofR HO55.out) (V_ofR HO62.out) EI.out).mono ?_))
 rintro e w63 ⟨v64, rfl, ho0, hb_⟩
 obtain ⟨A65, c66, rfl⟩ := Kd.R_slice ho0
 have HO67 := Aside0.mk (Kd.R_lower (Kd.R_mono (ok' := Rng w58.heap.size w63.heap.size) (Kd.R_bound ho0) (fun k_ h_ => ⟨h_.2.1, h_.2.2.1⟩)) HB.out.size)
 clear ho0
 have n_ := Aside0.mk (Kd.R_below HO41.out hb_)
 clear HO41; have HO41 := n_; clear n_
 have n_ := Aside0.mk (Kd.R_below HO48.out hb_)
 clear HO48; have HO48 := n_; clear n_
 have n_ := Aside0.mk (Kd.R_below HO55.out hb_)
 clear HO55; have HO55 := n_; clear n_
 have n_ := Aside0.mk (Kd.R_below HO62.out hb_)
 clear HO62; have HO62 := n_; clear n_
 have n_ := Aside0.mk (HB.out.trans (hb_.mono HB.out.size)); clear HB; have HB := n_; clear n_
 have hs_ : w58.heap.size ≤ w63.heap.size := hb_.size
 have n_ := Aside0.mk (And.intro hs_ HZ.out); clear HZ; have HZ := n_; clear n_ hs_
 clear hb_
 obtain ⟨k69, e68⟩ := Ev.rounds (eqSettingS_evo r1 OR0.out)
 have n_ := Aside0.mk e68; clear e68; have e68 := n_; clear n_
 go_wp2_with (fail)
 ((with_reducible refine (laws_eqSettingS.calls k69 A65 c66 r1 A39 c40 r1 true _ (Kd.R_reads' HO67.out).2.2 (Kd.R_reads' HO67.out).2.1 (Kd.R_reads' HO41.out).2.2 (Kd.R_reads' HO41.out).2.1 e68.out).mono ?_))
 rintro e w70 ⟨rfl, hd_⟩
 have hb_ := hd_; clear hd_
 have n_ := Aside0.mk (Kd.R_below HO41.out hb_)
 clear HO41; have HO41 := n_; clear n_
 have n_ := Aside0.mk (Kd.R_below HO48.out hb_)
 clear HO48; have HO48 := n_; clear n_
 have n_ := Aside0.mk (Kd.R_below HO55.out hb_)
 clear HO55; have HO55 := n_; clear n_
 have n_ := Aside0.mk (Kd.R_below HO62.out hb_)
 clear HO62; have HO62 := n_; clear n_
 have n_ := Aside0.mk (Kd.R_below HO67.out hb_)
 clear HO67; have HO67 := n_; clear n_
 have n_ := Aside0.mk (HB.out.trans (hb_.mono HB.out.size)); clear HB; have HB := n_; clear n_
 have hs_ : w63.heap.size ≤ w70.heap.size := hb_.size
 have n_ := Aside0.mk (And.intro hs_ HZ.out); clear HZ; have HZ := n_; clear n_ hs_
 clear hb_
 obtain ⟨k72, e71⟩ := Ev.rounds (toSettingS_evo l0 O0.out)
 have n_ := Aside0.mk e71; clear e71; have e71 := n_; clear n_
 go_wp2_with (fail)
 ((with_reducible refine (laws_toSettingS.calls k72 A0 c0 l0 (cvSettingS l0) _ (Kd.C_below HR0.out HB.out) HC0.out e71.out).mono ?_))
 rintro e w73 ⟨v74, rfl, ho0, hb_⟩
 obtain ⟨A75, c76, rfl⟩ := Kd.R_slice ho0
 have HO77 := Aside0.mk (Kd.R_lower (Kd.R_mono (ok' := Rng w70.heap.size w73.heap.size) (Kd.R_bound ho0) (fun k_ h_ => ⟨h_.2.1, h_.2.2.1⟩)) HB.out.size)
 clear ho0
 have n_ := Aside0.mk (Kd.R_below HO41.out hb_)
 clear HO41; have HO41 := n_; clear n_
 have n_ := Aside0.mk (Kd.R_below HO48.out hb_)
 clear HO48; have HO48 := n_; clear n_
 have n_ := Aside0.mk (Kd.R_below HO55.out hb_)
 clear HO55; have HO55 := n_; clear n_
 have n_ := Aside0.mk (Kd.R_below HO62.out hb_)
 clear HO62; have HO62 := n_; clear n_
 have n_ := Aside0.mk (Kd.R_below HO67.out hb_)
 clear HO67; have HO67 := n_; clear n_
 have n_ := Aside0.mk (HB.out.trans (hb_.mono HB.out.size)); clear HB; have HB := n_; clear n_
 have hs_ : w70.heap.size ≤ w73.heap.size := hb_.size
 have n_ := Aside0.mk (And.intro hs_ HZ.out); clear HZ; have HZ := n_; clear n_ hs_
 clear hb_
 obtain ⟨k79, e78⟩ := Ev.rounds (eqSettingS_evo (cvSettingS l0) O0.out)
 have n_ := Aside0.mk e78; clear e78; have e78 := n_; clear n_
 go_wp2_with (fail)
 ((with_reducible refine (laws_eqSettingS.calls k79 A46 c47 (cvSettingS l0) A75 c76 (cvSettingS l0) true _ (Kd.R_reads' HO48.out).2.2 (Kd.R_reads' HO48.out).2.1 (Kd.R_reads' HO77.out).2.2 (Kd.R_reads' HO77.out).2.1 e78.out).mono ?_))
 rintro e w80 ⟨rfl, hd_⟩
 have hb_ := hd_; clear hd_
 have n_ := Aside0.mk (Kd.R_below HO41.out hb_)
 clear HO41; have HO41 := n_; clear n_
 have n_ := Aside0.mk (Kd.R_below HO48.out hb_)
 clear HO48; have HO48 := n_; clear n_
 have n_ := Aside0.mk (Kd.R_below HO55.out hb_)
 clear HO55; have HO55 := n_; clear n_
 have n_ := Aside0.mk (Kd.R_below HO62.out hb_)
 clear HO62; have HO62 := n_; clear n_
 have n_ := Aside0.mk (Kd.R_below HO67.out hb_)
 clear HO67; have HO67 := n_; clear n_
 have n_ := Aside0.mk (Kd.R_below HO77.out hb_)
 clear HO77; have HO77 := n_; clear n_
 have n_ := Aside0.mk (HB.out.trans (hb_.mono HB.out.size)); clear HB; have HB := n_; clear n_
 have hs_ : w73.heap.size ≤ w80.heap.size := hb_.size
 have n_ := Aside0.mk (And.intro hs_ HZ.out); clear HZ; have HZ := n_; clear n_ hs_
 clear hb_
 clear HO77
 obtain ⟨k82, e81⟩ := Ev.rounds (toSettingS_evo l1 O1.out)
 have n_ := Aside0.mk e81; clear e81; have e81 := n_; clear n_
 go_wp2_with (fail)
 ((with_reducible refine (laws_toSettingS.calls k82 A1 c1 l1 (cvSettingS l1) _ (Kd.C_below HR1.out HB.out) HC1.out e81.out).mono ?_))
 rintro e w83 ⟨v84, rfl, ho0, hb_⟩
 obtain ⟨A85, c86, rfl⟩ := Kd.R_slice ho0
 have HO87 := Aside0.mk (Kd.R_lower (Kd.R_mono (ok' := Rng w80.heap.size w83.heap.size) (Kd.R_bound ho0) (fun k_ h_ => ⟨h_.2.1, h_.2.2.1⟩)) HB.out.size)
 clear ho0
 have n_ := Aside0.mk (Kd.R_below HO41.out hb_)
 clear HO41; have HO41 := n_; clear n_
 have n_ := Aside0.mk (Kd.R_below HO48.out hb_)
 clear HO48; have HO48 := n_; clear n_
 have n_ := Aside0.mk (Kd.R_below HO55.out hb_)
 clear HO55; have HO55 := n_; clear n_
 have n_ := Aside0.mk (Kd.R_below HO62.out hb_)
 clear HO62; have HO62 := n_; clear n_
 have n_ := Aside0.mk (Kd.R_below HO67.out hb_)
 clear HO67; have HO67 := n_; clear n_
 have n_ := Aside0.mk (HB.out.trans (hb_.mono HB.out.size)); clear HB; have HB := n_; clear n_
 have hs_ : w80.heap.size ≤ w83.heap.size := hb_.size
 have n_ := Aside0.mk (And.intro hs_ HZ.out); clear HZ; have HZ := n_; clear n_ hs_
 clear hb_
 obtain ⟨k89, e88⟩ := Ev.rounds (eqSettingS_evo (cvSettingS l1) O1.out)
 have n_ := Aside0.mk e88; clear e88; have e88 := n_; clear n_
 go_wp2_with (fail)
 ((with_reducible refine (laws_eqSettingS.calls k89 A53 c54 (cvSettingS l1) A85 c86 (cvSettingS l1) true _ (Kd.R_reads' HO55.out).2.2 (Kd.R_reads' HO55.out).2.1 (Kd.R_reads' HO87.out).2.2 (Kd.R_reads' HO87.out).2.1 e88.out).mono ?_))
 rintro e w90 ⟨rfl, hd_⟩
 have hb_ := hd_; clear hd_
 have n_ := Aside0.mk (Kd.R_below HO41.out hb_)
 clear HO41; have HO41 := n_; clear n_
 have n_ := Aside0.mk (Kd.R_below HO48.out hb_)
 clear HO48; have HO48 := n_; clear n_
 have n_ := Aside0.mk (Kd.R_below HO55.out hb_)
 clear HO55; have HO55 := n_; clear n_
 have n_ := Aside0.mk (Kd.R_below HO62.out hb_)
 clear HO62; have HO62 := n_; clear n_
 have n_ := Aside0.mk (Kd.R_below HO67.out hb_)
 clear HO67; have HO67 := n_; clear n_
 have n_ := Aside0.mk (Kd.R_below HO87.out hb_)
 clear HO87; have HO87 := n_; clear n_
 have n_ := Aside0.mk (HB.out.trans (hb_.mono HB.out.size)); clear HB; have HB := n_; clear n_
 have hs_ : w83.heap.size ≤ w90.heap.size := hb_.size
 have n_ := Aside0.mk (And.intro hs_ HZ.out); clear HZ; have HZ := n_; clear n_ hs_
 clear hb_
 clear HO87
 obtain ⟨k92, e91⟩ := Ev.rounds (toSettingS_evo l2 O2.out)
 have n_ := Aside0.mk e91; clear e91; have e91 := n_; clear n_
 go_wp2_with (fail)
 ((with_reducible refine (laws_toSettingS.calls k92 A2 c2 l2 (cvSettingS l2) _ (Kd.C_below HR2.out HB.out) HC2.out e91.out).mono ?_))
 rintro e w93 ⟨v94, rfl, ho0, hb_⟩
 obtain ⟨A95, c96, rfl⟩ := Kd.R_slice ho0
 have HO97 := Aside0.mk (Kd.R_lower (Kd.R_mono (ok' := Rng w90.heap.size w93.heap.size) (Kd.R_bound ho0) (fun k_ h_ => ⟨h_.2.1, h_.2.2.1⟩)) HB.out.size)
 clear ho0
 have n_ := Aside0.mk (Kd.R_below HO41.out hb_)
 clear HO41; have HO41 := n_; clear n_
 have n_ := Aside0.mk (Kd.R_below HO48.out hb_)
 clear HO48; have HO48 := n_; clear n_
 have n_ := Aside0.mk (Kd.R_below HO55.out hb_)
 clear HO55; have HO55 := n_; clear n_
 have n_ := Aside0.mk (Kd.R_below HO62.out hb_)
 clear HO62; have HO62 := n_; clear n_
 have n_ := Aside0.mk (Kd.R_below HO67.out hb_)
 clear HO67; have HO67 := n_; clear n_
 have n_ := Aside0.mk (HB.out.trans (hb_.mono HB.out.size)); clear HB; have HB := n_; clear n_
 have hs_ : w90.heap.size ≤ w93.heap.size := hb_.size
 have n_ := Aside0.mk (And.intro hs_ HZ.out); clear HZ; have HZ := n_; clear n_ hs_
 clear hb_
 obtain ⟨k99, e98⟩ := Ev.rounds (eqSettingS_evo (cvSettingS l2) O2.out)
 have n_ := Aside0.mk e98; clear e98; have e98 := n_; clear n_
 go_wp2_with (fail)
 ((with_reducible refine (laws_eqSettingS.calls k99 A60 c61 (cvSettingS l2) A95 c96 (cvSettingS l2) true _ (Kd.R_reads' HO62.out).2.2 (Kd.R_reads' HO62.out).2.1 (Kd.R_reads' HO97.out).2.2 (Kd.R_reads' HO97.out).2.1 e98.out).mono ?_))
 rintro e w100 ⟨rfl, hd_⟩
 have hb_ := hd_; clear hd_
 have n_ := Aside0.mk (Kd.R_below HO41.out hb_)
 clear HO41; have HO41 := n_; clear n_
 have n_ := Aside0.mk (Kd.R_below HO48.out hb_)
 clear HO48; have HO48 := n_; clear n_
 have n_ := Aside0.mk (Kd.R_below HO55.out hb_)
 clear HO55; have HO55 := n_; clear n_
 have n_ := Aside0.mk (Kd.R_below HO62.out hb_)
 clear HO62; have HO62 := n_; clear n_
 have n_ := Aside0.mk (Kd.R_below HO67.out hb_)
 clear HO67; have HO67 := n_; clear n_
 have n_ := Aside0.mk (Kd.R_below HO97.out hb_)
 clear HO97; have HO97 := n_; clear n_
 have n_ := Aside0.mk (HB.out.trans (hb_.mono HB.out.size)); clear HB; have HB := n_; clear n_
 have hs_ : w93.heap.size ≤ w100.heap.size := hb_.size
 have n_ := Aside0.mk (And.intro hs_ HZ.out); clear HZ; have HZ := n_; clear n_ hs_
 clear hb_
 clear HO97
 go_wp2_with (fail)
 have hk0_ : 0 ≤ (1 : Int) ∧ (1 : Int) ≤ 900000000000000 := by decide
 ((with_reducible refine (markSettingS_rng (Rng w37.heap.size w44.heap.size) _ (cvSettingS l0) 1 w _ HB.out HO48.out O0.out hk0_.1 (Int.le_trans hk0_.2 (by decide))).mono ?_))
 rintro e w102 ⟨rfl, hy0, HB2_, hk_⟩
 clear hk0_
 have n_ := Aside0.mk (Kd.R_kept HO41.out hk_ (fun k_ h1_ h2_ => by unfold Rng at h1_ h2_; have hz_ := HZ.out; omega))
 clear HO41; have HO41 := n_; clear n_
 have n_ := Aside0.mk (Kd.R_kept HO55.out hk_ (fun k_ h1_ h2_ => by unfold Rng at h1_ h2_; have hz_ := HZ.out; omega))
 clear HO55; have HO55 := n_; clear n_
 have n_ := Aside0.mk (Kd.R_kept HO62.out hk_ (fun k_ h1_ h2_ => by unfold Rng at h1_ h2_; have hz_ := HZ.out; omega))
 clear HO62; have HO62 := n_; clear n_
 have n_ := Aside0.mk (Kd.R_kept HO67.out hk_ (fun k_ h1_ h2_ => by unfold Rng at h1_ h2_; have hz_ := HZ.out; omega))
 clear HO67; have HO67 := n_; clear n_
 clear HO48; have HO48 := Aside0.mk hy0; clear hy0
 clear HB; have HB := Aside0.mk HB2_; clear HB2_
 have hs_ : w100.heap.size ≤ w102.heap.size := hk_.1; clear hk_
 have n_ := Aside0.mk (And.intro hs_ HZ.out); clear HZ; have HZ := n_; clear n_ hs_
 have hm_ := cntSettingS_bd (cvSettingS l0) O0.out
 obtain ⟨m101, he_⟩ : ∃ m_ : Int, (1 : Int) + cntSettingS (cvSettingS l0) = m_ := ⟨_, rfl⟩
 rw [he_]
 have HMm101 : Aside0 (0 ≤ m101 ∧ m101 ≤ 2000000000001) := ⟨by omega⟩
 have HEm101 := Aside0.mk he_; clear he_ hm_
 have hdmm101 : decide (m101 < 0) = false := decide_eq_false (by have h_ := HMm101.out; omega)
 go_wp2_with (fail)
 have hk0_ : 0 ≤ (m101 : Int) ∧ (m101 : Int) ≤ 900000000000000 := by have h_ := HMm101.out; omega
 ((with_reducible refine (markSettingS_rng (Rng w44.heap.size w51.heap.size) _ (cvSettingS l1) m101 w _ HB.out HO55.out O1.out hk0_.1 (Int.le_trans hk0_.2 (by decide))).mono ?_))
 rintro e w104 ⟨rfl, hy0, HB2_, hk_⟩
 clear hk0_
 have n_ := Aside0.mk (Kd.R_kept HO41.out hk_ (fun k_ h1_ h2_ => by unfold Rng at h1_ h2_; have hz_ := HZ.out; omega))
 clear HO41; have HO41 := n_; clear n_
 have n_ := Aside0.mk (Kd.R_kept HO48.out hk_ (fun k_ h1_ h2_ => by unfold Rng at h1_ h2_; have hz_ := HZ.out; omega))
 clear HO48; have HO48 := n_; clear n_
 have n_ := Aside0.mk (Kd.R_kept HO62.out hk_ (fun k_ h1_ h2_ => by unfold Rng at h1_ h2_; have hz_ := HZ.out; omega))
 clear HO62; have HO62 := n_; clear n_
 have n_ := Aside0.mk (Kd.R_kept HO67.out hk_ (fun k_ h1_ h2_ => by unfold Rng at h1_ h2_; have hz_ := HZ.out; omega))
 clear HO67; have HO67 := n_; clear n_
 clear HO55; have HO55 := Aside0.mk hy0; clear hy0
 clear HB; have HB := Aside0.mk HB2_; clear HB2_
 have hs_ : w102.heap.size ≤ w104.heap.size := hk_.1; clear hk_
 have n_ := Aside0.mk (And.intro hs_ HZ.out); clear HZ; have HZ := n_; clear n_ hs_
 have hm_ := cntSettingS_bd (cvSettingS l1) O1.out
 obtain ⟨m103, he_⟩ : ∃ m_ : Int, (m101 : Int) + cntSettingS (cvSettingS l1) = m_ := ⟨_, rfl⟩
 rw [he_]
 have HMm103 : Aside0 (0 ≤ m103 ∧ m103 ≤ 4000000000001) := ⟨by have h_ := HMm101.out; omega⟩
 have HEm103 := Aside0.mk he_; clear he_ hm_
 have hdmm103 : decide (m103 < 0) = false := decide_eq_false (by have h_ := HMm103.out; omega)
 go_wp2_with (fail)
 have hk0_ : 0 ≤ (m103 : Int) ∧ (m103 : Int) ≤ 900000000000000 := by have h_ := HMm103.out; omega
 ((with_reducible refine (markSettingS_rng (Rng w51.heap.size w58.heap.size) _ (cvSettingS l2) m103 w _ HB.out HO62.out O2.out hk0_.1 (Int.le_trans hk0_.2 (by decide))).mono ?_))
 rintro e w106 ⟨rfl, hy0, HB2_, hk_⟩
 clear hk0_
 have n_ := Aside0.mk (Kd.R_kept HO41.out hk_ (fun k_ h1_ h2_ => by unfold Rng at h1_ h2_; have hz_ := HZ.out; omega))
 clear HO41; have HO41 := n_; clear n_
 have n_ := Aside0.mk (Kd.R_kept HO48.out hk_ (fun k_ h1_ h2_ => by unfold Rng at h1_ h2_; have hz_ := HZ.out; omega))
 clear HO48; have HO48 := n_; clear n_
 have n_ := Aside0.mk (Kd.R_kept HO55.out hk_ (fun k_ h1_ h2_ => by unfold Rng at h1_ h2_; have hz_ := HZ.out; omega))
 clear HO55; have HO55 := n_; clear n_
 have n_ := Aside0.mk (Kd.R_kept HO67.out hk_ (fun k_ h1_ h2_ => by unfold Rng at h1_ h2_; have hz_ := HZ.out; omega))
 clear HO67; have HO67 := n_; clear n_
 clear HO62; have HO62 := Aside0.mk hy0; clear hy0
 clear HB; have HB := Aside0.mk HB2_; clear HB2_
 have hs_ : w104.heap.size ≤ w106.heap.size := hk_.1; clear hk_
 have n_ := Aside0.mk (And.intro hs_ HZ.out); clear HZ; have HZ := n_; clear n_ hs_
 have hm_ := cntSettingS_bd (cvSettingS l2) O2.out
 obtain ⟨m105, he_⟩ : ∃ m_ : Int, (m103 : Int) + cntSettingS (cvSettingS l2) = m_ := ⟨_, rfl⟩
 rw [he_]
 have HMm105 : Aside0 (0 ≤ m105 ∧ m105 ≤ 6000000000001) := ⟨by have h_ := HMm103.out; omega⟩
 have HEm105 := Aside0.mk he_; clear he_ hm_
 have hdmm105 : decide (m105 < 0) = false := decide_eq_false (by have h_ := HMm105.out; omega)
 obtain ⟨k108, e107⟩ := Ev.rounds (eqSettingS_evo r1 OR0.out)
 have n_ := Aside0.mk e107; clear e107; have e107 := n_; clear n_
 go_wp2_with (fail)
 ((with_reducible refine (laws_eqSettingS.calls k108 A65 c66 r1 A39 c40 r1 true _ (Kd.R_reads' HO67.out).2.2 (Kd.R_reads' HO67.out).2.1 (Kd.R_reads' HO41.out).2.2 (Kd.R_reads' HO41.out).2.1 e107.out).mono ?_))
 rintro e w109 ⟨rfl, hd_⟩
 have hb_ := hd_; clear hd_
 have n_ := Aside0.mk (Kd.R_below HO41.out hb_)
 clear HO41; have HO41 := n_; clear n_
 have n_ := Aside0.mk (Kd.R_below HO48.out hb_)
 clear HO48; have HO48 := n_; clear n_
 have n_ := Aside0.mk (Kd.R_below HO55.out hb_)
 clear HO55; have HO55 := n_; clear n_
 have n_ := Aside0.mk (Kd.R_below HO62.out hb_)
 clear HO62; have HO62 := n_; clear n_
 have n_ := Aside0.mk (Kd.R_below HO67.out hb_)
 clear HO67; have HO67 := n_; clear n_
 have n_ := Aside0.mk (HB.out.trans (hb_.mono HB.out.size)); clear HB; have HB := n_; clear n_
 have hs_ : w106.heap.size ≤ w109.heap.size := hb_.size
 have n_ := Aside0.mk (And.intro hs_ HZ.out); clear HZ; have HZ := n_; clear n_ hs_
 clear hb_
 go_wp2_with (fail)
 have hk0_ : 0 ≤ (1 : Int) ∧ (1 : Int) ≤ 900000000000000 := by decide
 ((with_reducible refine (markSettingS_rng (Rng w58.heap.size w63.heap.size) _ r1 1 w _ HB.out HO67.out OR0.out hk0_.1 (Int.le_trans hk0_.2 (by decide))).mono ?_))
 rintro e w111 ⟨rfl, hy0, HB2_, hk_⟩
 clear hk0_
 have n_ := Aside0.mk (Kd.R_kept HO41.out hk_ (fun k_ h1_ h2_ => by unfold Rng at h1_ h2_; have hz_ := HZ.out; omega))
 clear HO41; have HO41 := n_; clear n_
 have n_ := Aside0.mk (Kd.R_kept HO48.out hk_ (fun k_ h1_ h2_ => by unfold Rng at h1_ h2_; have hz_ := HZ.out; omega))
 clear HO48; have HO48 := n_; clear n_
 have n_ := Aside0.mk (Kd.R_kept HO55.out hk_ (fun k_ h1_ h2_ => by unfold Rng at h1_ h2_; have hz_ := HZ.out; omega))
 clear HO55; have HO55 := n_; clear n_
 have n_ := Aside0.mk (Kd.R_kept HO62.out hk_ (fun k_ h1_ h2_ => by unfold Rng at h1_ h2_; have hz_ := HZ.out; omega))
 clear HO62; have HO62 := n_; clear n_
 clear HO67; have HO67 := Aside0.mk hy0; clear hy0
 clear HB; have HB := Aside0.mk HB2_; clear HB2_
 have hs_ : w109.heap.size ≤ w111.heap.size := hk_.1; clear hk_
 have n_ := Aside0.mk (And.intro hs_ HZ.out); clear HZ; have HZ := n_; clear n_ hs_
 have hm_ := cntSettingS_bd r1 OR0.out
 obtain ⟨m110, he_⟩ : ∃ m_ : Int, (1 : Int) + cntSettingS r1 = m_ := ⟨_, rfl⟩
 rw [he_]
 have HMm110 : Aside0 (0 ≤ m110 ∧ m110 ≤ 2000000000001) := ⟨by omega⟩
 have HEm110 := Aside0.mk he_; clear he_ hm_
 have hdmm110 : decide (m110 < 0) = false := decide_eq_false (by have h_ := HMm110.out; omega)
 obtain ⟨k113, e112⟩ := Ev.rounds (heldSettingS_ev r1 1 OR0.out (by decide) (by decide))
 have n_ := Aside0.mk e112; clear e112; have e112 := n_; clear n_
 have n_ := e112.out; rw [HEm110.out] at n_; clear e112; have e112 := Aside0.mk n_; clear n_
 go_wp2_with (fail)
 refine calls_of_args (args' := #[.slice A65 (mkSettingS r1 1).length c66, .int .i64 1]) (by simp only [mkSettingS_len r1 1]) ?_
 ((with_reducible refine (laws_heldSettingS.calls k113 A65 c66 (mkSettingS r1 1) 1 m110 _ (Kd.R_reads' HO67.out).2.2 (by have h_ := Kd.R_reads' HO67.out; have h1_ := h_.1; have h2_ := h_.2.1; omega) e112.out).mono ?_))
 rintro e w114 ⟨rfl, hd_⟩
 have hb_ := hd_; clear hd_
 have n_ := Aside0.mk (Kd.R_below HO41.out hb_)
 clear HO41; have HO41 := n_; clear n_
 have n_ := Aside0.mk (Kd.R_below HO48.out hb_)
 clear HO48; have HO48 := n_; clear n_
 have n_ := Aside0.mk (Kd.R_below HO55.out hb_)
 clear HO55; have HO55 := n_; clear n_
 have n_ := Aside0.mk (Kd.R_below HO62.out hb_)
 clear HO62; have HO62 := n_; clear n_
 have n_ := Aside0.mk (Kd.R_below HO67.out hb_)
 clear HO67; have HO67 := n_; clear n_
 have n_ := Aside0.mk (HB.out.trans (hb_.mono HB.out.size)); clear HB; have HB := n_; clear n_
 have hs_ : w111.heap.size ≤ w114.heap.size := hb_.size
 have n_ := Aside0.mk (And.intro hs_ HZ.out); clear HZ; have HZ := n_; clear n_ hs_
 clear hb_
 obtain ⟨k116, e115⟩ := Ev.rounds (toSettingS_evo l0 O0.out)
 have n_ := Aside0.mk e115; clear e115; have e115 := n_; clear n_
 go_wp2_with (fail)
 ((with_reducible refine (laws_toSettingS.calls k116 A0 c0 l0 (cvSettingS l0) _ (Kd.C_below HR0.out HB.out) HC0.out e115.out).mono ?_))
 rintro e w117 ⟨v118, rfl, ho0, hb_⟩
 obtain ⟨A119, c120, rfl⟩ := Kd.R_slice ho0
 have HO121 := Aside0.mk (Kd.R_lower (Kd.R_mono (ok' := Rng w114.heap.size w117.heap.size) (Kd.R_bound ho0) (fun k_ h_ => ⟨h_.2.1, h_.2.2.1⟩)) HB.out.size)
 clear ho0
 have n_ := Aside0.mk (Kd.R_below HO41.out hb_)
 clear HO41; have HO41 := n_; clear n_
 have n_ := Aside0.mk (Kd.R_below HO48.out hb_)
 clear HO48; have HO48 := n_; clear n_
 have n_ := Aside0.mk (Kd.R_below HO55.out hb_)
 clear HO55; have HO55 := n_; clear n_
 have n_ := Aside0.mk (Kd.R_below HO62.out hb_)
 clear HO62; have HO62 := n_; clear n_
 have n_ := Aside0.mk (Kd.R_below HO67.out hb_)
 clear HO67; have HO67 := n_; clear n_
 have n_ := Aside0.mk (HB.out.trans (hb_.mono HB.out.size)); clear HB; have HB := n_; clear n_
 have hs_ : w114.heap.size ≤ w117.heap.size := hb_.size
 have n_ := Aside0.mk (And.intro hs_ HZ.out); clear HZ; have HZ := n_; clear n_ hs_
 clear hb_
 obtain ⟨k123, e122⟩ := Ev.rounds (toSettingS_evo l1 O1.out)
 have n_ := Aside0.mk e122; clear e122; have e122 := n_; clear n_
 go_wp2_with (fail)
 ((with_reducible refine (laws_toSettingS.calls k123 A1 c1 l1 (cvSettingS l1) _ (Kd.C_below HR1.out HB.out) HC1.out e122.out).mono ?_))
 rintro e w124 ⟨v125, rfl, ho0, hb_⟩
 obtain ⟨A126, c127, rfl⟩ := Kd.R_slice ho0
 have HO128 := Aside0.mk (Kd.R_lower (Kd.R_mono (ok' := Rng w117.heap.size w124.heap.size) (Kd.R_bound ho0) (fun k_ h_ => ⟨h_.2.1, h_.2.2.1⟩)) HB.out.size)
 clear ho0
 have n_ := Aside0.mk (Kd.R_below HO41.out hb_)
 clear HO41; have HO41 := n_; clear n_
 have n_ := Aside0.mk (Kd.R_below HO48.out hb_)
 clear HO48; have HO48 := n_; clear n_
 have n_ := Aside0.mk (Kd.R_below HO55.out hb_)
 clear HO55; have HO55 := n_; clear n_
 have n_ := Aside0.mk (Kd.R_below HO62.out hb_)
 clear HO62; have HO62 := n_; clear n_
 have n_ := Aside0.mk (Kd.R_below HO67.out hb_)
 clear HO67; have HO67 := n_; clear n_
 have n_ := Aside0.mk (Kd.R_below HO121.out hb_)
 clear HO121; have HO121 := n_; clear n_
 have n_ := Aside0.mk (HB.out.trans (hb_.mono HB.out.size)); clear HB; have HB := n_; clear n_
 have hs_ : w117.heap.size ≤ w124.heap.size := hb_.size
 have n_ := Aside0.mk (And.intro hs_ HZ.out); clear HZ; have HZ := n_; clear n_ hs_
 clear hb_
 obtain ⟨k130, e129⟩ := Ev.rounds (toSettingS_evo l2 O2.out)
 have n_ := Aside0.mk e129; clear e129; have e129 := n_; clear n_
 go_wp2_with (fail)
 ((with_reducible refine (laws_toSettingS.calls k130 A2 c2 l2 (cvSettingS l2) _ (Kd.C_below HR2.out HB.out) HC2.out e129.out).mono ?_))
 rintro e w131 ⟨v132, rfl, ho0, hb_⟩
 obtain ⟨A133, c134, rfl⟩ := Kd.R_slice ho0
 have HO135 := Aside0.mk (Kd.R_lower (Kd.R_mono (ok' := Rng w124.heap.size w131.heap.size) (Kd.R_bound ho0) (fun k_ h_ => ⟨h_.2.1, h_.2.2.1⟩)) HB.out.size)
 clear ho0
 have n_ := Aside0.mk (Kd.R_below HO41.out hb_)
 clear HO41; have HO41 := n_; clear n_
 have n_ := Aside0.mk (Kd.R_below HO48.out hb_)
 clear HO48; have HO48 := n_; clear n_
 have n_ := Aside0.mk (Kd.R_below HO55.out hb_)
 clear HO55; have HO55 := n_; clear n_
 have n_ := Aside0.mk (Kd.R_below HO62.out hb_)
 clear HO62; have HO62 := n_; clear n_
 have n_ := Aside0.mk (Kd.R_below HO67.out hb_)
 clear HO67; have HO67 := n_; clear n_
 have n_ := Aside0.mk (Kd.R_below HO121.out hb_)
 clear HO121; have HO121 := n_; clear n_
 have n_ := Aside0.mk (Kd.R_below HO128.out hb_)
 clear HO128; have HO128 := n_; clear n_
 have n_ := Aside0.mk (HB.out.trans (hb_.mono HB.out.size)); clear HB; have HB := n_; clear n_
 have hs_ : w124.heap.size ≤ w131.heap.size := hb_.size
 have n_ := Aside0.mk (And.intro hs_ HZ.out); clear HZ; have HZ := n_; clear n_ hs_
 clear hb_
 go_wp2_with (fail)
 ((with_reducible refine (impl_MergeStates.calls kEI (fun _ => True) A119 c120 (cvSettingS l0) (fun _ => True) A126 c127 (cvSettingS l1) (fun _ => True) A133 c134 (cvSettingS l2) r1 r2 _ (V_ofR HO121.out) (V_ofR HO128.out) (V_ofR HO135.out) EI.out).mono ?_))
 rintro e w136 ⟨v137, rfl, ho0, hb_⟩
 obtain ⟨A138, c139, rfl⟩ := Kd.R_slice ho0
 have HO140 := Aside0.mk (Kd.R_lower (Kd.R_mono (ok' := Rng w131.heap.size w136.heap.size) (Kd.R_bound ho0) (fun k_ h_ => ⟨h_.2.1, h_.2.2.1⟩)) HB.out.size)
 clear ho0
 have n_ := Aside0.mk (Kd.R_below HO41.out hb_)
 clear HO41; have HO41 := n_; clear n_
 have n_ := Aside0.mk (Kd.R_below HO48.out hb_)
 clear HO48; have HO48 := n_; clear n_
 have n_ := Aside0.mk (Kd.R_below HO55.out hb_)
 clear HO55; have HO55 := n_; clear n_
 have n_ := Aside0.mk (Kd.R_below HO62.out hb_)
 clear HO62; have HO62 := n_; clear n_
 have n_ := Aside0.mk (Kd.R_below HO67.out hb_)
 clear HO67; have HO67 := n_; clear n_
 have n_ := Aside0.mk (Kd.R_below HO121.out hb_)
 clear HO121; have HO121 := n_; clear n_
 have n_ := Aside0.mk (Kd.R_below HO128.out hb_)
 clear HO128; have HO128 := n_; clear n_
 have n_ := Aside0.mk (Kd.R_below HO135.out hb_)
 clear HO135; have HO135 := n_; clear n_
 have n_ := Aside0.mk (HB.out.trans (hb_.mono HB.out.size)); clear HB; have HB := n_; clear n_
 have hs_ : w131.heap.size ≤ w136.heap.size := hb_.size
 have n_ := Aside0.mk (And.intro hs_ HZ.out); clear HZ; have HZ := n_; clear n_ hs_
 clear hb_
 clear HO121
 clear HO128
 clear HO135
 obtain ⟨k142, e141⟩ := Ev.rounds (eqSettingS_evo r1 OR0.out)
 have n_ := Aside0.mk e141; clear e141; have e141 := n_; clear n_
 go_wp2_with (fail)
 ((with_reducible refine (laws_eqSettingS.calls k142 A138 c139 r1 A39 c40 r1 true _ (Kd.R_reads' HO140.out).2.2 (Kd.R_reads' HO140.out).2.1 (Kd.R_reads' HO41.out).2.2 (Kd.R_reads' HO41.out).2.1 e141.out).mono ?_))
 rintro e w143 ⟨rfl, hd_⟩
 have hb_ := hd_; clear hd_
 have n_ := Aside0.mk (Kd.R_below HO41.out hb_)
 clear HO41; have HO41 := n_; clear n_
 have n_ := Aside0.mk (Kd.R_below HO48.out hb_)
 clear HO48; have HO48 := n_; clear n_
 have n_ := Aside0.mk (Kd.R_below HO55.out hb_)
 clear HO55; have HO55 := n_; clear n_
 have n_ := Aside0.mk (Kd.R_below HO62.out hb_)
 clear HO62; have HO62 := n_; clear n_
 have n_ := Aside0.mk (Kd.R_below HO67.out hb_)
 clear HO67; have HO67 := n_; clear n_
 have n_ := Aside0.mk (Kd.R_below HO140.out hb_)
 clear HO140; have HO140 := n_; clear n_
 have n_ := Aside0.mk (HB.out.trans (hb_.mono HB.out.size)); clear HB; have HB := n_; clear n_
 have hs_ : w136.heap.size ≤ w143.heap.size := hb_.size
 have n_ := Aside0.mk (And.intro hs_ HZ.out); clear HZ; have HZ := n_; clear n_ hs_
 clear hb_
 obtain ⟨k145, e144⟩ := Ev.rounds (heldSettingS_ev r1 1 OR0.out (by decide) (by decide))
 have n_ := Aside0.mk e144; clear e144; have e144 := n_; clear n_
 have n_ := e144.out; rw [HEm110.out] at n_; clear e144; have e144 := Aside0.mk n_; clear n_
 go_wp2_with (fail)
 refine calls_of_args (args' := #[.slice A65 (mkSettingS r1 1).length c66, .int .i64 1]) (by simp only [mkSettingS_len r1 1]) ?_
 ((with_reducible refine (laws_heldSettingS.calls k145 A65 c66 (mkSettingS r1 1) 1 m110 _ (Kd.R_reads' HO67.out).2.2 (by have h_ := Kd.R_reads' HO67.out; have h1_ := h_.1; have h2_ := h_.2.1; omega) e144.out).mono ?_))
 rintro e w146 ⟨rfl, hd_⟩
 have hb_ := hd_; clear hd_
 have n_ := Aside0.mk (Kd.R_below HO41.out hb_)
 clear HO41; have HO41 := n_; clear n_
 have n_ := Aside0.mk (Kd.R_below HO48.out hb_)
 clear HO48; have HO48 := n_; clear n_
 have n_ := Aside0.mk (Kd.R_below HO55.out hb_)
 clear HO55; have HO55 := n_; clear n_
 have n_ := Aside0.mk (Kd.R_below HO62.out hb_)
 clear HO62; have HO62 := n_; clear n_
 have n_ := Aside0.mk (Kd.R_below HO67.out hb_)
 clear HO67; have HO67 := n_; clear n_
 have n_ := Aside0.mk (Kd.R_below HO140.out hb_)
 clear HO140; have HO140 := n_; clear n_
 have n_ := Aside0.mk (HB.out.trans (hb_.mono HB.out.size)); clear HB; have HB := n_; clear n_
 have hs_ : w143.heap.size ≤ w146.heap.size := hb_.size
 have n_ := Aside0.mk (And.intro hs_ HZ.out); clear HZ; have HZ := n_; clear n_ hs_
 clear hb_
 go_wp2
 go_ret
 exact ⟨rfl, HB.out⟩
end Go.Proofs.Ytenjhbkpcelidaa.LwFnExactMergeStates
