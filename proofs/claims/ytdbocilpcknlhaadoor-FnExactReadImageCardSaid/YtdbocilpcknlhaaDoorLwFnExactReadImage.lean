/- The walk of the law FnExactReadImage: written by a program of this session. -/
import Derived.Test.YtdbocilpcknlhaaDoorPureFnExactReadImage
import Derived.Test.YtdbocilpcknlhaaDoorMkFnExactReadImage
namespace Go.Proofs.YtdbocilpcknlhaaDoor.LwFnExactReadImage
open Go.RowKit Go.Proofs.YtdbocilpcknlhaaDoor.PFnExactReadImage Go.Proofs.YtdbocilpcknlhaaDoor.Pure Go.Proofs.YtdbocilpcknlhaaDoorW.PrintWords Go.Proofs.YtdbocilpcknlhaaDoorW.PrintLast Go.Proofs.YtdbocilpcknlhaaDoorW.PrintMore
set_option linter.unusedVariables false
set_option linter.unusedSimpArgs false
/- What Pure must hold: theorem core : ∀ (a0 : ByteArray) (w0 : a0.size ≤ 140737488351232) (o0 : a0.size ≤ 1048576), ∃ (r1 : List (List Int)) (r2 : Bool), Ev (fun k => spec_ReadImage.f k a0) (r1, r2) ∧ Ev (fun k => impl_ReadImage.f k a0) (r1, r2) ∧ okInt64SS r1 -/
set_option maxHeartbeats 8000000 in
set_option maxRecDepth 100000 in
theorem walk (a0 : ByteArray) (w : World) (w0 : a0.size ≤ 140737488351232) (ht_ : WOK w) :
  Calls Tryd.prog 12 #[.string a0] w fun e w' => e = .returned (.bool true) ∧ Below w.heap.size w w' := by
 have HWOK_ := Aside0.mk ht_
 clear ht_
 have HW0 := Aside0.mk w0
 clear w0
 have HB := Aside0.mk (Below.refl w.heap.size w)
 go_enter Tryd.func12, Tryd.ntmps12
 by_cases hg0 : a0.size ≤ 1048576
 rotate_left
 ·
  have hg1_ : decide ((1048576 : Int) < (a0.size : Int)) = true := decide_eq_true (by omega)
  have hg2_ : decide (1048576 < a0.size) = true := decide_eq_true (by omega)
  go_wp2
  go_ret
  exact ⟨rfl, HB.out⟩
 have hg1_ : decide ((1048576 : Int) < (a0.size : Int)) = false := decide_eq_false (by omega)
 have hg2_ : decide (1048576 < a0.size) = false := decide_eq_false (by omega)
 have O0 := Aside0.mk (hg0); clear hg0
 obtain ⟨r1, r2, es_, ei_, ok0_⟩ := core a0 HW0.out O0.out
 obtain ⟨kES, h_⟩ := Ev.rounds es_; have ES := Aside0.mk h_; clear h_ es_
 obtain ⟨kEI, h_⟩ := Ev.rounds ei_; have EI := Aside0.mk h_; clear h_ ei_
 have OR0 := Aside0.mk ok0_; clear ok0_
 go_wp2_with (fail)
 ((with_reducible refine (spec_ReadImage.calls kES a0 r1 r2 _  ES.out).mono ?_))
 rintro e w1 ⟨v2, rfl, ho0, hb_⟩
 obtain ⟨A3, c4, rfl⟩ := Kd.S_slice ho0
 have HO5 := Aside0.mk (Kd.S_lower (Kd.S_mono (ok' := Rng w.heap.size w1.heap.size) (Kd.S_bound ho0) (fun k_ h_ => ⟨h_.2.1, h_.2.2.1⟩)) HB.out.size)
 clear ho0
 have n_ := Aside0.mk (HB.out.trans (hb_.mono HB.out.size)); clear HB; have HB := n_; clear n_
 have hs_ : w.heap.size ≤ w1.heap.size := hb_.size
 have HZ := Aside0.mk (And.intro hs_ True.intro); clear hs_
 clear hb_
 go_wp2_with (fail)
 ((with_reducible refine (impl_ReadImage.calls kEI a0 r1 r2 _ (wok_ HWOK_.out HB.out) EI.out).mono ?_))
 rintro e w6 ⟨v7, rfl, ho0, hb_⟩
 obtain ⟨A8, c9, rfl⟩ := Kd.S_slice ho0
 have HO10 := Aside0.mk (Kd.S_lower (Kd.S_mono (ok' := Rng w1.heap.size w6.heap.size) (Kd.S_bound ho0) (fun k_ h_ => ⟨h_.2.1, h_.2.2.1⟩)) HB.out.size)
 clear ho0
 have n_ := Aside0.mk (Kd.S_below HO5.out hb_)
 clear HO5; have HO5 := n_; clear n_
 have n_ := Aside0.mk (HB.out.trans (hb_.mono HB.out.size)); clear HB; have HB := n_; clear n_
 have hs_ : w1.heap.size ≤ w6.heap.size := hb_.size
 have n_ := Aside0.mk (And.intro hs_ HZ.out); clear HZ; have HZ := n_; clear n_ hs_
 clear hb_
 obtain ⟨k12, e11⟩ := Ev.rounds (eqInt64SS_evo r1 OR0.out)
 have n_ := Aside0.mk e11; clear e11; have e11 := n_; clear n_
 go_wp2_with (fail)
 ((with_reducible refine (laws_eqInt64SS.calls k12 A8 c9 r1 A3 c4 r1 true _ (Kd.S_reads' HO10.out).2.2 (Kd.S_reads' HO10.out).2.1 (Kd.S_reads' HO5.out).2.2 (Kd.S_reads' HO5.out).2.1 e11.out).mono ?_))
 rintro e w13 ⟨rfl, hd_⟩
 have hb_ := hd_.below; clear hd_
 have n_ := Aside0.mk (Kd.S_below HO5.out hb_)
 clear HO5; have HO5 := n_; clear n_
 have n_ := Aside0.mk (Kd.S_below HO10.out hb_)
 clear HO10; have HO10 := n_; clear n_
 have n_ := Aside0.mk (HB.out.trans (hb_.mono HB.out.size)); clear HB; have HB := n_; clear n_
 have hs_ : w6.heap.size ≤ w13.heap.size := hb_.size
 have n_ := Aside0.mk (And.intro hs_ HZ.out); clear HZ; have HZ := n_; clear n_ hs_
 clear hb_
 go_wp2_with (fail)
 have hk0_ : 0 ≤ (1 : Int) ∧ (1 : Int) ≤ 900000000000000 := by decide
 ((with_reducible refine (markInt64SS_rng (Rng w1.heap.size w6.heap.size) _ r1 1 w _ HB.out HO10.out OR0.out hk0_.1 (Int.le_trans hk0_.2 (by decide))).mono ?_))
 rintro e w15 ⟨rfl, hy0, HB2_, hk_⟩
 clear hk0_
 have n_ := Aside0.mk (Kd.S_kept HO5.out hk_ (fun k_ h1_ h2_ => by unfold Rng at h1_ h2_; have hz_ := HZ.out; omega))
 clear HO5; have HO5 := n_; clear n_
 clear HO10; have HO10 := Aside0.mk hy0; clear hy0
 clear HB; have HB := Aside0.mk HB2_; clear HB2_
 have hs_ : w13.heap.size ≤ w15.heap.size := hk_.1; clear hk_
 have n_ := Aside0.mk (And.intro hs_ HZ.out); clear HZ; have HZ := n_; clear n_ hs_
 have hm_ := cntInt64SS_bd r1 OR0.out
 obtain ⟨m14, he_⟩ : ∃ m_ : Int, (1 : Int) + cntInt64SS r1 = m_ := ⟨_, rfl⟩
 rw [he_]
 have HMm14 : Aside0 (0 ≤ m14 ∧ m14 ≤ 3000000000001) := ⟨by omega⟩
 have HEm14 := Aside0.mk he_; clear he_ hm_
 have hdmm14 : decide (m14 < 0) = false := decide_eq_false (by have h_ := HMm14.out; omega)
 obtain ⟨k17, e16⟩ := Ev.rounds (heldInt64SS_ev r1 1 OR0.out (by decide) (by decide))
 have n_ := Aside0.mk e16; clear e16; have e16 := n_; clear n_
 have n_ := e16.out; rw [HEm14.out] at n_; clear e16; have e16 := Aside0.mk n_; clear n_
 go_wp2_with (fail)
 refine calls_of_args (args' := #[.slice A8 (mkInt64SS r1 1).length c9, .int .i64 1]) (by simp only [mkInt64SS_len r1 1]) ?_
 ((with_reducible refine (laws_heldInt64SS.calls k17 A8 c9 (mkInt64SS r1 1) 1 m14 _ (Kd.S_reads' HO10.out).2.2 (by have h_ := Kd.S_reads' HO10.out; have h1_ := h_.1; have h2_ := h_.2.1; omega) e16.out).mono ?_))
 rintro e w18 ⟨rfl, hd_⟩
 have hb_ := hd_.below; clear hd_
 have n_ := Aside0.mk (Kd.S_below HO5.out hb_)
 clear HO5; have HO5 := n_; clear n_
 have n_ := Aside0.mk (Kd.S_below HO10.out hb_)
 clear HO10; have HO10 := n_; clear n_
 have n_ := Aside0.mk (HB.out.trans (hb_.mono HB.out.size)); clear HB; have HB := n_; clear n_
 have hs_ : w15.heap.size ≤ w18.heap.size := hb_.size
 have n_ := Aside0.mk (And.intro hs_ HZ.out); clear HZ; have HZ := n_; clear n_ hs_
 clear hb_
 go_wp2_with (fail)
 ((with_reducible refine (impl_ReadImage.calls kEI a0 r1 r2 _ (wok_ HWOK_.out HB.out) EI.out).mono ?_))
 rintro e w19 ⟨v20, rfl, ho0, hb_⟩
 obtain ⟨A21, c22, rfl⟩ := Kd.S_slice ho0
 have HO23 := Aside0.mk (Kd.S_lower (Kd.S_mono (ok' := Rng w18.heap.size w19.heap.size) (Kd.S_bound ho0) (fun k_ h_ => ⟨h_.2.1, h_.2.2.1⟩)) HB.out.size)
 clear ho0
 have n_ := Aside0.mk (Kd.S_below HO5.out hb_)
 clear HO5; have HO5 := n_; clear n_
 have n_ := Aside0.mk (Kd.S_below HO10.out hb_)
 clear HO10; have HO10 := n_; clear n_
 have n_ := Aside0.mk (HB.out.trans (hb_.mono HB.out.size)); clear HB; have HB := n_; clear n_
 have hs_ : w18.heap.size ≤ w19.heap.size := hb_.size
 have n_ := Aside0.mk (And.intro hs_ HZ.out); clear HZ; have HZ := n_; clear n_ hs_
 clear hb_
 obtain ⟨k25, e24⟩ := Ev.rounds (eqInt64SS_evo r1 OR0.out)
 have n_ := Aside0.mk e24; clear e24; have e24 := n_; clear n_
 go_wp2_with (fail)
 ((with_reducible refine (laws_eqInt64SS.calls k25 A21 c22 r1 A3 c4 r1 true _ (Kd.S_reads' HO23.out).2.2 (Kd.S_reads' HO23.out).2.1 (Kd.S_reads' HO5.out).2.2 (Kd.S_reads' HO5.out).2.1 e24.out).mono ?_))
 rintro e w26 ⟨rfl, hd_⟩
 have hb_ := hd_.below; clear hd_
 have n_ := Aside0.mk (Kd.S_below HO5.out hb_)
 clear HO5; have HO5 := n_; clear n_
 have n_ := Aside0.mk (Kd.S_below HO10.out hb_)
 clear HO10; have HO10 := n_; clear n_
 have n_ := Aside0.mk (Kd.S_below HO23.out hb_)
 clear HO23; have HO23 := n_; clear n_
 have n_ := Aside0.mk (HB.out.trans (hb_.mono HB.out.size)); clear HB; have HB := n_; clear n_
 have hs_ : w19.heap.size ≤ w26.heap.size := hb_.size
 have n_ := Aside0.mk (And.intro hs_ HZ.out); clear HZ; have HZ := n_; clear n_ hs_
 clear hb_
 obtain ⟨k28, e27⟩ := Ev.rounds (heldInt64SS_ev r1 1 OR0.out (by decide) (by decide))
 have n_ := Aside0.mk e27; clear e27; have e27 := n_; clear n_
 have n_ := e27.out; rw [HEm14.out] at n_; clear e27; have e27 := Aside0.mk n_; clear n_
 go_wp2_with (fail)
 refine calls_of_args (args' := #[.slice A8 (mkInt64SS r1 1).length c9, .int .i64 1]) (by simp only [mkInt64SS_len r1 1]) ?_
 ((with_reducible refine (laws_heldInt64SS.calls k28 A8 c9 (mkInt64SS r1 1) 1 m14 _ (Kd.S_reads' HO10.out).2.2 (by have h_ := Kd.S_reads' HO10.out; have h1_ := h_.1; have h2_ := h_.2.1; omega) e27.out).mono ?_))
 rintro e w29 ⟨rfl, hd_⟩
 have hb_ := hd_.below; clear hd_
 have n_ := Aside0.mk (Kd.S_below HO5.out hb_)
 clear HO5; have HO5 := n_; clear n_
 have n_ := Aside0.mk (Kd.S_below HO10.out hb_)
 clear HO10; have HO10 := n_; clear n_
 have n_ := Aside0.mk (Kd.S_below HO23.out hb_)
 clear HO23; have HO23 := n_; clear n_
 have n_ := Aside0.mk (HB.out.trans (hb_.mono HB.out.size)); clear HB; have HB := n_; clear n_
 have hs_ : w26.heap.size ≤ w29.heap.size := hb_.size
 have n_ := Aside0.mk (And.intro hs_ HZ.out); clear HZ; have HZ := n_; clear n_ hs_
 clear hb_
 go_wp2
 go_ret
 exact ⟨rfl, HB.out⟩
end Go.Proofs.YtdbocilpcknlhaaDoor.LwFnExactReadImage
