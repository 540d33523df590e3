-- PRINTED by print.py (a twelfth state) out of the translation. Not trusted: Lean checks it.
import Derived.Test.YtebkgebibammiaaPFnExactIsWithinx0
import Derived.Test.YtebkgebibammiaaPFnExactIsWithinx3
namespace Go.Proofs.Ytebkgebibammiaa.PFnExactIsWithin
open Go.RowKit Go.Proofs.YtebkgebibammiaaW.PrintWords Go.Proofs.YtebkgebibammiaaW.PrintLast Go.Proofs.YtebkgebibammiaaW.PrintMore
attribute [local go_sem] max2_int min2_int max_two min_two max_three min_three max_four min_four   -- for this text's walks alone
set_option linter.unusedVariables false
set_option linter.unusedSimpArgs false

/-! ### spec_l13One: function 115 -/
def inU (lo hi x : Int) : Bool := decide (lo ≤ x) && decide (x ≤ hi)
theorem l00In_u (a lo hi : Int) (w : World) : Calls Try.prog 102 #[.int .i64 a, .int .i64 lo, .int .i64 hi] w fun e w' => e = .returned (.bool (inU lo hi a)) ∧ Drawn0 w w' :=
 spec_l00In.calls a lo hi (inU lo hi a) w (by
  unfold spec_l00In.f inU
  by_cases h : a ≥ lo
  ·
   rw [if_pos h, decide_eq_true (show lo ≤ a from h)]; rfl
  ·
   rw [if_neg h, decide_eq_false (show ¬ lo ≤ a from h)]; rfl)
def mxU (a b : Int) : Int := if a > b then a else b
theorem l00Max_u (a b : Int) (w : World) : Calls Try.prog 140 #[.int .i64 a, .int .i64 b] w fun e w' => e = .returned (.int .i64 (mxU a b)) ∧ Drawn0 w w' :=
 spec_l00Max.calls a b (mxU a b) w (by
  unfold spec_l00Max.f mxU
  split <;> rfl)
def unitR (x : S77) : Bool := inU 0 100000 x.f1 && (inU (mxU 1 x.f1) 100000 x.f2 && (inU 0 100000 x.f3 && (inU 0 100000000 x.f4 && (inU 1 3 x.f5 && inU 1 3 x.f6))))
def spec_l13One.f (k : Nat) (l0 : List S77) : Option Bool := if 0 < l0.length then (spec_l01Name.f k (rd_T77 l0 0).f0).bind fun t => some (t && unitR (rd_T77 l0 0)) else none
theorem spec_l13One.mono : ∀ a0 k, LeO (spec_l13One.f k a0) (spec_l13One.f (k + 1) a0) := by
 intro a0 k
 unfold spec_l13One.f
 refine LeO.ite ?_ (LeO.none _)
 exact LeO.bind (spec_l01Name.mono _ _) (fun _ => LeO.refl _)
theorem l13One_wn (k : Nat) (ad : Addr) (x0 : ByteArray) (x1 x2 x3 x4 x5 x6 : Int) (w : World) (c0 : w.cell? ad = some (.string x0)) (c1 : w.cell? ⟨ad.block, ad.off + 1, none⟩ = some (.int .i64 x1)) (c2 : w.cell? ⟨ad.block, ad.off + 2, none⟩ = some (.int .i64 x2)) (c3 : w.cell? ⟨ad.block, ad.off + 3, none⟩ = some (.int .i64 x3)) (c4 : w.cell? ⟨ad.block, ad.off + 4, none⟩ = some (.int .i64 x4)) (c5 : w.cell? ⟨ad.block, ad.off + 5, none⟩ = some (.int .i64 x5)) (c6 : w.cell? ⟨ad.block, ad.off + 6, none⟩ = some (.int .i64 x6))
  (hn : spec_l01Name.f k x0 = some false) : Calls Try.prog 115 #[.pointer (some ad)] w fun e w' => e = .returned (.bool false) ∧ Drawn0 w w' := by
 have HN := Aside0.mk hn
 clear hn
 go_enter Try.func115, Try.ntmps115
 go_wp2_with (first | (go_at_call 145; (with_reducible refine (spec_l01Name.calls k x0 false _ HN.out).mono ?_); rintro e w' ⟨rfl, ⟨nd, rfl⟩⟩; (try first | exact ⟨rfl, _, World.drewN_drewN _ _ _⟩ | exact ⟨rfl, _, Eq.trans (World.drewN_drewN _ _ _) (congrArg (World.drewN _) (Nat.add_assoc _ _ _))⟩)) | (go_at_call 102; (with_reducible refine (l00In_u _ _ _ _).mono ?_); rintro e w' ⟨rfl, ⟨nd, rfl⟩⟩; (try first | exact ⟨rfl, _, World.drewN_drewN _ _ _⟩ | exact ⟨rfl, _, Eq.trans (World.drewN_drewN _ _ _) (congrArg (World.drewN _) (Nat.add_assoc _ _ _))⟩)) | (go_at_call 140; (with_reducible refine (l00Max_u _ _ _).mono ?_); rintro e w' ⟨rfl, ⟨nd, rfl⟩⟩; (try first | exact ⟨rfl, _, World.drewN_drewN _ _ _⟩ | exact ⟨rfl, _, Eq.trans (World.drewN_drewN _ _ _) (congrArg (World.drewN _) (Nat.add_assoc _ _ _))⟩)))
 repeat (go_quiet (first | (go_at_call 145; (with_reducible refine (spec_l01Name.calls k x0 false _ HN.out).mono ?_); rintro e w' ⟨rfl, ⟨nd, rfl⟩⟩; (try first | exact ⟨rfl, _, World.drewN_drewN _ _ _⟩ | exact ⟨rfl, _, Eq.trans (World.drewN_drewN _ _ _) (congrArg (World.drewN _) (Nat.add_assoc _ _ _))⟩)) | (go_at_call 102; (with_reducible refine (l00In_u _ _ _ _).mono ?_); rintro e w' ⟨rfl, ⟨nd, rfl⟩⟩; (try first | exact ⟨rfl, _, World.drewN_drewN _ _ _⟩ | exact ⟨rfl, _, Eq.trans (World.drewN_drewN _ _ _) (congrArg (World.drewN _) (Nat.add_assoc _ _ _))⟩)) | (go_at_call 140; (with_reducible refine (l00Max_u _ _ _).mono ?_); rintro e w' ⟨rfl, ⟨nd, rfl⟩⟩; (try first | exact ⟨rfl, _, World.drewN_drewN _ _ _⟩ | exact ⟨rfl, _, Eq.trans (World.drewN_drewN _ _ _) (congrArg (World.drewN _) (Nat.add_assoc _ _ _))⟩))); try go_wp2_with (first | (go_at_call 145; (with_reducible refine (spec_l01Name.calls k x0 false _ HN.out).mono ?_); rintro e w' ⟨rfl, ⟨nd, rfl⟩⟩; (try first | exact ⟨rfl, _, World.drewN_drewN _ _ _⟩ | exact ⟨rfl, _, Eq.trans (World.drewN_drewN _ _ _) (congrArg (World.drewN _) (Nat.add_assoc _ _ _))⟩)) | (go_at_call 102; (with_reducible refine (l00In_u _ _ _ _).mono ?_); rintro e w' ⟨rfl, ⟨nd, rfl⟩⟩; (try first | exact ⟨rfl, _, World.drewN_drewN _ _ _⟩ | exact ⟨rfl, _, Eq.trans (World.drewN_drewN _ _ _) (congrArg (World.drewN _) (Nat.add_assoc _ _ _))⟩)) | (go_at_call 140; (with_reducible refine (l00Max_u _ _ _).mono ?_); rintro e w' ⟨rfl, ⟨nd, rfl⟩⟩; (try first | exact ⟨rfl, _, World.drewN_drewN _ _ _⟩ | exact ⟨rfl, _, Eq.trans (World.drewN_drewN _ _ _) (congrArg (World.drewN _) (Nat.add_assoc _ _ _))⟩))))
 go_ret
 exact ⟨rs_, dr_⟩
theorem l13One_w0 (k : Nat) (ad : Addr) (x0 : ByteArray) (x1 x2 x3 x4 x5 x6 : Int) (w : World) (c0 : w.cell? ad = some (.string x0)) (c1 : w.cell? ⟨ad.block, ad.off + 1, none⟩ = some (.int .i64 x1)) (c2 : w.cell? ⟨ad.block, ad.off + 2, none⟩ = some (.int .i64 x2)) (c3 : w.cell? ⟨ad.block, ad.off + 3, none⟩ = some (.int .i64 x3)) (c4 : w.cell? ⟨ad.block, ad.off + 4, none⟩ = some (.int .i64 x4)) (c5 : w.cell? ⟨ad.block, ad.off + 5, none⟩ = some (.int .i64 x5)) (c6 : w.cell? ⟨ad.block, ad.off + 6, none⟩ = some (.int .i64 x6))
  (hn : spec_l01Name.f k x0 = some true) (h0 : (inU 0 100000 x1) = false) : Calls Try.prog 115 #[.pointer (some ad)] w fun e w' => e = .returned (.bool false) ∧ Drawn0 w w' := by
 have HN := Aside0.mk hn
 clear hn
 go_enter Try.func115, Try.ntmps115
 go_wp2_with (first | (go_at_call 145; (with_reducible refine (spec_l01Name.calls k x0 true _ HN.out).mono ?_); rintro e w' ⟨rfl, ⟨nd, rfl⟩⟩; (try first | exact ⟨rfl, _, World.drewN_drewN _ _ _⟩ | exact ⟨rfl, _, Eq.trans (World.drewN_drewN _ _ _) (congrArg (World.drewN _) (Nat.add_assoc _ _ _))⟩)) | (go_at_call 102; (with_reducible refine (l00In_u _ _ _ _).mono ?_); rintro e w' ⟨rfl, ⟨nd, rfl⟩⟩; (try first | exact ⟨rfl, _, World.drewN_drewN _ _ _⟩ | exact ⟨rfl, _, Eq.trans (World.drewN_drewN _ _ _) (congrArg (World.drewN _) (Nat.add_assoc _ _ _))⟩)) | (go_at_call 140; (with_reducible refine (l00Max_u _ _ _).mono ?_); rintro e w' ⟨rfl, ⟨nd, rfl⟩⟩; (try first | exact ⟨rfl, _, World.drewN_drewN _ _ _⟩ | exact ⟨rfl, _, Eq.trans (World.drewN_drewN _ _ _) (congrArg (World.drewN _) (Nat.add_assoc _ _ _))⟩)))
 repeat (go_quiet (first | (go_at_call 145; (with_reducible refine (spec_l01Name.calls k x0 true _ HN.out).mono ?_); rintro e w' ⟨rfl, ⟨nd, rfl⟩⟩; (try first | exact ⟨rfl, _, World.drewN_drewN _ _ _⟩ | exact ⟨rfl, _, Eq.trans (World.drewN_drewN _ _ _) (congrArg (World.drewN _) (Nat.add_assoc _ _ _))⟩)) | (go_at_call 102; (with_reducible refine (l00In_u _ _ _ _).mono ?_); rintro e w' ⟨rfl, ⟨nd, rfl⟩⟩; (try first | exact ⟨rfl, _, World.drewN_drewN _ _ _⟩ | exact ⟨rfl, _, Eq.trans (World.drewN_drewN _ _ _) (congrArg (World.drewN _) (Nat.add_assoc _ _ _))⟩)) | (go_at_call 140; (with_reducible refine (l00Max_u _ _ _).mono ?_); rintro e w' ⟨rfl, ⟨nd, rfl⟩⟩; (try first | exact ⟨rfl, _, World.drewN_drewN _ _ _⟩ | exact ⟨rfl, _, Eq.trans (World.drewN_drewN _ _ _) (congrArg (World.drewN _) (Nat.add_assoc _ _ _))⟩))); try go_wp2_with (first | (go_at_call 145; (with_reducible refine (spec_l01Name.calls k x0 true _ HN.out).mono ?_); rintro e w' ⟨rfl, ⟨nd, rfl⟩⟩; (try first | exact ⟨rfl, _, World.drewN_drewN _ _ _⟩ | exact ⟨rfl, _, Eq.trans (World.drewN_drewN _ _ _) (congrArg (World.drewN _) (Nat.add_assoc _ _ _))⟩)) | (go_at_call 102; (with_reducible refine (l00In_u _ _ _ _).mono ?_); rintro e w' ⟨rfl, ⟨nd, rfl⟩⟩; (try first | exact ⟨rfl, _, World.drewN_drewN _ _ _⟩ | exact ⟨rfl, _, Eq.trans (World.drewN_drewN _ _ _) (congrArg (World.drewN _) (Nat.add_assoc _ _ _))⟩)) | (go_at_call 140; (with_reducible refine (l00Max_u _ _ _).mono ?_); rintro e w' ⟨rfl, ⟨nd, rfl⟩⟩; (try first | exact ⟨rfl, _, World.drewN_drewN _ _ _⟩ | exact ⟨rfl, _, Eq.trans (World.drewN_drewN _ _ _) (congrArg (World.drewN _) (Nat.add_assoc _ _ _))⟩))))
 go_ret
 exact ⟨rs_, dr_⟩
theorem l13One_w1 (k : Nat) (ad : Addr) (x0 : ByteArray) (x1 x2 x3 x4 x5 x6 : Int) (w : World) (c0 : w.cell? ad = some (.string x0)) (c1 : w.cell? ⟨ad.block, ad.off + 1, none⟩ = some (.int .i64 x1)) (c2 : w.cell? ⟨ad.block, ad.off + 2, none⟩ = some (.int .i64 x2)) (c3 : w.cell? ⟨ad.block, ad.off + 3, none⟩ = some (.int .i64 x3)) (c4 : w.cell? ⟨ad.block, ad.off + 4, none⟩ = some (.int .i64 x4)) (c5 : w.cell? ⟨ad.block, ad.off + 5, none⟩ = some (.int .i64 x5)) (c6 : w.cell? ⟨ad.block, ad.off + 6, none⟩ = some (.int .i64 x6))
  (hn : spec_l01Name.f k x0 = some true) (h0 : (inU 0 100000 x1) = true) (h1 : (inU (mxU 1 x1) 100000 x2) = false) : Calls Try.prog 115 #[.pointer (some ad)] w fun e w' => e = .returned (.bool false) ∧ Drawn0 w w' := by
 have HN := Aside0.mk hn
 clear hn
 go_enter Try.func115, Try.ntmps115
 go_wp2_with (first | (go_at_call 145; (with_reducible refine (spec_l01Name.calls k x0 true _ HN.out).mono ?_); rintro e w' ⟨rfl, ⟨nd, rfl⟩⟩; (try first | exact ⟨rfl, _, World.drewN_drewN _ _ _⟩ | exact ⟨rfl, _, Eq.trans (World.drewN_drewN _ _ _) (congrArg (World.drewN _) (Nat.add_assoc _ _ _))⟩)) | (go_at_call 102; (with_reducible refine (l00In_u _ _ _ _).mono ?_); rintro e w' ⟨rfl, ⟨nd, rfl⟩⟩; (try first | exact ⟨rfl, _, World.drewN_drewN _ _ _⟩ | exact ⟨rfl, _, Eq.trans (World.drewN_drewN _ _ _) (congrArg (World.drewN _) (Nat.add_assoc _ _ _))⟩)) | (go_at_call 140; (with_reducible refine (l00Max_u _ _ _).mono ?_); rintro e w' ⟨rfl, ⟨nd, rfl⟩⟩; (try first | exact ⟨rfl, _, World.drewN_drewN _ _ _⟩ | exact ⟨rfl, _, Eq.trans (World.drewN_drewN _ _ _) (congrArg (World.drewN _) (Nat.add_assoc _ _ _))⟩)))
 repeat (go_quiet (first | (go_at_call 145; (with_reducible refine (spec_l01Name.calls k x0 true _ HN.out).mono ?_); rintro e w' ⟨rfl, ⟨nd, rfl⟩⟩; (try first | exact ⟨rfl, _, World.drewN_drewN _ _ _⟩ | exact ⟨rfl, _, Eq.trans (World.drewN_drewN _ _ _) (congrArg (World.drewN _) (Nat.add_assoc _ _ _))⟩)) | (go_at_call 102; (with_reducible refine (l00In_u _ _ _ _).mono ?_); rintro e w' ⟨rfl, ⟨nd, rfl⟩⟩; (try first | exact ⟨rfl, _, World.drewN_drewN _ _ _⟩ | exact ⟨rfl, _, Eq.trans (World.drewN_drewN _ _ _) (congrArg (World.drewN _) (Nat.add_assoc _ _ _))⟩)) | (go_at_call 140; (with_reducible refine (l00Max_u _ _ _).mono ?_); rintro e w' ⟨rfl, ⟨nd, rfl⟩⟩; (try first | exact ⟨rfl, _, World.drewN_drewN _ _ _⟩ | exact ⟨rfl, _, Eq.trans (World.drewN_drewN _ _ _) (congrArg (World.drewN _) (Nat.add_assoc _ _ _))⟩))); try go_wp2_with (first | (go_at_call 145; (with_reducible refine (spec_l01Name.calls k x0 true _ HN.out).mono ?_); rintro e w' ⟨rfl, ⟨nd, rfl⟩⟩; (try first | exact ⟨rfl, _, World.drewN_drewN _ _ _⟩ | exact ⟨rfl, _, Eq.trans (World.drewN_drewN _ _ _) (congrArg (World.drewN _) (Nat.add_assoc _ _ _))⟩)) | (go_at_call 102; (with_reducible refine (l00In_u _ _ _ _).mono ?_); rintro e w' ⟨rfl, ⟨nd, rfl⟩⟩; (try first | exact ⟨rfl, _, World.drewN_drewN _ _ _⟩ | exact ⟨rfl, _, Eq.trans (World.drewN_drewN _ _ _) (congrArg (World.drewN _) (Nat.add_assoc _ _ _))⟩)) | (go_at_call 140; (with_reducible refine (l00Max_u _ _ _).mono ?_); rintro e w' ⟨rfl, ⟨nd, rfl⟩⟩; (try first | exact ⟨rfl, _, World.drewN_drewN _ _ _⟩ | exact ⟨rfl, _, Eq.trans (World.drewN_drewN _ _ _) (congrArg (World.drewN _) (Nat.add_assoc _ _ _))⟩))))
 go_ret
 exact ⟨rs_, dr_⟩
theorem l13One_w2 (k : Nat) (ad : Addr) (x0 : ByteArray) (x1 x2 x3 x4 x5 x6 : Int) (w : World) (c0 : w.cell? ad = some (.string x0)) (c1 : w.cell? ⟨ad.block, ad.off + 1, none⟩ = some (.int .i64 x1)) (c2 : w.cell? ⟨ad.block, ad.off + 2, none⟩ = some (.int .i64 x2)) (c3 : w.cell? ⟨ad.block, ad.off + 3, none⟩ = some (.int .i64 x3)) (c4 : w.cell? ⟨ad.block, ad.off + 4, none⟩ = some (.int .i64 x4)) (c5 : w.cell? ⟨ad.block, ad.off + 5, none⟩ = some (.int .i64 x5)) (c6 : w.cell? ⟨ad.block, ad.off + 6, none⟩ = some (.int .i64 x6))
  (hn : spec_l01Name.f k x0 = some true) (h0 : (inU 0 100000 x1) = true) (h1 : (inU (mxU 1 x1) 100000 x2) = true) (h2 : (inU 0 100000 x3) = false) : Calls Try.prog 115 #[.pointer (some ad)] w fun e w' => e = .returned (.bool false) ∧ Drawn0 w w' := by
 have HN := Aside0.mk hn
 clear hn
 go_enter Try.func115, Try.ntmps115
 go_wp2_with (first | (go_at_call 145; (with_reducible refine (spec_l01Name.calls k x0 true _ HN.out).mono ?_); rintro e w' ⟨rfl, ⟨nd, rfl⟩⟩; (try first | exact ⟨rfl, _, World.drewN_drewN _ _ _⟩ | exact ⟨rfl, _, Eq.trans (World.drewN_drewN _ _ _) (congrArg (World.drewN _) (Nat.add_assoc _ _ _))⟩)) | (go_at_call 102; (with_reducible refine (l00In_u _ _ _ _).mono ?_); rintro e w' ⟨rfl, ⟨nd, rfl⟩⟩; (try first | exact ⟨rfl, _, World.drewN_drewN _ _ _⟩ | exact ⟨rfl, _, Eq.trans (World.drewN_drewN _ _ _) (congrArg (World.drewN _) (Nat.add_assoc _ _ _))⟩)) | (go_at_call 140; (with_reducible refine (l00Max_u _ _ _).mono ?_); rintro e w' ⟨rfl, ⟨nd, rfl⟩⟩; (try first | exact ⟨rfl, _, World.drewN_drewN _ _ _⟩ | exact ⟨rfl, _, Eq.trans (World.drewN_drewN _ _ _) (congrArg (World.drewN _) (Nat.add_assoc _ _ _))⟩)))
 repeat (go_quiet (first | (go_at_call 145; (with_reducible refine (spec_l01Name.calls k x0 true _ HN.out).mono ?_); rintro e w' ⟨rfl, ⟨nd, rfl⟩⟩; (try first | exact ⟨rfl, _, World.drewN_drewN _ _ _⟩ | exact ⟨rfl, _, Eq.trans (World.drewN_drewN _ _ _) (congrArg (World.drewN _) (Nat.add_assoc _ _ _))⟩)) | (go_at_call 102; (with_reducible refine (l00In_u _ _ _ _).mono ?_); rintro e w' ⟨rfl, ⟨nd, rfl⟩⟩; (try first | exact ⟨rfl, _, World.drewN_drewN _ _ _⟩ | exact ⟨rfl, _, Eq.trans (World.drewN_drewN _ _ _) (congrArg (World.drewN _) (Nat.add_assoc _ _ _))⟩)) | (go_at_call 140; (with_reducible refine (l00Max_u _ _ _).mono ?_); rintro e w' ⟨rfl, ⟨nd, rfl⟩⟩; (try first | exact ⟨rfl, _, World.drewN_drewN _ _ _⟩ | exact ⟨rfl, _, Eq.trans (World.drewN_drewN _ _ _) (congrArg (World.drewN _) (Nat.add_assoc _ _ _))⟩))); try go_wp2_with (first | (go_at_call 145; (with_reducible refine (spec_l01Name.calls k x0 true _ HN.out).mono ?_); rintro e w' ⟨rfl, ⟨nd, rfl⟩⟩; (try first | exact ⟨rfl, _, World.drewN_drewN _ _ _⟩ | exact ⟨rfl, _, Eq.trans (World.drewN_drewN _ _ _) (congrArg (World.drewN _) (Nat.add_assoc _ _ _))⟩)) | (go_at_call 102; (with_reducible refine (l00In_u _ _ _ _).mono ?_); rintro e w' ⟨rfl, ⟨nd, rfl⟩⟩; (try first | exact ⟨rfl, _, World.drewN_drewN _ _ _⟩ | exact ⟨rfl, _, Eq.trans (World.drewN_drewN _ _ _) (congrArg (World.drewN _) (Nat.add_assoc _ _ _))⟩)) | (go_at_call 140; (with_reducible refine (l00Max_u _ _ _).mono ?_); rintro e w' ⟨rfl, ⟨nd, rfl⟩⟩; (try first | exact ⟨rfl, _, World.drewN_drewN _ _ _⟩ | exact ⟨rfl, _, Eq.trans (World.drewN_drewN _ _ _) (congrArg (World.drewN _) (Nat.add_assoc _ _ _))⟩))))
 go_ret
 exact ⟨rs_, dr_⟩
theorem l13One_w3 (k : Nat) (ad : Addr) (x0 : ByteArray) (x1 x2 x3 x4 x5 x6 : Int) (w : World) (c0 : w.cell? ad = some (.string x0)) (c1 : w.cell? ⟨ad.block, ad.off + 1, none⟩ = some (.int .i64 x1)) (c2 : w.cell? ⟨ad.block, ad.off + 2, none⟩ = some (.int .i64 x2)) (c3 : w.cell? ⟨ad.block, ad.off + 3, none⟩ = some (.int .i64 x3)) (c4 : w.cell? ⟨ad.block, ad.off + 4, none⟩ = some (.int .i64 x4)) (c5 : w.cell? ⟨ad.block, ad.off + 5, none⟩ = some (.int .i64 x5)) (c6 : w.cell? ⟨ad.block, ad.off + 6, none⟩ = some (.int .i64 x6))
  (hn : spec_l01Name.f k x0 = some true) (h0 : (inU 0 100000 x1) = true) (h1 : (inU (mxU 1 x1) 100000 x2) = true) (h2 : (inU 0 100000 x3) = true) (h3 : (inU 0 100000000 x4) = false) : Calls Try.prog 115 #[.pointer (some ad)] w fun e w' => e = .returned (.bool false) ∧ Drawn0 w w' := by
 have HN := Aside0.mk hn
 clear hn
 go_enter Try.func115, Try.ntmps115
 go_wp2_with (first | (go_at_call 145; (with_reducible refine (spec_l01Name.calls k x0 true _ HN.out).mono ?_); rintro e w' ⟨rfl, ⟨nd, rfl⟩⟩; (try first | exact ⟨rfl, _, World.drewN_drewN _ _ _⟩ | exact ⟨rfl, _, Eq.trans (World.drewN_drewN _ _ _) (congrArg (World.drewN _) (Nat.add_assoc _ _ _))⟩)) | (go_at_call 102; (with_reducible refine (l00In_u _ _ _ _).mono ?_); rintro e w' ⟨rfl, ⟨nd, rfl⟩⟩; (try first | exact ⟨rfl, _, World.drewN_drewN _ _ _⟩ | exact ⟨rfl, _, Eq.trans (World.drewN_drewN _ _ _) (congrArg (World.drewN _) (Nat.add_assoc _ _ _))⟩)) | (go_at_call 140; (with_reducible refine (l00Max_u _ _ _).mono ?_); rintro e w' ⟨rfl, ⟨nd, rfl⟩⟩; (try first | exact ⟨rfl, _, World.drewN_drewN _ _ _⟩ | exact ⟨rfl, _, Eq.trans (World.drewN_drewN _ _ _) (congrArg (World.drewN _) (Nat.add_assoc _ _ _))⟩)))
 repeat (go_quiet (first | (go_at_call 145; (with_reducible refine (spec_l01Name.calls k x0 true _ HN.out).mono ?_); rintro e w' ⟨rfl, ⟨nd, rfl⟩⟩; (try first | exact ⟨rfl, _, World.drewN_drewN _ _ _⟩ | exact ⟨rfl, _, Eq.trans (World.drewN_drewN _ _ _) (congrArg (World.drewN _) (Nat.add_assoc _ _ _))⟩)) | (go_at_call 102; (with_reducible refine (l00In_u _ _ _ _).mono ?_); rintro e w' ⟨rfl, ⟨nd, rfl⟩⟩; (try first | exact ⟨rfl, _, World.drewN_drewN _ _ _⟩ | exact ⟨rfl, _, Eq.trans (World.drewN_drewN _ _ _) (congrArg (World.drewN _) (Nat.add_assoc _ _ _))⟩)) | (go_at_call 140; (with_reducible refine (l00Max_u _ _ _).mono ?_); rintro e w' ⟨rfl, ⟨nd, rfl⟩⟩; (try first | exact ⟨rfl, _, World.drewN_drewN _ _ _⟩ | exact ⟨rfl, _, Eq.trans (World.drewN_drewN _ _ _) (congrArg (World.drewN _) (Nat.add_assoc _ _ _))⟩))); try go_wp2_with (first | (go_at_call 145; (with_reducible refine (spec_l01Name.calls k x0 true _ HN.out).mono ?_); rintro e w' ⟨rfl, ⟨nd, rfl⟩⟩; (try first | exact ⟨rfl, _, World.drewN_drewN _ _ _⟩ | exact ⟨rfl, _, Eq.trans (World.drewN_drewN _ _ _) (congrArg (World.drewN _) (Nat.add_assoc _ _ _))⟩)) | (go_at_call 102; (with_reducible refine (l00In_u _ _ _ _).mono ?_); rintro e w' ⟨rfl, ⟨nd, rfl⟩⟩; (try first | exact ⟨rfl, _, World.drewN_drewN _ _ _⟩ | exact ⟨rfl, _, Eq.trans (World.drewN_drewN _ _ _) (congrArg (World.drewN _) (Nat.add_assoc _ _ _))⟩)) | (go_at_call 140; (with_reducible refine (l00Max_u _ _ _).mono ?_); rintro e w' ⟨rfl, ⟨nd, rfl⟩⟩; (try first | exact ⟨rfl, _, World.drewN_drewN _ _ _⟩ | exact ⟨rfl, _, Eq.trans (World.drewN_drewN _ _ _) (congrArg (World.drewN _) (Nat.add_assoc _ _ _))⟩))))
 go_ret
 exact ⟨rs_, dr_⟩
theorem l13One_w4 (k : Nat) (ad : Addr) (x0 : ByteArray) (x1 x2 x3 x4 x5 x6 : Int) (w : World) (c0 : w.cell? ad = some (.string x0)) (c1 : w.cell? ⟨ad.block, ad.off + 1, none⟩ = some (.int .i64 x1)) (c2 : w.cell? ⟨ad.block, ad.off + 2, none⟩ = some (.int .i64 x2)) (c3 : w.cell? ⟨ad.block, ad.off + 3, none⟩ = some (.int .i64 x3)) (c4 : w.cell? ⟨ad.block, ad.off + 4, none⟩ = some (.int .i64 x4)) (c5 : w.cell? ⟨ad.block, ad.off + 5, none⟩ = some (.int .i64 x5)) (c6 : w.cell? ⟨ad.block, ad.off + 6, none⟩ = some (.int .i64 x6))
  (hn : spec_l01Name.f k x0 = some true) (h0 : (inU 0 100000 x1) = true) (h1 : (inU (mxU 1 x1) 100000 x2) = true) (h2 : (inU 0 100000 x3) = true) (h3 : (inU 0 100000000 x4) = true) (h4 : (inU 1 3 x5) = false) : Calls Try.prog 115 #[.pointer (some ad)] w fun e w' => e = .returned (.bool false) ∧ Drawn0 w w' := by
 have HN := Aside0.mk hn
 clear hn
 go_enter Try.func115, Try.ntmps115
 go_wp2_with (first | (go_at_call 145; (with_reducible refine (spec_l01Name.calls k x0 true _ HN.out).mono ?_); rintro e w' ⟨rfl, ⟨nd, rfl⟩⟩; (try first | exact ⟨rfl, _, World.drewN_drewN _ _ _⟩ | exact ⟨rfl, _, Eq.trans (World.drewN_drewN _ _ _) (congrArg (World.drewN _) (Nat.add_assoc _ _ _))⟩)) | (go_at_call 102; (with_reducible refine (l00In_u _ _ _ _).mono ?_); rintro e w' ⟨rfl, ⟨nd, rfl⟩⟩; (try first | exact ⟨rfl, _, World.drewN_drewN _ _ _⟩ | exact ⟨rfl, _, Eq.trans (World.drewN_drewN _ _ _) (congrArg (World.drewN _) (Nat.add_assoc _ _ _))⟩)) | (go_at_call 140; (with_reducible refine (l00Max_u _ _ _).mono ?_); rintro e w' ⟨rfl, ⟨nd, rfl⟩⟩; (try first | exact ⟨rfl, _, World.drewN_drewN _ _ _⟩ | exact ⟨rfl, _, Eq.trans (World.drewN_drewN _ _ _) (congrArg (World.drewN _) (Nat.add_assoc _ _ _))⟩)))
 repeat (go_quiet (first | (go_at_call 145; (with_reducible refine (spec_l01Name.calls k x0 true _ HN.out).mono ?_); rintro e w' ⟨rfl, ⟨nd, rfl⟩⟩; (try first | exact ⟨rfl, _, World.drewN_drewN _ _ _⟩ | exact ⟨rfl, _, Eq.trans (World.drewN_drewN _ _ _) (congrArg (World.drewN _) (Nat.add_assoc _ _ _))⟩)) | (go_at_call 102; (with_reducible refine (l00In_u _ _ _ _).mono ?_); rintro e w' ⟨rfl, ⟨nd, rfl⟩⟩; (try first | exact ⟨rfl, _, World.drewN_drewN _ _ _⟩ | exact ⟨rfl, _, Eq.trans (World.drewN_drewN _ _ _) (congrArg (World.drewN _) (Nat.add_assoc _ _ _))⟩)) | (go_at_call 140; (with_reducible refine (l00Max_u _ _ _).mono ?_); rintro e w' ⟨rfl, ⟨nd, rfl⟩⟩; (try first | exact ⟨rfl, _, World.drewN_drewN _ _ _⟩ | exact ⟨rfl, _, Eq.trans (World.drewN_drewN _ _ _) (congrArg (World.drewN _) (Nat.add_assoc _ _ _))⟩))); try go_wp2_with (first | (go_at_call 145; (with_reducible refine (spec_l01Name.calls k x0 true _ HN.out).mono ?_); rintro e w' ⟨rfl, ⟨nd, rfl⟩⟩; (try first | exact ⟨rfl, _, World.drewN_drewN _ _ _⟩ | exact ⟨rfl, _, Eq.trans (World.drewN_drewN _ _ _) (congrArg (World.drewN _) (Nat.add_assoc _ _ _))⟩)) | (go_at_call 102; (with_reducible refine (l00In_u _ _ _ _).mono ?_); rintro e w' ⟨rfl, ⟨nd, rfl⟩⟩; (try first | exact ⟨rfl, _, World.drewN_drewN _ _ _⟩ | exact ⟨rfl, _, Eq.trans (World.drewN_drewN _ _ _) (congrArg (World.drewN _) (Nat.add_assoc _ _ _))⟩)) | (go_at_call 140; (with_reducible refine (l00Max_u _ _ _).mono ?_); rintro e w' ⟨rfl, ⟨nd, rfl⟩⟩; (try first | exact ⟨rfl, _, World.drewN_drewN _ _ _⟩ | exact ⟨rfl, _, Eq.trans (World.drewN_drewN _ _ _) (congrArg (World.drewN _) (Nat.add_assoc _ _ _))⟩))))
 go_ret
 exact ⟨rs_, dr_⟩
theorem l13One_w5 (k : Nat) (ad : Addr) (x0 : ByteArray) (x1 x2 x3 x4 x5 x6 : Int) (w : World) (c0 : w.cell? ad = some (.string x0)) (c1 : w.cell? ⟨ad.block, ad.off + 1, none⟩ = some (.int .i64 x1)) (c2 : w.cell? ⟨ad.block, ad.off + 2, none⟩ = some (.int .i64 x2)) (c3 : w.cell? ⟨ad.block, ad.off + 3, none⟩ = some (.int .i64 x3)) (c4 : w.cell? ⟨ad.block, ad.off + 4, none⟩ = some (.int .i64 x4)) (c5 : w.cell? ⟨ad.block, ad.off + 5, none⟩ = some (.int .i64 x5)) (c6 : w.cell? ⟨ad.block, ad.off + 6, none⟩ = some (.int .i64 x6))
  (hn : spec_l01Name.f k x0 = some true) (h0 : (inU 0 100000 x1) = true) (h1 : (inU (mxU 1 x1) 100000 x2) = true) (h2 : (inU 0 100000 x3) = true) (h3 : (inU 0 100000000 x4) = true) (h4 : (inU 1 3 x5) = true) (h5 : (inU 1 3 x6) = false) : Calls Try.prog 115 #[.pointer (some ad)] w fun e w' => e = .returned (.bool false) ∧ Drawn0 w w' := by
 have HN := Aside0.mk hn
 clear hn
 go_enter Try.func115, Try.ntmps115
 go_wp2_with (first | (go_at_call 145; (with_reducible refine (spec_l01Name.calls k x0 true _ HN.out).mono ?_); rintro e w' ⟨rfl, ⟨nd, rfl⟩⟩; (try first | exact ⟨rfl, _, World.drewN_drewN _ _ _⟩ | exact ⟨rfl, _, Eq.trans (World.drewN_drewN _ _ _) (congrArg (World.drewN _) (Nat.add_assoc _ _ _))⟩)) | (go_at_call 102; (with_reducible refine (l00In_u _ _ _ _).mono ?_); rintro e w' ⟨rfl, ⟨nd, rfl⟩⟩; (try first | exact ⟨rfl, _, World.drewN_drewN _ _ _⟩ | exact ⟨rfl, _, Eq.trans (World.drewN_drewN _ _ _) (congrArg (World.drewN _) (Nat.add_assoc _ _ _))⟩)) | (go_at_call 140; (with_reducible refine (l00Max_u _ _ _).mono ?_); rintro e w' ⟨rfl, ⟨nd, rfl⟩⟩; (try first | exact ⟨rfl, _, World.drewN_drewN _ _ _⟩ | exact ⟨rfl, _, Eq.trans (World.drewN_drewN _ _ _) (congrArg (World.drewN _) (Nat.add_assoc _ _ _))⟩)))
 repeat (go_quiet (first | (go_at_call 145; (with_reducible refine (spec_l01Name.calls k x0 true _ HN.out).mono ?_); rintro e w' ⟨rfl, ⟨nd, rfl⟩⟩; (try first | exact ⟨rfl, _, World.drewN_drewN _ _ _⟩ | exact ⟨rfl, _, Eq.trans (World.drewN_drewN _ _ _) (congrArg (World.drewN _) (Nat.add_assoc _ _ _))⟩)) | (go_at_call 102; (with_reducible refine (l00In_u _ _ _ _).mono ?_); rintro e w' ⟨rfl, ⟨nd, rfl⟩⟩; (try first | exact ⟨rfl, _, World.drewN_drewN _ _ _⟩ | exact ⟨rfl, _, Eq.trans (World.drewN_drewN _ _ _) (congrArg (World.drewN _) (Nat.add_assoc _ _ _))⟩)) | (go_at_call 140; (with_reducible refine (l00Max_u _ _ _).mono ?_); rintro e w' ⟨rfl, ⟨nd, rfl⟩⟩; (try first | exact ⟨rfl, _, World.drewN_drewN _ _ _⟩ | exact ⟨rfl, _, Eq.trans (World.drewN_drewN _ _ _) (congrArg (World.drewN _) (Nat.add_assoc _ _ _))⟩))); try go_wp2_with (first | (go_at_call 145; (with_reducible refine (spec_l01Name.calls k x0 true _ HN.out).mono ?_); rintro e w' ⟨rfl, ⟨nd, rfl⟩⟩; (try first | exact ⟨rfl, _, World.drewN_drewN _ _ _⟩ | exact ⟨rfl, _, Eq.trans (World.drewN_drewN _ _ _) (congrArg (World.drewN _) (Nat.add_assoc _ _ _))⟩)) | (go_at_call 102; (with_reducible refine (l00In_u _ _ _ _).mono ?_); rintro e w' ⟨rfl, ⟨nd, rfl⟩⟩; (try first | exact ⟨rfl, _, World.drewN_drewN _ _ _⟩ | exact ⟨rfl, _, Eq.trans (World.drewN_drewN _ _ _) (congrArg (World.drewN _) (Nat.add_assoc _ _ _))⟩)) | (go_at_call 140; (with_reducible refine (l00Max_u _ _ _).mono ?_); rintro e w' ⟨rfl, ⟨nd, rfl⟩⟩; (try first | exact ⟨rfl, _, World.drewN_drewN _ _ _⟩ | exact ⟨rfl, _, Eq.trans (World.drewN_drewN _ _ _) (congrArg (World.drewN _) (Nat.add_assoc _ _ _))⟩))))
 go_ret
 exact ⟨rs_, dr_⟩
theorem l13One_w6 (k : Nat) (ad : Addr) (x0 : ByteArray) (x1 x2 x3 x4 x5 x6 : Int) (w : World) (c0 : w.cell? ad = some (.string x0)) (c1 : w.cell? ⟨ad.block, ad.off + 1, none⟩ = some (.int .i64 x1)) (c2 : w.cell? ⟨ad.block, ad.off + 2, none⟩ = some (.int .i64 x2)) (c3 : w.cell? ⟨ad.block, ad.off + 3, none⟩ = some (.int .i64 x3)) (c4 : w.cell? ⟨ad.block, ad.off + 4, none⟩ = some (.int .i64 x4)) (c5 : w.cell? ⟨ad.block, ad.off + 5, none⟩ = some (.int .i64 x5)) (c6 : w.cell? ⟨ad.block, ad.off + 6, none⟩ = some (.int .i64 x6))
  (hn : spec_l01Name.f k x0 = some true) (h0 : (inU 0 100000 x1) = true) (h1 : (inU (mxU 1 x1) 100000 x2) = true) (h2 : (inU 0 100000 x3) = true) (h3 : (inU 0 100000000 x4) = true) (h4 : (inU 1 3 x5) = true) (h5 : (inU 1 3 x6) = true) : Calls Try.prog 115 #[.pointer (some ad)] w fun e w' => e = .returned (.bool true) ∧ Drawn0 w w' := by
 have HN := Aside0.mk hn
 clear hn
 go_enter Try.func115, Try.ntmps115
 go_wp2_with (first | (go_at_call 145; (with_reducible refine (spec_l01Name.calls k x0 true _ HN.out).mono ?_); rintro e w' ⟨rfl, ⟨nd, rfl⟩⟩; (try first | exact ⟨rfl, _, World.drewN_drewN _ _ _⟩ | exact ⟨rfl, _, Eq.trans (World.drewN_drewN _ _ _) (congrArg (World.drewN _) (Nat.add_assoc _ _ _))⟩)) | (go_at_call 102; (with_reducible refine (l00In_u _ _ _ _).mono ?_); rintro e w' ⟨rfl, ⟨nd, rfl⟩⟩; (try first | exact ⟨rfl, _, World.drewN_drewN _ _ _⟩ | exact ⟨rfl, _, Eq.trans (World.drewN_drewN _ _ _) (congrArg (World.drewN _) (Nat.add_assoc _ _ _))⟩)) | (go_at_call 140; (with_reducible refine (l00Max_u _ _ _).mono ?_); rintro e w' ⟨rfl, ⟨nd, rfl⟩⟩; (try first | exact ⟨rfl, _, World.drewN_drewN _ _ _⟩ | exact ⟨rfl, _, Eq.trans (World.drewN_drewN _ _ _) (congrArg (World.drewN _) (Nat.add_assoc _ _ _))⟩)))
 repeat (go_quiet (first | (go_at_call 145; (with_reducible refine (spec_l01Name.calls k x0 true _ HN.out).mono ?_); rintro e w' ⟨rfl, ⟨nd, rfl⟩⟩; (try first | exact ⟨rfl, _, World.drewN_drewN _ _ _⟩ | exact ⟨rfl, _, Eq.trans (World.drewN_drewN _ _ _) (congrArg (World.drewN _) (Nat.add_assoc _ _ _))⟩)) | (go_at_call 102; (with_reducible refine (l00In_u _ _ _ _).mono ?_); rintro e w' ⟨rfl, ⟨nd, rfl⟩⟩; (try first | exact ⟨rfl, _, World.drewN_drewN _ _ _⟩ | exact ⟨rfl, _, Eq.trans (World.drewN_drewN _ _ _) (congrArg (World.drewN _) (Nat.add_assoc _ _ _))⟩)) | (go_at_call 140; (with_reducible refine (l00Max_u _ _ _).mono ?_); rintro e w' ⟨rfl, ⟨nd, rfl⟩⟩; (try first | exact ⟨rfl, _, World.drewN_drewN _ _ _⟩ | exact ⟨rfl, _, Eq.trans (World.drewN_drewN _ _ _) (congrArg (World.drewN _) (Nat.add_assoc _ _ _))⟩))); try go_wp2_with (first | (go_at_call 145; (with_reducible refine (spec_l01Name.calls k x0 true _ HN.out).mono ?_); rintro e w' ⟨rfl, ⟨nd, rfl⟩⟩; (try first | exact ⟨rfl, _, World.drewN_drewN _ _ _⟩ | exact ⟨rfl, _, Eq.trans (World.drewN_drewN _ _ _) (congrArg (World.drewN _) (Nat.add_assoc _ _ _))⟩)) | (go_at_call 102; (with_reducible refine (l00In_u _ _ _ _).mono ?_); rintro e w' ⟨rfl, ⟨nd, rfl⟩⟩; (try first | exact ⟨rfl, _, World.drewN_drewN _ _ _⟩ | exact ⟨rfl, _, Eq.trans (World.drewN_drewN _ _ _) (congrArg (World.drewN _) (Nat.add_assoc _ _ _))⟩)) | (go_at_call 140; (with_reducible refine (l00Max_u _ _ _).mono ?_); rintro e w' ⟨rfl, ⟨nd, rfl⟩⟩; (try first | exact ⟨rfl, _, World.drewN_drewN _ _ _⟩ | exact ⟨rfl, _, Eq.trans (World.drewN_drewN _ _ _) (congrArg (World.drewN _) (Nat.add_assoc _ _ _))⟩))))
 go_ret
 exact ⟨rs_, dr_⟩
set_option maxHeartbeats 4000000 in
theorem spec_l13One.calls (k : Nat) (A0 : Option Addr) (c0 : Nat) (l0 : List S77) (r : Bool) (w : World) (hr0 : Kd.C k77 w A0 l0.length l0) (hc0 : l0.length ≤ c0) (h : spec_l13One.f k l0 = some r) :
  Calls Try.prog 115 #[.pointer A0] w fun e w' => e = .returned (.bool r) ∧ Drawn0 w w' := by
 unfold spec_l13One.f at h
 split at h
 ·
  rename_i hl
  obtain ⟨t, ht, h⟩ := Option.bind_eq_some_iff.mp h
  obtain ⟨ad, rfl, b0, b1, b2, b3, b4, b5, b6⟩ := at_T77 hr0 0 (by omega) (by omega)
  (try rw [show ((0 : Int)).toNat = 0 from rfl, Nat.zero_mul, Addr.add_zero'] at b0)
  (try rw [show ((0 : Int)).toNat = 0 from rfl, Nat.zero_mul] at b0 b1 b2 b3 b4 b5 b6)
  (try simp only [Addr.add_zero', Nat.zero_add, Int.toNat_zero, Nat.zero_mul] at b0 b1 b2 b3 b4 b5 b6)
  unfold unitR at h
  generalize rd_T77 l0 0 = x at *
  obtain ⟨x0, x1, x2, x3, x4, x5, x6⟩ := x
  simp only at ht h b0 b1 b2 b3 b4 b5 b6
  cases t with
  | false =>
   obtain rfl : false = r := by simpa using h
   exact l13One_wn k ad x0 x1 x2 x3 x4 x5 x6 w b0 b1 b2 b3 b4 b5 b6 ht
  | true =>
   cases h0 : (inU 0 100000 x1) with
   | false =>
    obtain rfl : false = r := by simpa [h0] using h
    exact l13One_w0 k ad x0 x1 x2 x3 x4 x5 x6 w b0 b1 b2 b3 b4 b5 b6 ht h0
   | true =>
    cases h1 : (inU (mxU 1 x1) 100000 x2) with
    | false =>
     obtain rfl : false = r := by simpa [h0, h1] using h
     exact l13One_w1 k ad x0 x1 x2 x3 x4 x5 x6 w b0 b1 b2 b3 b4 b5 b6 ht h0 h1
    | true =>
     cases h2 : (inU 0 100000 x3) with
     | false =>
      obtain rfl : false = r := by simpa [h0, h1, h2] using h
      exact l13One_w2 k ad x0 x1 x2 x3 x4 x5 x6 w b0 b1 b2 b3 b4 b5 b6 ht h0 h1 h2
     | true =>
      cases h3 : (inU 0 100000000 x4) with
      | false =>
       obtain rfl : false = r := by simpa [h0, h1, h2, h3] using h
       exact l13One_w3 k ad x0 x1 x2 x3 x4 x5 x6 w b0 b1 b2 b3 b4 b5 b6 ht h0 h1 h2 h3
      | true =>
       cases h4 : (inU 1 3 x5) with
       | false =>
        obtain rfl : false = r := by simpa [h0, h1, h2, h3, h4] using h
        exact l13One_w4 k ad x0 x1 x2 x3 x4 x5 x6 w b0 b1 b2 b3 b4 b5 b6 ht h0 h1 h2 h3 h4
       | true =>
        cases h5 : (inU 1 3 x6) with
        | false =>
         obtain rfl : false = r := by simpa [h0, h1, h2, h3, h4, h5] using h
         exact l13One_w5 k ad x0 x1 x2 x3 x4 x5 x6 w b0 b1 b2 b3 b4 b5 b6 ht h0 h1 h2 h3 h4 h5
        | true =>
         obtain rfl : true = r := by simpa [h0, h1, h2, h3, h4, h5] using h
         exact l13One_w6 k ad x0 x1 x2 x3 x4 x5 x6 w b0 b1 b2 b3 b4 b5 b6 ht h0 h1 h2 h3 h4 h5
 ·
  cases h

/-! ### spec_l13Ok: function 64 -/
def spec_l13Ok.l0 : Nat → List (S77) → Int → Option (Bool)
 | 0, _, _ => none
 | k + 1, x0, x3 => if x3 < (x0.length : Int) then (if 0 ≤ x3 then ((spec_l13One.f k [rd_T77 x0 x3]).bind fun t156 => (if t156 = true then (if x3 > 0 then (if 0 ≤ (wrap64 (x3 - 1)) then (if (wrap64 (x3 - 1)) < (x0.length : Int) then (if ((Op.bytesLess (((rd_T77 x0 (wrap64 (x3 - 1))).f0).toList) (((rd_T77 x0 x3).f0).toList)) = true) then (spec_l13Ok.l0 k x0 (wrap64 (x3 + 1))) else (some false)) else (none)) else (none)) else (spec_l13Ok.l0 k x0 (wrap64 (x3 + 1)))) else (some false))) else (none)) else ((spec_l00In.f (x0.length : Int) 1 4).bind fun t159 => (some t159))
def spec_l13Ok.f (k : Nat) (l0 : List (S77)) : Option (Bool) := spec_l13Ok.l0 k l0 0
theorem spec_l13Ok.mono_l : ∀ k, (∀ y0 y1, LeO (spec_l13Ok.l0 k y0 y1) (spec_l13Ok.l0 (k + 1) y0 y1))
 | 0 => fun _ _ r h => by simp [spec_l13Ok.l0] at h
 | k + 1 => by
  have ih0 := spec_l13Ok.mono_l k
  ·
   intro y0 y1
   unfold spec_l13Ok.l0
   repeat' first
   | (with_reducible exact ih0 _ _)
   | (with_reducible exact spec_l13One.mono _ _)
   | (with_reducible exact LeO.refl _)
   | (with_reducible exact LeO.none _)
   | (with_reducible refine LeO.ite ?_ ?_)
   | (with_reducible refine LeO.bind ?_ (fun _ => ?_))
   | exact ih0 _ _
   | exact spec_l13One.mono _ _
   | exact LeO.none _
   | refine LeO.ite ?_ ?_
   | refine LeO.bind ?_ (fun _ => ?_)
theorem spec_l13Ok.mono : ∀ a0 k, LeO (spec_l13Ok.f k a0) (spec_l13Ok.f (k + 1) a0) := by
 intro a0 k
 have ih0 := spec_l13Ok.mono_l k
 unfold spec_l13Ok.f
 repeat' first
   | (with_reducible exact ih0 _ _)
   | (with_reducible exact spec_l13One.mono _ _)
   | (with_reducible exact LeO.refl _)
   | (with_reducible exact LeO.none _)
   | (with_reducible refine LeO.ite ?_ ?_)
   | (with_reducible refine LeO.bind ?_ (fun _ => ?_))
   | exact ih0 _ _
   | exact spec_l13One.mono _ _
   | exact LeO.none _
   | refine LeO.ite ?_ ?_
   | refine LeO.bind ?_ (fun _ => ?_)
set_option maxHeartbeats 8000000 in
set_option maxRecDepth 100000 in
theorem spec_l13Ok.calls (k : Nat) (A0 : Option Addr) (c0 : Nat) (l0 : List (S77)) (r : Bool) (w : World) (hr0 : Kd.C k77 w A0 l0.length l0) (hc0 : l0.length ≤ c0) (h : spec_l13Ok.f k l0 = some r) :
  Calls Try.prog 64 #[.slice A0 l0.length c0] w fun e w' => e = .returned (.bool r) ∧ Drawn0 w w' := by
 have HR0 := Aside0.mk hr0
 have HC0 := Aside0.mk hc0
 clear hr0 hc0
 have H : (spec_l13Ok.l0 k l0 0) = some r := h
 clear h
 have H' := Aside0.mk H
 clear H
 go_enter Try.func64, Try.ntmps64
 go_wp2
 repeat (go_quiet (fail); try go_wp2)
 go_loopg [3] k (fun kq v3 w' => ∃ (x3_1 : Int), v3 = .int .i64 x3_1 ∧ Aside0 (spec_l13Ok.l0 kq l0 x3_1 = some r) ∧ Aside0 (kq ≤ k) ∧ Drawn0 w w')
 case atStart => exact ⟨(0), rs_, H', ⟨Nat.le_refl _⟩, dr_⟩
 case round =>
  clear H'
  obtain ⟨x3_1, rfl, HA, HK1, ⟨m1, rfl⟩⟩ := hrel
  cases gk with
  | zero => exact absurd HA.out (by simp [spec_l13Ok.l0])
  | succ k1 =>
   have H := HA.out
   clear HA
   simp only [spec_l13Ok.l0] at H
   by_cases c2 : x3_1 < (l0.length : Int)
   ·
    rw [if_pos c2] at H
    have c2b0 : decide (x3_1 < (l0.length : Int)) = true := decide_eq_true c2
    clear c2
    by_cases c3 : 0 ≤ x3_1
    ·
     rw [if_pos c3] at H
     have c3b0 : decide (0 ≤ x3_1) = true := decide_eq_true c3
     clear c3
     replace H := Option.bind_eq_some_iff.mp H
     obtain ⟨t156, A40, H⟩ := H
     replace H : (if t156 = true then (if x3_1 > 0 then (if 0 ≤ (wrap64 (x3_1 - 1)) then (if (wrap64 (x3_1 - 1)) < (l0.length : Int) then (if ((Op.bytesLess (((rd_T77 l0 (wrap64 (x3_1 - 1))).f0).toList) (((rd_T77 l0 x3_1).f0).toList)) = true) then (spec_l13Ok.l0 k1 l0 (wrap64 (x3_1 + 1))) else (some false)) else (none)) else (none)) else (spec_l13Ok.l0 k1 l0 (wrap64 (x3_1 + 1)))) else (some false)) = some r := H
     have A4 := Aside0.mk A40
     clear A40
     by_cases c5 : t156 = true
     ·
      subst c5
      have H1 : (if x3_1 > 0 then (if 0 ≤ (wrap64 (x3_1 - 1)) then (if (wrap64 (x3_1 - 1)) < (l0.length : Int) then (if ((Op.bytesLess (((rd_T77 l0 (wrap64 (x3_1 - 1))).f0).toList) (((rd_T77 l0 x3_1).f0).toList)) = true) then (spec_l13Ok.l0 k1 l0 (wrap64 (x3_1 + 1))) else (some false)) else (none)) else (none)) else (spec_l13Ok.l0 k1 l0 (wrap64 (x3_1 + 1)))) = some r := by rw [if_pos rfl] at H; exact H
      clear H
      have H := H1
      clear H1
      by_cases c6 : x3_1 > 0
      ·
       rw [if_pos c6] at H
       have c6b0 : decide (0 < x3_1) = true := decide_eq_true c6
       clear c6
       obtain ⟨ji7, hji7⟩ : ∃ j_ : Int, (wrap64 (x3_1 - 1)) = j_ := ⟨_, rfl⟩
       replace H : (if 0 ≤ (ji7) then (if (ji7) < (l0.length : Int) then (if ((Op.bytesLess (((rd_T77 l0 (ji7)).f0).toList) (((rd_T77 l0 x3_1).f0).toList)) = true) then (spec_l13Ok.l0 k1 l0 (wrap64 (x3_1 + 1))) else (some false)) else (none)) else (none)) = some r := by first | (rw [hji7] at H; exact H) | (simp only [hji7] at H ⊢; exact H)
       (try rw [hji7] at A4)
       have hji7w : (IntKind.i64.wrap (x3_1 - 1)) = ji7 := (i64_w _).trans hji7
       by_cases c8 : 0 ≤ (ji7)
       ·
        rw [if_pos c8] at H
        have c8b0 : decide (0 ≤ (ji7)) = true := decide_eq_true c8
        clear c8
        by_cases c9 : (ji7) < (l0.length : Int)
        ·
         rw [if_pos c9] at H
         have c9b0 : decide ((ji7) < (l0.length : Int)) = true := decide_eq_true c9
         clear c9
         by_cases c10 : ((Op.bytesLess (((rd_T77 l0 (ji7)).f0).toList) (((rd_T77 l0 x3_1).f0).toList)) = true)
         ·
          rw [if_pos c10] at H
          have c10b0 : (Op.bytesLess (((rd_T77 l0 (ji7)).f0).toList) (((rd_T77 l0 x3_1).f0).toList)) = true := c10
          clear c10
          have H' := Aside0.mk H
          clear H
          have p154 : 0 ≤ (x3_1 : Int) := of_decide_eq_true as_
          have q154 : x3_1 < (l0.length : Int) := of_decide_eq_true as_
          obtain ⟨ad154, e154, hx154_0, hx154_1, hx154_2, hx154_3, hx154_4, hx154_5, hx154_6⟩ := at_T77 HR0.out x3_1 p154 q154
          cases e154
          replace p154 := eq_true p154
          replace q154 := eq_true q154
          have HRe155 := Aside0.mk (show Kd.C k77 w (some (ad154.add ((x3_1).toNat * 7))) 1 [rd_T77 l0 x3_1] from ep_elem HR0.out _ x3_1 (of_decide_eq_true as_) (of_decide_eq_true as_))
          have HCe155 := Aside0.mk (Nat.le_refl 1)
          have p157 : 0 ≤ ((ji7) : Int) := of_decide_eq_true as_
          have q157 : (ji7) < (l0.length : Int) := of_decide_eq_true as_
          obtain ⟨ad157, e157, hx157_0, hx157_1, hx157_2, hx157_3, hx157_4, hx157_5, hx157_6⟩ := at_T77 HR0.out (ji7) p157 q157
          obtain rfl : ad154 = ad157 := (by injection e157)
          replace p157 := eq_true p157
          replace q157 := eq_true q157
          have p158 : 0 ≤ (x3_1 : Int) := of_decide_eq_true as_
          have q158 : x3_1 < (l0.length : Int) := of_decide_eq_true as_
          obtain ⟨ad158, e158, hx158_0, hx158_1, hx158_2, hx158_3, hx158_4, hx158_5, hx158_6⟩ := at_T77 HR0.out x3_1 p158 q158
          obtain rfl : ad154 = ad158 := (by injection e158)
          replace p158 := eq_true p158
          replace q158 := eq_true q158
          go_wp2_with (first | (go_at_call 115; (with_reducible refine (spec_l13One.calls k1 _ 1 [rd_T77 l0 x3_1] true _ ?side1 ?side2 A4.out).mono ?_); (case side1 => exact cA_ HRe155.out); (case side2 => first | exact Nat.le_refl _ | exact HCe155.out); rintro e w' ⟨rfl, ⟨nd, rfl⟩⟩; (try first | exact ⟨rfl, _, World.drewN_drewN _ _ _⟩ | exact ⟨rfl, _, Eq.trans (World.drewN_drewN _ _ _) (congrArg (World.drewN _) (Nat.add_assoc _ _ _))⟩)))
          repeat (go_quiet (first | (go_at_call 115; (with_reducible refine (spec_l13One.calls k1 _ 1 [rd_T77 l0 x3_1] true _ ?side1 ?side2 A4.out).mono ?_); (case side1 => exact cA_ HRe155.out); (case side2 => first | exact Nat.le_refl _ | exact HCe155.out); rintro e w' ⟨rfl, ⟨nd, rfl⟩⟩; (try first | exact ⟨rfl, _, World.drewN_drewN _ _ _⟩ | exact ⟨rfl, _, Eq.trans (World.drewN_drewN _ _ _) (congrArg (World.drewN _) (Nat.add_assoc _ _ _))⟩))); try go_wp2_with (first | (go_at_call 115; (with_reducible refine (spec_l13One.calls k1 _ 1 [rd_T77 l0 x3_1] true _ ?side1 ?side2 A4.out).mono ?_); (case side1 => exact cA_ HRe155.out); (case side2 => first | exact Nat.le_refl _ | exact HCe155.out); rintro e w' ⟨rfl, ⟨nd, rfl⟩⟩; (try first | exact ⟨rfl, _, World.drewN_drewN _ _ _⟩ | exact ⟨rfl, _, Eq.trans (World.drewN_drewN _ _ _) (congrArg (World.drewN _) (Nat.add_assoc _ _ _))⟩))))
          go_roundg k1
          case measure => have := HK1.out; omega
          case rel => exact ⟨(wrap64 (x3_1 + 1)), rs_, H', ⟨by have := HK1.out; omega⟩, dr_⟩
         ·
          rw [if_neg c10] at H
          have c10b0 : (Op.bytesLess (((rd_T77 l0 (ji7)).f0).toList) (((rd_T77 l0 x3_1).f0).toList)) = false := by simpa using c10
          clear c10
          obtain rfl := Option.some.inj H
          have p154 : 0 ≤ (x3_1 : Int) := of_decide_eq_true as_
          have q154 : x3_1 < (l0.length : Int) := of_decide_eq_true as_
          obtain ⟨ad154, e154, hx154_0, hx154_1, hx154_2, hx154_3, hx154_4, hx154_5, hx154_6⟩ := at_T77 HR0.out x3_1 p154 q154
          cases e154
          replace p154 := eq_true p154
          replace q154 := eq_true q154
          have HRe155 := Aside0.mk (show Kd.C k77 w (some (ad154.add ((x3_1).toNat * 7))) 1 [rd_T77 l0 x3_1] from ep_elem HR0.out _ x3_1 (of_decide_eq_true as_) (of_decide_eq_true as_))
          have HCe155 := Aside0.mk (Nat.le_refl 1)
          have p157 : 0 ≤ ((ji7) : Int) := of_decide_eq_true as_
          have q157 : (ji7) < (l0.length : Int) := of_decide_eq_true as_
          obtain ⟨ad157, e157, hx157_0, hx157_1, hx157_2, hx157_3, hx157_4, hx157_5, hx157_6⟩ := at_T77 HR0.out (ji7) p157 q157
          obtain rfl : ad154 = ad157 := (by injection e157)
          replace p157 := eq_true p157
          replace q157 := eq_true q157
          have p158 : 0 ≤ (x3_1 : Int) := of_decide_eq_true as_
          have q158 : x3_1 < (l0.length : Int) := of_decide_eq_true as_
          obtain ⟨ad158, e158, hx158_0, hx158_1, hx158_2, hx158_3, hx158_4, hx158_5, hx158_6⟩ := at_T77 HR0.out x3_1 p158 q158
          obtain rfl : ad154 = ad158 := (by injection e158)
          replace p158 := eq_true p158
          replace q158 := eq_true q158
          go_wp2_with (first | (go_at_call 115; (with_reducible refine (spec_l13One.calls k1 _ 1 [rd_T77 l0 x3_1] true _ ?side1 ?side2 A4.out).mono ?_); (case side1 => exact cA_ HRe155.out); (case side2 => first | exact Nat.le_refl _ | exact HCe155.out); rintro e w' ⟨rfl, ⟨nd, rfl⟩⟩; (try first | exact ⟨rfl, _, World.drewN_drewN _ _ _⟩ | exact ⟨rfl, _, Eq.trans (World.drewN_drewN _ _ _) (congrArg (World.drewN _) (Nat.add_assoc _ _ _))⟩)))
          repeat (go_quiet (first | (go_at_call 115; (with_reducible refine (spec_l13One.calls k1 _ 1 [rd_T77 l0 x3_1] true _ ?side1 ?side2 A4.out).mono ?_); (case side1 => exact cA_ HRe155.out); (case side2 => first | exact Nat.le_refl _ | exact HCe155.out); rintro e w' ⟨rfl, ⟨nd, rfl⟩⟩; (try first | exact ⟨rfl, _, World.drewN_drewN _ _ _⟩ | exact ⟨rfl, _, Eq.trans (World.drewN_drewN _ _ _) (congrArg (World.drewN _) (Nat.add_assoc _ _ _))⟩))); try go_wp2_with (first | (go_at_call 115; (with_reducible refine (spec_l13One.calls k1 _ 1 [rd_T77 l0 x3_1] true _ ?side1 ?side2 A4.out).mono ?_); (case side1 => exact cA_ HRe155.out); (case side2 => first | exact Nat.le_refl _ | exact HCe155.out); rintro e w' ⟨rfl, ⟨nd, rfl⟩⟩; (try first | exact ⟨rfl, _, World.drewN_drewN _ _ _⟩ | exact ⟨rfl, _, Eq.trans (World.drewN_drewN _ _ _) (congrArg (World.drewN _) (Nat.add_assoc _ _ _))⟩))))
          go_ret
          exact ⟨by first | rfl | (simp; done) | (simp only [← hji7] <;> (first | rfl | simp)) | (simp [*]; done), dr_⟩
        ·
         rw [if_neg c9] at H
         exact absurd H (by simp)
       ·
        rw [if_neg c8] at H
        exact absurd H (by simp)
      ·
       rw [if_neg c6] at H
       have c6b0 : decide (0 < x3_1) = false := decide_eq_false c6
       clear c6
       have H' := Aside0.mk H
       clear H
       have p154 : 0 ≤ (x3_1 : Int) := of_decide_eq_true as_
       have q154 : x3_1 < (l0.length : Int) := of_decide_eq_true as_
       obtain ⟨ad154, e154, hx154_0, hx154_1, hx154_2, hx154_3, hx154_4, hx154_5, hx154_6⟩ := at_T77 HR0.out x3_1 p154 q154
       cases e154
       replace p154 := eq_true p154
       replace q154 := eq_true q154
       have HRe155 := Aside0.mk (show Kd.C k77 w (some (ad154.add ((x3_1).toNat * 7))) 1 [rd_T77 l0 x3_1] from ep_elem HR0.out _ x3_1 (of_decide_eq_true as_) (of_decide_eq_true as_))
       have HCe155 := Aside0.mk (Nat.le_refl 1)
       go_wp2_with (first | (go_at_call 115; (with_reducible refine (spec_l13One.calls k1 _ 1 [rd_T77 l0 x3_1] true _ ?side1 ?side2 A4.out).mono ?_); (case side1 => exact cA_ HRe155.out); (case side2 => first | exact Nat.le_refl _ | exact HCe155.out); rintro e w' ⟨rfl, ⟨nd, rfl⟩⟩; (try first | exact ⟨rfl, _, World.drewN_drewN _ _ _⟩ | exact ⟨rfl, _, Eq.trans (World.drewN_drewN _ _ _) (congrArg (World.drewN _) (Nat.add_assoc _ _ _))⟩)))
       repeat (go_quiet (first | (go_at_call 115; (with_reducible refine (spec_l13One.calls k1 _ 1 [rd_T77 l0 x3_1] true _ ?side1 ?side2 A4.out).mono ?_); (case side1 => exact cA_ HRe155.out); (case side2 => first | exact Nat.le_refl _ | exact HCe155.out); rintro e w' ⟨rfl, ⟨nd, rfl⟩⟩; (try first | exact ⟨rfl, _, World.drewN_drewN _ _ _⟩ | exact ⟨rfl, _, Eq.trans (World.drewN_drewN _ _ _) (congrArg (World.drewN _) (Nat.add_assoc _ _ _))⟩))); try go_wp2_with (first | (go_at_call 115; (with_reducible refine (spec_l13One.calls k1 _ 1 [rd_T77 l0 x3_1] true _ ?side1 ?side2 A4.out).mono ?_); (case side1 => exact cA_ HRe155.out); (case side2 => first | exact Nat.le_refl _ | exact HCe155.out); rintro e w' ⟨rfl, ⟨nd, rfl⟩⟩; (try first | exact ⟨rfl, _, World.drewN_drewN _ _ _⟩ | exact ⟨rfl, _, Eq.trans (World.drewN_drewN _ _ _) (congrArg (World.drewN _) (Nat.add_assoc _ _ _))⟩))))
       go_roundg k1
       case measure => have := HK1.out; omega
       case rel => exact ⟨(wrap64 (x3_1 + 1)), rs_, H', ⟨by have := HK1.out; omega⟩, dr_⟩
     ·
      replace c5 := Bool.eq_false_iff.mpr c5
      subst c5
      have H1 : (some false) = some r := by rw [if_neg (show ¬ (false = true) by decide)] at H; exact H
      clear H
      have H := H1
      clear H1
      obtain rfl := Option.some.inj H
      have p154 : 0 ≤ (x3_1 : Int) := of_decide_eq_true as_
      have q154 : x3_1 < (l0.length : Int) := of_decide_eq_true as_
      obtain ⟨ad154, e154, hx154_0, hx154_1, hx154_2, hx154_3, hx154_4, hx154_5, hx154_6⟩ := at_T77 HR0.out x3_1 p154 q154
      cases e154
      replace p154 := eq_true p154
      replace q154 := eq_true q154
      have HRe155 := Aside0.mk (show Kd.C k77 w (some (ad154.add ((x3_1).toNat * 7))) 1 [rd_T77 l0 x3_1] from ep_elem HR0.out _ x3_1 (of_decide_eq_true as_) (of_decide_eq_true as_))
      have HCe155 := Aside0.mk (Nat.le_refl 1)
      go_wp2_with (first | (go_at_call 115; (with_reducible refine (spec_l13One.calls k1 _ 1 [rd_T77 l0 x3_1] false _ ?side1 ?side2 A4.out).mono ?_); (case side1 => exact cA_ HRe155.out); (case side2 => first | exact Nat.le_refl _ | exact HCe155.out); rintro e w' ⟨rfl, ⟨nd, rfl⟩⟩; (try first | exact ⟨rfl, _, World.drewN_drewN _ _ _⟩ | exact ⟨rfl, _, Eq.trans (World.drewN_drewN _ _ _) (congrArg (World.drewN _) (Nat.add_assoc _ _ _))⟩)))
      repeat (go_quiet (first | (go_at_call 115; (with_reducible refine (spec_l13One.calls k1 _ 1 [rd_T77 l0 x3_1] false _ ?side1 ?side2 A4.out).mono ?_); (case side1 => exact cA_ HRe155.out); (case side2 => first | exact Nat.le_refl _ | exact HCe155.out); rintro e w' ⟨rfl, ⟨nd, rfl⟩⟩; (try first | exact ⟨rfl, _, World.drewN_drewN _ _ _⟩ | exact ⟨rfl, _, Eq.trans (World.drewN_drewN _ _ _) (congrArg (World.drewN _) (Nat.add_assoc _ _ _))⟩))); try go_wp2_with (first | (go_at_call 115; (with_reducible refine (spec_l13One.calls k1 _ 1 [rd_T77 l0 x3_1] false _ ?side1 ?side2 A4.out).mono ?_); (case side1 => exact cA_ HRe155.out); (case side2 => first | exact Nat.le_refl _ | exact HCe155.out); rintro e w' ⟨rfl, ⟨nd, rfl⟩⟩; (try first | exact ⟨rfl, _, World.drewN_drewN _ _ _⟩ | exact ⟨rfl, _, Eq.trans (World.drewN_drewN _ _ _) (congrArg (World.drewN _) (Nat.add_assoc _ _ _))⟩))))
      go_ret
      exact ⟨rs_, dr_⟩
    ·
     rw [if_neg c3] at H
     exact absurd H (by simp)
   ·
    rw [if_neg c2] at H
    have c2b0 : decide (x3_1 < (l0.length : Int)) = false := decide_eq_false c2
    clear c2
    replace H := Option.bind_eq_some_iff.mp H
    obtain ⟨t159, A110, H⟩ := H
    replace H : (some t159) = some r := H
    have A11 := Aside0.mk A110
    clear A110
    obtain rfl := Option.some.inj H
    go_wp2_with (first | (go_at_call 102; (with_reducible refine (spec_l00In.calls (l0.length : Int) 1 4 t159 _ A11.out).mono ?_); rintro e w' ⟨rfl, ⟨nd, rfl⟩⟩; (try first | exact ⟨rfl, _, World.drewN_drewN _ _ _⟩ | exact ⟨rfl, _, Eq.trans (World.drewN_drewN _ _ _) (congrArg (World.drewN _) (Nat.add_assoc _ _ _))⟩)))
    repeat (go_quiet (first | (go_at_call 102; (with_reducible refine (spec_l00In.calls (l0.length : Int) 1 4 t159 _ A11.out).mono ?_); rintro e w' ⟨rfl, ⟨nd, rfl⟩⟩; (try first | exact ⟨rfl, _, World.drewN_drewN _ _ _⟩ | exact ⟨rfl, _, Eq.trans (World.drewN_drewN _ _ _) (congrArg (World.drewN _) (Nat.add_assoc _ _ _))⟩))); try go_wp2_with (first | (go_at_call 102; (with_reducible refine (spec_l00In.calls (l0.length : Int) 1 4 t159 _ A11.out).mono ?_); rintro e w' ⟨rfl, ⟨nd, rfl⟩⟩; (try first | exact ⟨rfl, _, World.drewN_drewN _ _ _⟩ | exact ⟨rfl, _, Eq.trans (World.drewN_drewN _ _ _) (congrArg (World.drewN _) (Nat.add_assoc _ _ _))⟩))))
    go_ret
    exact ⟨rs_, dr_⟩

/-! ### spec_l13Demand: function 65 -/
def spec_l13Demand.f (a0 : Int) : Option (Bool) := (spec_l00In.f a0 0 400000).bind fun t160 => (some t160)
set_option maxHeartbeats 8000000 in
set_option maxRecDepth 100000 in
theorem spec_l13Demand.calls (a0 : Int) (r : Bool) (w : World) (h : spec_l13Demand.f a0 = some r) :
  Calls Try.prog 65 #[.int .i64 a0] w fun e w' => e = .returned (.bool r) ∧ Drawn0 w w' := by
 have H : ((spec_l00In.f a0 0 400000).bind fun t160 => (some t160)) = some r := h
 clear h
 replace H := Option.bind_eq_some_iff.mp H
 obtain ⟨t160, A20, H⟩ := H
 replace H : (some t160) = some r := H
 have A2 := Aside0.mk A20
 clear A20
 obtain rfl := Option.some.inj H
 go_enter Try.func65, Try.ntmps65
 go_wp2_with (first | ((with_reducible refine gate_callee (f := 102) rfl ?_); refine goesL_ (some 4) rfl rfl Try.func102 (by kernel_rfl) rfl #[.int .i64 a0, .int .i64 0, .int .i64 400000] rfl mT_ ?_; (with_reducible refine (spec_l00In.calls a0 0 400000 t160 _ A2.out).mono ?_); rintro e w' ⟨rfl, ⟨nd, rfl⟩⟩; refine ⟨_, rfl, ?_⟩))
 go_ret
 exact ⟨rs_, dr_⟩

/-! ### spec_l13Demands: function 109 -/
def spec_l13Demands.l0 : Nat → List Int → Int → Option (Bool)
 | 0, _, _ => none
 | k + 1, x0, x3 => if x3 < (x0.length : Int) then (if 0 ≤ x3 then ((spec_l13Demand.f (rd x0 x3)).bind fun t162 => (if t162 = true then (spec_l13Demands.l0 k x0 (wrap64 (x3 + 1))) else (some false))) else (none)) else ((spec_l00In.f (x0.length : Int) 1 12).bind fun t163 => (some t163))
def spec_l13Demands.f (k : Nat) (l0 : List Int) : Option (Bool) := spec_l13Demands.l0 k l0 0
theorem spec_l13Demands.mono_l : ∀ k, (∀ y0 y1, LeO (spec_l13Demands.l0 k y0 y1) (spec_l13Demands.l0 (k + 1) y0 y1))
 | 0 => fun _ _ r h => by simp [spec_l13Demands.l0] at h
 | k + 1 => by
  have ih0 := spec_l13Demands.mono_l k
  ·
   intro y0 y1
   unfold spec_l13Demands.l0
   repeat' first
   | (with_reducible exact ih0 _ _)
   | (with_reducible exact LeO.refl _)
   | (with_reducible exact LeO.none _)
   | (with_reducible refine LeO.ite ?_ ?_)
   | (with_reducible refine LeO.bind ?_ (fun _ => ?_))
   | exact ih0 _ _
   | exact LeO.none _
   | refine LeO.ite ?_ ?_
   | refine LeO.bind ?_ (fun _ => ?_)
theorem spec_l13Demands.mono : ∀ a0 k, LeO (spec_l13Demands.f k a0) (spec_l13Demands.f (k + 1) a0) := by
 intro a0 k
 have ih0 := spec_l13Demands.mono_l k
 unfold spec_l13Demands.f
 repeat' first
   | (with_reducible exact ih0 _ _)
   | (with_reducible exact LeO.refl _)
   | (with_reducible exact LeO.none _)
   | (with_reducible refine LeO.ite ?_ ?_)
   | (with_reducible refine LeO.bind ?_ (fun _ => ?_))
   | exact ih0 _ _
   | exact LeO.none _
   | refine LeO.ite ?_ ?_
   | refine LeO.bind ?_ (fun _ => ?_)
set_option maxHeartbeats 8000000 in
set_option maxRecDepth 100000 in
theorem spec_l13Demands.calls (k : Nat) (A0 : Option Addr) (c0 : Nat) (l0 : List Int) (r : Bool) (w : World) (hr0 : Kd.C (Kd.int .i64) w A0 l0.length l0) (hc0 : l0.length ≤ c0) (h : spec_l13Demands.f k l0 = some r) :
  Calls Try.prog 109 #[.slice A0 l0.length c0] w fun e w' => e = .returned (.bool r) ∧ Drawn0 w w' := by
 have HR0 := Aside0.mk hr0
 have HC0 := Aside0.mk hc0
 clear hr0 hc0
 have H : (spec_l13Demands.l0 k l0 0) = some r := h
 clear h
 have H' := Aside0.mk H
 clear H
 go_enter Try.func109, Try.ntmps109
 go_wp2
 go_loopg [3] k (fun kq v3 w' => ∃ (x3_1 : Int), v3 = .int .i64 x3_1 ∧ Aside0 (spec_l13Demands.l0 kq l0 x3_1 = some r) ∧ Aside0 (kq ≤ k) ∧ Drawn0 w w')
 case atStart => exact ⟨(0), rs_, H', ⟨Nat.le_refl _⟩, dr_⟩
 case round =>
  clear H'
  try clear c1
  obtain ⟨x3_1, rfl, HA, HK1, ⟨m1, rfl⟩⟩ := hrel
  cases gk with
  | zero => exact absurd HA.out (by simp [spec_l13Demands.l0])
  | succ k1 =>
   have H := HA.out
   clear HA
   simp only [spec_l13Demands.l0] at H
   by_cases c2 : x3_1 < (l0.length : Int)
   ·
    rw [if_pos c2] at H
    have c2b0 : decide (x3_1 < (l0.length : Int)) = true := decide_eq_true c2
    clear c2
    by_cases c3 : 0 ≤ x3_1
    ·
     rw [if_pos c3] at H
     have c3b0 : decide (0 ≤ x3_1) = true := decide_eq_true c3
     clear c3
     replace H := Option.bind_eq_some_iff.mp H
     obtain ⟨t162, A40, H⟩ := H
     replace H : (if t162 = true then (spec_l13Demands.l0 k1 l0 (wrap64 (x3_1 + 1))) else (some false)) = some r := H
     have A4 := Aside0.mk A40
     clear A40
     by_cases c5 : t162 = true
     ·
      subst c5
      have H1 : (spec_l13Demands.l0 k1 l0 (wrap64 (x3_1 + 1))) = some r := by rw [if_pos rfl] at H; exact H
      clear H
      have H := H1
      clear H1
      have H' := Aside0.mk H
      clear H
      have p161 : 0 ≤ (x3_1 : Int) := of_decide_eq_true as_
      have q161 : x3_1 < (l0.length : Int) := of_decide_eq_true as_
      obtain ⟨ad161, e161, hx161_0⟩ := Kd.at_int HR0.out x3_1 p161 q161
      cases e161
      replace p161 := eq_true p161
      replace q161 := eq_true q161
      go_wp2_with (first | ((with_reducible refine gate_callee (f := 65) rfl ?_); refine goesL_ (some 14) rfl rfl Try.func65 (by kernel_rfl) rfl #[.int .i64 (rd l0 x3_1)] rfl mT_ ?_; (with_reducible refine (spec_l13Demand.calls (rd l0 x3_1) true _ A4.out).mono ?_); rintro e w' ⟨rfl, ⟨nd, rfl⟩⟩; refine ⟨_, rfl, ?_⟩))
      go_roundg k1
      case measure => have := HK1.out; omega
      case rel => exact ⟨(wrap64 (x3_1 + 1)), rs_, H', ⟨by have := HK1.out; omega⟩, dr_⟩
     ·
      replace c5 := Bool.eq_false_iff.mpr c5
      subst c5
      have H1 : (some false) = some r := by rw [if_neg (show ¬ (false = true) by decide)] at H; exact H
      clear H
      have H := H1
      clear H1
      obtain rfl := Option.some.inj H
      have p161 : 0 ≤ (x3_1 : Int) := of_decide_eq_true as_
      have q161 : x3_1 < (l0.length : Int) := of_decide_eq_true as_
      obtain ⟨ad161, e161, hx161_0⟩ := Kd.at_int HR0.out x3_1 p161 q161
      cases e161
      replace p161 := eq_true p161
      replace q161 := eq_true q161
      go_wp2_with (first | ((with_reducible refine gate_callee (f := 65) rfl ?_); refine goesL_ (some 14) rfl rfl Try.func65 (by kernel_rfl) rfl #[.int .i64 (rd l0 x3_1)] rfl mT_ ?_; (with_reducible refine (spec_l13Demand.calls (rd l0 x3_1) false _ A4.out).mono ?_); rintro e w' ⟨rfl, ⟨nd, rfl⟩⟩; refine ⟨_, rfl, ?_⟩))
      go_ret
      exact ⟨rs_, dr_⟩
    ·
     rw [if_neg c3] at H
     exact absurd H (by simp)
   ·
    rw [if_neg c2] at H
    have c2b0 : decide (x3_1 < (l0.length : Int)) = false := decide_eq_false c2
    clear c2
    replace H := Option.bind_eq_some_iff.mp H
    obtain ⟨t163, A60, H⟩ := H
    replace H : (some t163) = some r := H
    have A6 := Aside0.mk A60
    clear A60
    obtain rfl := Option.some.inj H
    go_wp2_with (first | ((with_reducible refine gate_callee (f := 102) rfl ?_); refine goesL_ (some 18) rfl rfl Try.func102 (by kernel_rfl) rfl #[.int .i64 (l0.length : Int), .int .i64 1, .int .i64 12] rfl mT_ ?_; (with_reducible refine (spec_l00In.calls (l0.length : Int) 1 12 t163 _ A6.out).mono ?_); rintro e w' ⟨rfl, ⟨nd, rfl⟩⟩; refine ⟨_, rfl, ?_⟩))
    go_ret
    exact ⟨rs_, dr_⟩

/-! ### spec_l13States: function 125 -/
def spec_l13States.l0 : Nat → List (List Bool) → Int → Int → Option (Bool)
 | 0, _, _, _ => none
 | k + 1, x0, x1, x5 => if x5 < (x0.length : Int) then (if 0 ≤ x5 then (if ((rd_L5 x0 x5).length : Int) = x1 then (spec_l13States.l0 k x0 x1 (wrap64 (x5 + 1))) else (some false)) else (none)) else ((spec_l00In.f (x0.length : Int) 1 12).bind fun t165 => (some t165))
def spec_l13States.f (k : Nat) (l0 : List (List Bool)) (a1 : Int) : Option (Bool) := spec_l13States.l0 k l0 a1 0
theorem spec_l13States.mono_l : ∀ k, (∀ y0 y1 y2, LeO (spec_l13States.l0 k y0 y1 y2) (spec_l13States.l0 (k + 1) y0 y1 y2))
 | 0 => fun _ _ _ r h => by simp [spec_l13States.l0] at h
 | k + 1 => by
  have ih0 := spec_l13States.mono_l k
  ·
   intro y0 y1 y2
   unfold spec_l13States.l0
   repeat' first
   | (with_reducible exact ih0 _ _ _)
   | (with_reducible exact LeO.refl _)
   | (with_reducible exact LeO.none _)
   | (with_reducible refine LeO.ite ?_ ?_)
   | (with_reducible refine LeO.bind ?_ (fun _ => ?_))
   | exact ih0 _ _ _
   | exact LeO.none _
   | refine LeO.ite ?_ ?_
   | refine LeO.bind ?_ (fun _ => ?_)
theorem spec_l13States.mono : ∀ a0 a1 k, LeO (spec_l13States.f k a0 a1) (spec_l13States.f (k + 1) a0 a1) := by
 intro a0 a1 k
 have ih0 := spec_l13States.mono_l k
 unfold spec_l13States.f
 repeat' first
   | (with_reducible exact ih0 _ _ _)
   | (with_reducible exact LeO.refl _)
   | (with_reducible exact LeO.none _)
   | (with_reducible refine LeO.ite ?_ ?_)
   | (with_reducible refine LeO.bind ?_ (fun _ => ?_))
   | exact ih0 _ _ _
   | exact LeO.none _
   | refine LeO.ite ?_ ?_
   | refine LeO.bind ?_ (fun _ => ?_)
set_option maxHeartbeats 8000000 in
set_option maxRecDepth 100000 in
theorem spec_l13States.calls (k : Nat) (A0 : Option Addr) (c0 : Nat) (l0 : List (List Bool)) (a1 : Int) (r : Bool) (w : World) (hr0 : Kd.C (Kd.slice 4 Kd.bool) w A0 l0.length l0) (hc0 : l0.length ≤ c0) (h : spec_l13States.f k l0 a1 = some r) :
  Calls Try.prog 125 #[.slice A0 l0.length c0, .int .i64 a1] w fun e w' => e = .returned (.bool r) ∧ Drawn0 w w' := by
 have HR0 := Aside0.mk hr0
 have HC0 := Aside0.mk hc0
 clear hr0 hc0
 have H : (spec_l13States.l0 k l0 a1 0) = some r := h
 clear h
 have H' := Aside0.mk H
 clear H
 go_enter Try.func125, Try.ntmps125
 go_wp2
 go_loopg [5] k (fun kq v5 w' => ∃ (x5_1 : Int), v5 = .int .i64 x5_1 ∧ Aside0 (spec_l13States.l0 kq l0 a1 x5_1 = some r) ∧ Aside0 (kq ≤ k) ∧ Drawn0 w w')
 case atStart => exact ⟨(0), rs_, H', ⟨Nat.le_refl _⟩, dr_⟩
 case round =>
  clear H'
  try clear c1
  try clear p2
  obtain ⟨x5_1, rfl, HA, HK1, ⟨m1, rfl⟩⟩ := hrel
  cases gk with
  | zero => exact absurd HA.out (by simp [spec_l13States.l0])
  | succ k1 =>
   have H := HA.out
   clear HA
   simp only [spec_l13States.l0] at H
   by_cases c3 : x5_1 < (l0.length : Int)
   ·
    rw [if_pos c3] at H
    have c3b0 : decide (x5_1 < (l0.length : Int)) = true := decide_eq_true c3
    clear c3
    by_cases c4 : 0 ≤ x5_1
    ·
     rw [if_pos c4] at H
     have c4b0 : decide (0 ≤ x5_1) = true := decide_eq_true c4
     clear c4
     by_cases c5 : ((rd_L5 l0 x5_1).length : Int) = a1
     ·
      rw [if_pos c5] at H
      have c5b0 : (((rd_L5 l0 x5_1).length : Int) == a1) = true := beq_iff_eq.mpr c5
      have c5b1 : (((rd_L5 l0 x5_1).length : Int) != a1) = false := bne_eq_false_iff_eq.mpr c5
      clear c5
      have H' := Aside0.mk H
      clear H
      have p164 : 0 ≤ (x5_1 : Int) := of_decide_eq_true as_
      have q164 : x5_1 < (l0.length : Int) := of_decide_eq_true as_
      obtain ⟨ad164, A164_0, c164_0, e164, hx164_0, hl164_0, hi164_0⟩ := at_L5 HR0.out x5_1 p164 q164
      cases e164
      have HR164_0 := Aside0.mk hi164_0
      have HC164_0 := Aside0.mk hl164_0
      clear hi164_0 hl164_0
      replace p164 := eq_true p164
      replace q164 := eq_true q164
      go_wp2
      go_roundg k1
      case measure => have := HK1.out; omega
      case rel => exact ⟨(wrap64 (x5_1 + 1)), rs_, H', ⟨by have := HK1.out; omega⟩, dr_⟩
     ·
      rw [if_neg c5] at H
      have c5b0 : (((rd_L5 l0 x5_1).length : Int) == a1) = false := beq_eq_false_iff_ne.mpr c5
      have c5b1 : (((rd_L5 l0 x5_1).length : Int) != a1) = true := bne_iff_ne.mpr c5
      obtain rfl := Option.some.inj H
      have p164 : 0 ≤ (x5_1 : Int) := of_decide_eq_true as_
      have q164 : x5_1 < (l0.length : Int) := of_decide_eq_true as_
      obtain ⟨ad164, A164_0, c164_0, e164, hx164_0, hl164_0, hi164_0⟩ := at_L5 HR0.out x5_1 p164 q164
      cases e164
      have HR164_0 := Aside0.mk hi164_0
      have HC164_0 := Aside0.mk hl164_0
      clear hi164_0 hl164_0
      replace p164 := eq_true p164
      replace q164 := eq_true q164
      go_wp2
      go_ret
      exact ⟨rs_, dr_⟩
    ·
     rw [if_neg c4] at H
     exact absurd H (by simp)
   ·
    rw [if_neg c3] at H
    have c3b0 : decide (x5_1 < (l0.length : Int)) = false := decide_eq_false c3
    clear c3
    replace H := Option.bind_eq_some_iff.mp H
    obtain ⟨t165, A60, H⟩ := H
    replace H : (some t165) = some r := H
    have A6 := Aside0.mk A60
    clear A60
    obtain rfl := Option.some.inj H
    go_wp2_with (first | ((with_reducible refine gate_callee (f := 102) rfl ?_); refine goesL_ (some 21) rfl rfl Try.func102 (by kernel_rfl) rfl #[.int .i64 (l0.length : Int), .int .i64 1, .int .i64 12] rfl mT_ ?_; (with_reducible refine (spec_l00In.calls (l0.length : Int) 1 12 t165 _ A6.out).mono ?_); rintro e w' ⟨rfl, ⟨nd, rfl⟩⟩; refine ⟨_, rfl, ?_⟩))
    go_ret
    exact ⟨rs_, dr_⟩

/-! ### spec_l13Ask: function 90 -/
def spec_l13Ask.f (k : Nat) (l0 : List (S77)) (l1 : List (List Bool)) (l2 : List Int) : Option (Int) := (spec_l13Ok.f k l0).bind fun t166 => (if t166 = true then ((spec_l13Demands.f k l2).bind fun t167 => (if t167 = true then ((spec_l13States.f k l1 (l0.length : Int)).bind fun t168 => (if t168 = true then (if (l1.length : Int) = (l2.length : Int) then (some 0) else (some 7)) else (some 7))) else (some 7))) else (some 1))
theorem spec_l13Ask.mono : ∀ a0 a1 a2 k, LeO (spec_l13Ask.f k a0 a1 a2) (spec_l13Ask.f (k + 1) a0 a1 a2) := by
 intro a0 a1 a2 k
 unfold spec_l13Ask.f
 repeat' first
   | (with_reducible exact spec_l13Demands.mono _ _)
   | (with_reducible exact spec_l13Ok.mono _ _)
   | (with_reducible exact spec_l13States.mono _ _ _)
   | (with_reducible exact LeO.refl _)
   | (with_reducible exact LeO.none _)
   | (with_reducible refine LeO.ite ?_ ?_)
   | (with_reducible refine LeO.bind ?_ (fun _ => ?_))
   | exact spec_l13Demands.mono _ _
   | exact spec_l13Ok.mono _ _
   | exact spec_l13States.mono _ _ _
   | exact LeO.none _
   | refine LeO.ite ?_ ?_
   | refine LeO.bind ?_ (fun _ => ?_)
set_option maxHeartbeats 8000000 in
set_option maxRecDepth 100000 in
theorem spec_l13Ask.calls (k : Nat) (A0 : Option Addr) (c0 : Nat) (l0 : List (S77)) (A1 : Option Addr) (c1 : Nat) (l1 : List (List Bool)) (A2 : Option Addr) (c2 : Nat) (l2 : List Int) (r : Int) (w : World) (hr0 : Kd.C k77 w A0 l0.length l0) (hc0 : l0.length ≤ c0) (hr1 : Kd.C (Kd.slice 4 Kd.bool) w A1 l1.length l1) (hc1 : l1.length ≤ c1) (hr2 : Kd.C (Kd.int .i64) w A2 l2.length l2) (hc2 : l2.length ≤ c2) (h : spec_l13Ask.f k l0 l1 l2 = some r) :
  Calls Try.prog 90 #[.slice A0 l0.length c0, .slice A1 l1.length c1, .slice A2 l2.length c2] w fun e w' => e = .returned (.int .i64 r) ∧ Drawn0 w w' := by
 have HR0 := Aside0.mk hr0
 have HC0 := Aside0.mk hc0
 clear hr0 hc0
 have HR1 := Aside0.mk hr1
 have HC1 := Aside0.mk hc1
 clear hr1 hc1
 have HR2 := Aside0.mk hr2
 have HC2 := Aside0.mk hc2
 clear hr2 hc2
 have H : ((spec_l13Ok.f k l0).bind fun t166 => (if t166 = true then ((spec_l13Demands.f k l2).bind fun t167 => (if t167 = true then ((spec_l13States.f k l1 (l0.length : Int)).bind fun t168 => (if t168 = true then (if (l1.length : Int) = (l2.length : Int) then (some 0) else (some 7)) else (some 7))) else (some 7))) else (some 1))) = some r := h
 clear h
 replace H := Option.bind_eq_some_iff.mp H
 obtain ⟨t166, A40, H⟩ := H
 replace H : (if t166 = true then ((spec_l13Demands.f k l2).bind fun t167 => (if t167 = true then ((spec_l13States.f k l1 (l0.length : Int)).bind fun t168 => (if t168 = true then (if (l1.length : Int) = (l2.length : Int) then (some 0) else (some 7)) else (some 7))) else (some 7))) else (some 1)) = some r := H
 have A4 := Aside0.mk A40
 clear A40
 by_cases c5 : t166 = true
 ·
  subst c5
  have H1 : ((spec_l13Demands.f k l2).bind fun t167 => (if t167 = true then ((spec_l13States.f k l1 (l0.length : Int)).bind fun t168 => (if t168 = true then (if (l1.length : Int) = (l2.length : Int) then (some 0) else (some 7)) else (some 7))) else (some 7))) = some r := by rw [if_pos rfl] at H; exact H
  clear H
  have H := H1
  clear H1
  replace H := Option.bind_eq_some_iff.mp H
  obtain ⟨t167, A60, H⟩ := H
  replace H : (if t167 = true then ((spec_l13States.f k l1 (l0.length : Int)).bind fun t168 => (if t168 = true then (if (l1.length : Int) = (l2.length : Int) then (some 0) else (some 7)) else (some 7))) else (some 7)) = some r := H
  have A6 := Aside0.mk A60
  clear A60
  by_cases c7 : t167 = true
  ·
   subst c7
   have H1 : ((spec_l13States.f k l1 (l0.length : Int)).bind fun t168 => (if t168 = true then (if (l1.length : Int) = (l2.length : Int) then (some 0) else (some 7)) else (some 7))) = some r := by rw [if_pos rfl] at H; exact H
   clear H
   have H := H1
   clear H1
   replace H := Option.bind_eq_some_iff.mp H
   obtain ⟨t168, A80, H⟩ := H
   replace H : (if t168 = true then (if (l1.length : Int) = (l2.length : Int) then (some 0) else (some 7)) else (some 7)) = some r := H
   have A8 := Aside0.mk A80
   clear A80
   by_cases c9 : t168 = true
   ·
    subst c9
    have H1 : (if (l1.length : Int) = (l2.length : Int) then (some 0) else (some 7)) = some r := by rw [if_pos rfl] at H; exact H
    clear H
    have H := H1
    clear H1
    by_cases c10 : (l1.length : Int) = (l2.length : Int)
    ·
     rw [if_pos c10] at H
     have c10b0 : ((l1.length : Int) == (l2.length : Int)) = true := beq_iff_eq.mpr c10
     have c10b1 : ((l1.length : Int) != (l2.length : Int)) = false := bne_eq_false_iff_eq.mpr c10
     have c10b2 : (l1.length == l2.length) = true := by first | simpa using c10 | (simp at c10 ⊢; omega)
     clear c10
     obtain rfl := Option.some.inj H
     go_enter Try.func90, Try.ntmps90
     go_wp2_with (first | ((with_reducible refine gate_callee (f := 64) rfl ?_); refine goesL_ (some 8) rfl rfl Try.func64 (by kernel_rfl) rfl #[.slice A0 l0.length c0] rfl mT_ ?_; (with_reducible refine (spec_l13Ok.calls k _ _ l0 true _ ?side1 ?side2 A4.out).mono ?_); (case side1 => exact cA_ HR0.out); (case side2 => exact HC0.out); rintro e w' ⟨rfl, ⟨nd, rfl⟩⟩; refine ⟨_, rfl, ?_⟩) | ((with_reducible refine gate_callee (f := 109) rfl ?_); refine goesL_ (some 11) rfl rfl Try.func109 (by kernel_rfl) rfl #[.slice A2 l2.length c2] rfl mT_ ?_; (with_reducible refine (spec_l13Demands.calls k _ _ l2 true _ ?side1 ?side2 A6.out).mono ?_); (case side1 => exact cA_ HR2.out); (case side2 => exact HC2.out); rintro e w' ⟨rfl, ⟨nd, rfl⟩⟩; refine ⟨_, rfl, ?_⟩) | (go_at_call 125; (with_reducible refine (spec_l13States.calls k _ _ l1 (l0.length : Int) true _ ?side1 ?side2 A8.out).mono ?_); (case side1 => exact cA_ HR1.out); (case side2 => exact HC1.out); rintro e w' ⟨rfl, ⟨nd, rfl⟩⟩))
     go_ret
     exact ⟨rs_, dr_⟩
    ·
     rw [if_neg c10] at H
     have c10b0 : ((l1.length : Int) == (l2.length : Int)) = false := beq_eq_false_iff_ne.mpr c10
     have c10b1 : ((l1.length : Int) != (l2.length : Int)) = true := bne_iff_ne.mpr c10
     have c10b2 : (l1.length == l2.length) = false := by first | simpa using c10 | (simp at c10 ⊢; omega)
     obtain rfl := Option.some.inj H
     go_enter Try.func90, Try.ntmps90
     go_wp2_with (first | ((with_reducible refine gate_callee (f := 64) rfl ?_); refine goesL_ (some 8) rfl rfl Try.func64 (by kernel_rfl) rfl #[.slice A0 l0.length c0] rfl mT_ ?_; (with_reducible refine (spec_l13Ok.calls k _ _ l0 true _ ?side1 ?side2 A4.out).mono ?_); (case side1 => exact cA_ HR0.out); (case side2 => exact HC0.out); rintro e w' ⟨rfl, ⟨nd, rfl⟩⟩; refine ⟨_, rfl, ?_⟩) | ((with_reducible refine gate_callee (f := 109) rfl ?_); refine goesL_ (some 11) rfl rfl Try.func109 (by kernel_rfl) rfl #[.slice A2 l2.length c2] rfl mT_ ?_; (with_reducible refine (spec_l13Demands.calls k _ _ l2 true _ ?side1 ?side2 A6.out).mono ?_); (case side1 => exact cA_ HR2.out); (case side2 => exact HC2.out); rintro e w' ⟨rfl, ⟨nd, rfl⟩⟩; refine ⟨_, rfl, ?_⟩) | (go_at_call 125; (with_reducible refine (spec_l13States.calls k _ _ l1 (l0.length : Int) true _ ?side1 ?side2 A8.out).mono ?_); (case side1 => exact cA_ HR1.out); (case side2 => exact HC1.out); rintro e w' ⟨rfl, ⟨nd, rfl⟩⟩))
     go_ret
     exact ⟨rs_, dr_⟩
   ·
    replace c9 := Bool.eq_false_iff.mpr c9
    subst c9
    have H1 : (some 7) = some r := by rw [if_neg (show ¬ (false = true) by decide)] at H; exact H
    clear H
    have H := H1
    clear H1
    obtain rfl := Option.some.inj H
    go_enter Try.func90, Try.ntmps90
    go_wp2_with (first | ((with_reducible refine gate_callee (f := 64) rfl ?_); refine goesL_ (some 8) rfl rfl Try.func64 (by kernel_rfl) rfl #[.slice A0 l0.length c0] rfl mT_ ?_; (with_reducible refine (spec_l13Ok.calls k _ _ l0 true _ ?side1 ?side2 A4.out).mono ?_); (case side1 => exact cA_ HR0.out); (case side2 => exact HC0.out); rintro e w' ⟨rfl, ⟨nd, rfl⟩⟩; refine ⟨_, rfl, ?_⟩) | ((with_reducible refine gate_callee (f := 109) rfl ?_); refine goesL_ (some 11) rfl rfl Try.func109 (by kernel_rfl) rfl #[.slice A2 l2.length c2] rfl mT_ ?_; (with_reducible refine (spec_l13Demands.calls k _ _ l2 true _ ?side1 ?side2 A6.out).mono ?_); (case side1 => exact cA_ HR2.out); (case side2 => exact HC2.out); rintro e w' ⟨rfl, ⟨nd, rfl⟩⟩; refine ⟨_, rfl, ?_⟩) | (go_at_call 125; (with_reducible refine (spec_l13States.calls k _ _ l1 (l0.length : Int) false _ ?side1 ?side2 A8.out).mono ?_); (case side1 => exact cA_ HR1.out); (case side2 => exact HC1.out); rintro e w' ⟨rfl, ⟨nd, rfl⟩⟩))
    go_ret
    exact ⟨rs_, dr_⟩
  ·
   replace c7 := Bool.eq_false_iff.mpr c7
   subst c7
   have H1 : (some 7) = some r := by rw [if_neg (show ¬ (false = true) by decide)] at H; exact H
   clear H
   have H := H1
   clear H1
   obtain rfl := Option.some.inj H
   go_enter Try.func90, Try.ntmps90
   go_wp2_with (first | ((with_reducible refine gate_callee (f := 64) rfl ?_); refine goesL_ (some 8) rfl rfl Try.func64 (by kernel_rfl) rfl #[.slice A0 l0.length c0] rfl mT_ ?_; (with_reducible refine (spec_l13Ok.calls k _ _ l0 true _ ?side1 ?side2 A4.out).mono ?_); (case side1 => exact cA_ HR0.out); (case side2 => exact HC0.out); rintro e w' ⟨rfl, ⟨nd, rfl⟩⟩; refine ⟨_, rfl, ?_⟩) | ((with_reducible refine gate_callee (f := 109) rfl ?_); refine goesL_ (some 11) rfl rfl Try.func109 (by kernel_rfl) rfl #[.slice A2 l2.length c2] rfl mT_ ?_; (with_reducible refine (spec_l13Demands.calls k _ _ l2 false _ ?side1 ?side2 A6.out).mono ?_); (case side1 => exact cA_ HR2.out); (case side2 => exact HC2.out); rintro e w' ⟨rfl, ⟨nd, rfl⟩⟩; refine ⟨_, rfl, ?_⟩))
   go_ret
   exact ⟨rs_, dr_⟩
 ·
  replace c5 := Bool.eq_false_iff.mpr c5
  subst c5
  have H1 : (some 1) = some r := by rw [if_neg (show ¬ (false = true) by decide)] at H; exact H
  clear H
  have H := H1
  clear H1
  obtain rfl := Option.some.inj H
  go_enter Try.func90, Try.ntmps90
  go_wp2_with (first | ((with_reducible refine gate_callee (f := 64) rfl ?_); refine goesL_ (some 8) rfl rfl Try.func64 (by kernel_rfl) rfl #[.slice A0 l0.length c0] rfl mT_ ?_; (with_reducible refine (spec_l13Ok.calls k _ _ l0 false _ ?side1 ?side2 A4.out).mono ?_); (case side1 => exact cA_ HR0.out); (case side2 => exact HC0.out); rintro e w' ⟨rfl, ⟨nd, rfl⟩⟩; refine ⟨_, rfl, ?_⟩))
  go_ret
  exact ⟨rs_, dr_⟩

end Go.Proofs.Ytebkgebibammiaa.PFnExactIsWithin
