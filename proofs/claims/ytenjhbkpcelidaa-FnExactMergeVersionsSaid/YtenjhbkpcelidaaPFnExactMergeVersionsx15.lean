-- PRINTED by print.py (a twelfth state) out of the translation. Not trusted: Lean checks it.
import Derived.Test.YtenjhbkpcelidaaPFnExactMergeVersionsx0
import Derived.Test.YtenjhbkpcelidaaPFnExactMergeVersionsx13
import Derived.Test.YtenjhbkpcelidaaPFnExactMergeVersionsx14
namespace Go.Proofs.Ytenjhbkpcelidaa.PFnExactMergeVersions
open Go.RowKit Go.Proofs.YtenjhbkpcelidaaW.PrintWords Go.Proofs.YtenjhbkpcelidaaW.PrintLast Go.Proofs.YtenjhbkpcelidaaW.PrintMore
attribute [local go_sem] max2_int min2_int max_two min_two max_three min_three max_four min_four   -- for this text's walks alone
set_option linter.unusedVariables false
set_option linter.unusedSimpArgs false

/-! ### slices_Contains_int64_int64: function 108 -/
def slices_Contains_int64_int64.f (k : Nat) (l0 : List Int) (a1 : Int) : Option (Bool) := (slices_Index_int64_int64.f k l0 a1).bind fun t369 => (some (decide (t369 ≥ 0)))
theorem slices_Contains_int64_int64.mono : ∀ a0 a1 k, LeO (slices_Contains_int64_int64.f k a0 a1) (slices_Contains_int64_int64.f (k + 1) a0 a1) := by
 intro a0 a1 k
 unfold slices_Contains_int64_int64.f
 repeat' first
   | (with_reducible exact slices_Index_int64_int64.mono _ _ _)
   | (with_reducible exact LeO.refl _)
   | (with_reducible exact LeO.none _)
   | (with_reducible refine LeO.ite ?_ ?_)
   | (with_reducible refine LeO.bind ?_ (fun _ => ?_))
   | exact slices_Index_int64_int64.mono _ _ _
   | exact LeO.none _
   | refine LeO.ite ?_ ?_
   | refine LeO.bind ?_ (fun _ => ?_)
set_option maxHeartbeats 8000000 in
set_option maxRecDepth 100000 in
theorem slices_Contains_int64_int64.calls (k : Nat) (A0 : Option Addr) (c0 : Nat) (l0 : List Int) (a1 : Int) (r : Bool) (w : World) (hr0 : Kd.C (Kd.int .i64) w A0 l0.length l0) (hc0 : l0.length ≤ c0) (h : slices_Contains_int64_int64.f k l0 a1 = some r) :
  Calls Try.prog 108 #[.slice A0 l0.length c0, .int .i64 a1] w fun e w' => e = .returned (.bool r) ∧ Drawn0 w w' := by
 have HR0 := Aside0.mk hr0
 have HC0 := Aside0.mk hc0
 clear hr0 hc0
 have H : ((slices_Index_int64_int64.f k l0 a1).bind fun t369 => (some (decide (t369 ≥ 0)))) = some r := h
 clear h
 replace H := Option.bind_eq_some_iff.mp H
 obtain ⟨t369, A30, H⟩ := H
 replace H : (some (decide (t369 ≥ 0))) = some r := H
 have A3 := Aside0.mk A30
 clear A30
 obtain rfl := Option.some.inj H
 go_enter Try.func108, Try.ntmps108
 go_wp2_with (first | ((with_reducible refine gate_callee (f := 122) rfl ?_); refine goesL_ (some 7) rfl rfl Try.func122 (by kernel_rfl) rfl #[.slice A0 l0.length c0, .int .i64 a1] rfl mT_ ?_; (with_reducible refine (slices_Index_int64_int64.calls k _ _ l0 a1 t369 _ ?side1 ?side2 A3.out).mono ?_); (case side1 => exact cA_ HR0.out); (case side2 => exact HC0.out); rintro e w' ⟨rfl, ⟨nd, rfl⟩⟩; refine ⟨_, rfl, ?_⟩))
 go_ret
 exact ⟨rs_, dr_⟩

/-! ### impl_commonAncestor: function 78 -/
def impl_commonAncestor.l0 : Nat → List Int → List Int → Int → Int → Option (Int)
 | 0, _, _, _, _ => none
 | k + 1, x7, x15, x16, x17 => if x17 < x16 then (if 0 ≤ x17 then (if x17 < (x15.length : Int) then ((slices_Contains_int64_int64.f k x7 (rd x15 x17)).bind fun t377 => (if t377 = true then (some (rd x15 x17)) else (impl_commonAncestor.l0 k x7 x15 x16 (wrap64 (x17 + 1))))) else (none)) else (none)) else (some 0)
def impl_commonAncestor.f (k : Nat) (l0 : List (S104)) (a1 : Int) (a2 : Int) : Option (Int) := (impl_lineOf.f k l0 a2).bind fun t370 => ((impl_lineOf.f k l0 a1).bind fun t373 => (impl_commonAncestor.l0 k t370 t373 (t373.length : Int) 0))
theorem impl_commonAncestor.mono_l : ∀ k, (∀ y0 y1 y2 y3, LeO (impl_commonAncestor.l0 k y0 y1 y2 y3) (impl_commonAncestor.l0 (k + 1) y0 y1 y2 y3))
 | 0 => fun _ _ _ _ r h => by simp [impl_commonAncestor.l0] at h
 | k + 1 => by
  have ih0 := impl_commonAncestor.mono_l k
  ·
   intro y0 y1 y2 y3
   unfold impl_commonAncestor.l0
   repeat' first
   | (with_reducible exact ih0 _ _ _ _)
   | (with_reducible exact impl_lineOf.mono _ _ _)
   | (with_reducible exact slices_Contains_int64_int64.mono _ _ _)
   | (with_reducible exact LeO.refl _)
   | (with_reducible exact LeO.none _)
   | (with_reducible refine LeO.ite ?_ ?_)
   | (with_reducible refine LeO.bind ?_ (fun _ => ?_))
   | exact ih0 _ _ _ _
   | exact impl_lineOf.mono _ _ _
   | exact slices_Contains_int64_int64.mono _ _ _
   | exact LeO.none _
   | refine LeO.ite ?_ ?_
   | refine LeO.bind ?_ (fun _ => ?_)
theorem impl_commonAncestor.mono : ∀ a0 a1 a2 k, LeO (impl_commonAncestor.f k a0 a1 a2) (impl_commonAncestor.f (k + 1) a0 a1 a2) := by
 intro a0 a1 a2 k
 have ih0 := impl_commonAncestor.mono_l k
 unfold impl_commonAncestor.f
 repeat' first
   | (with_reducible exact ih0 _ _ _ _)
   | (with_reducible exact impl_lineOf.mono _ _ _)
   | (with_reducible exact slices_Contains_int64_int64.mono _ _ _)
   | (with_reducible exact LeO.refl _)
   | (with_reducible exact LeO.none _)
   | (with_reducible refine LeO.ite ?_ ?_)
   | (with_reducible refine LeO.bind ?_ (fun _ => ?_))
   | exact ih0 _ _ _ _
   | exact impl_lineOf.mono _ _ _
   | exact slices_Contains_int64_int64.mono _ _ _
   | exact LeO.none _
   | refine LeO.ite ?_ ?_
   | refine LeO.bind ?_ (fun _ => ?_)
set_option maxHeartbeats 8000000 in
set_option maxRecDepth 100000 in
theorem impl_commonAncestor.calls (k : Nat) (A0 : Option Addr) (c0 : Nat) (l0 : List (S104)) (a1 : Int) (a2 : Int) (r : Int) (w : World) (hr0 : Kd.C k104 w A0 l0.length l0) (hc0 : l0.length ≤ c0) (h : impl_commonAncestor.f k l0 a1 a2 = some r) :
  Calls Try.prog 78 #[.slice A0 l0.length c0, .int .i64 a1, .int .i64 a2] w fun e w' => e = .returned (.int .i64 r) ∧ Below w.heap.size w w' := by
 have HR0 := Aside0.mk hr0
 have HC0 := Aside0.mk hc0
 clear hr0 hc0
 have HB := Aside0.mk (Below.refl w.heap.size w)
 have H : ((impl_lineOf.f k l0 a2).bind fun t370 => ((impl_lineOf.f k l0 a1).bind fun t373 => (impl_commonAncestor.l0 k t370 t373 (t373.length : Int) 0))) = some r := h
 clear h
 replace H := Option.bind_eq_some_iff.mp H
 obtain ⟨t370, A40, H⟩ := H
 replace H : ((impl_lineOf.f k l0 a1).bind fun t373 => (impl_commonAncestor.l0 k t370 t373 (t373.length : Int) 0)) = some r := H
 have A4 := Aside0.mk A40
 clear A40
 replace H := Option.bind_eq_some_iff.mp H
 obtain ⟨t373, A50, H⟩ := H
 replace H : (impl_commonAncestor.l0 k t370 t373 (t373.length : Int) 0) = some r := H
 have A5 := Aside0.mk A50
 clear A50
 have H' := Aside0.mk H
 clear H
 go_enter Try.func78, Try.ntmps78
 go_wp2_with (first | ((with_reducible refine gate_callee (f := 107) rfl ?_); refine goesL_ (some 12) rfl rfl Try.func107 (by kernel_rfl) rfl #[.slice A0 l0.length c0, .int .i64 a2] rfl mT_ ?_; (with_reducible refine (impl_lineOf.calls k _ _ l0 a2 t370 _ ?side1 ?side2 A4.out).mono ?_); (case side1 => exact cA_ HR0.out); (case side2 => exact HC0.out); rintro e w6 ⟨v371, rfl, ho0, hb⟩; refine ⟨_, rfl, ?_⟩; have n0_ := Aside0.mk (Kd.R_lower ho0 (below_size bB_)); have n1_ := Aside0.mk (below_step bB_ hb); clear HB; have HO372 := n0_; have HB := n1_; clear n0_ n1_; (try clear hb); (try clear hb2); (try clear hk); (try clear hi); (try clear ho0)) | ((with_reducible refine gate_callee (f := 107) rfl ?_); refine goesL_ (some 15) rfl rfl Try.func107 (by kernel_rfl) rfl #[.slice A0 l0.length c0, .int .i64 a1] rfl mT_ ?_; (with_reducible refine (impl_lineOf.calls k _ _ l0 a1 t373 _ ?side1 ?side2 A5.out).mono ?_); (case side1 => exact cA_ (Kd.C_below HR0.out HB.out)); (case side2 => exact HC0.out); rintro e w7 ⟨v374, rfl, ho0, hb⟩; refine ⟨_, rfl, ?_⟩; have n0_ := Aside0.mk (Kd.R_elder' (rA_ HO372.out) (Kd.R_base ho0) hb); have n1_ := Aside0.mk (Kd.R_lower (Kd.R_new' ho0 (Kd.R_lt (rA_ HO372.out))) (below_size bB_)); have n2_ := Aside0.mk (below_step bB_ hb); clear HO372; clear HB; have HO372 := n0_; have HO375 := n1_; have HB := n2_; clear n0_ n1_ n2_; (try clear hb); (try clear hb2); (try clear hk); (try clear hi); (try clear ho0); obtain ⟨Ao8, co8, eo8⟩ := Kd.R_slice HO375.out; subst eo8))
 go_loopg [17] k (fun kq v17 w' => ∃ (x17_1 : Int), v17 = .int .i64 x17_1 ∧ Aside0 (impl_commonAncestor.l0 kq t370 t373 (t373.length : Int) x17_1 = some r) ∧ Aside0 (kq ≤ k) ∧ Aside0 (Kd.R (Kd.int .i64) 2 w' w.heap.size (fun k_ => some k_ ≠ ((.slice Ao8 t373.length co8) : Value).ownBlock) v371 t370) ∧ Aside0 (Kd.R (Kd.int .i64) 2 w' w.heap.size (fun k_ => some k_ ≠ (v371 : Value).ownBlock) (.slice Ao8 t373.length co8) t373) ∧ Aside0 (Below w.heap.size w w'))
 case atStart => exact ⟨(0), rs_, H', ⟨Nat.le_refl _⟩, ⟨by (with_reducible repeat (first | apply Kd.R_alloc | apply Kd.R_drewN | apply Kd.R_drew)); exact Kd.R_mono HO372.out (fun _ hk => hk.2)⟩, ⟨by (with_reducible repeat (first | apply Kd.R_alloc | apply Kd.R_drewN | apply Kd.R_drew)); exact Kd.R_mono HO375.out (fun _ hk => hk.2)⟩, ⟨bB_⟩⟩
 case round =>
  clear H'
  try clear c1
  try clear p2
  try clear c7
  obtain ⟨x17_1, rfl, HA, HK1, HO_7, HO_15, HB⟩ := hrel
  cases gk with
  | zero => exact absurd HA.out (by simp [impl_commonAncestor.l0])
  | succ k1 =>
   have H := HA.out
   clear HA
   simp only [impl_commonAncestor.l0] at H
   by_cases c9 : x17_1 < (t373.length : Int)
   ·
    rw [if_pos c9] at H
    have c9b0 : decide (x17_1 < (t373.length : Int)) = true := decide_eq_true c9
    clear c9
    by_cases c10 : 0 ≤ x17_1
    ·
     rw [if_pos c10] at H
     have c10b0 : decide (0 ≤ x17_1) = true := decide_eq_true c10
     clear c10
     by_cases c11 : x17_1 < (t373.length : Int)
     ·
      rw [if_pos c11] at H
      have c11b0 : decide (x17_1 < (t373.length : Int)) = true := decide_eq_true c11
      clear c11
      replace H := Option.bind_eq_some_iff.mp H
      obtain ⟨t377, A120, H⟩ := H
      replace H : (if t377 = true then (some (rd t373 x17_1)) else (impl_commonAncestor.l0 k1 t370 t373 (t373.length : Int) (wrap64 (x17_1 + 1)))) = some r := H
      have A12 := Aside0.mk A120
      clear A120
      by_cases c13 : t377 = true
      ·
       subst c13
       have H1 : (some (rd t373 x17_1)) = some r := by rw [if_pos rfl] at H; exact H
       clear H
       have H := H1
       clear H1
       obtain rfl := Option.some.inj H
       have p376 : 0 ≤ (x17_1 : Int) := of_decide_eq_true as_
       have q376 : x17_1 < (t373.length : Int) := of_decide_eq_true as_
       obtain ⟨ad376, e376, hx376_0⟩ := Kd.at_int (Kd.R_reads' HO_15.out).2.2 x17_1 p376 q376
       cases e376
       replace p376 := eq_true p376
       replace q376 := eq_true q376
       obtain ⟨Ao14, co14, eo14⟩ := Kd.R_slice HO_7.out
       subst eo14
       go_wp2_with (first | ((with_reducible refine gate_callee (f := 108) rfl ?_); refine goesL_ (some 23) rfl rfl Try.func108 (by kernel_rfl) rfl #[.slice Ao14 t370.length co14, .int .i64 (rd t373 x17_1)] rfl mT_ ?_; (with_reducible refine (slices_Contains_int64_int64.calls k1 _ _ t370 (rd t373 x17_1) true _ ?side1 ?side2 A12.out).mono ?_); (case side1 => repeat (first | exact (Kd.R_reads' HO_7.out).2.2 | (with_reducible refine Kd.C_alloc ?_ _) | (with_reducible refine Kd.C_drewN ?_ _) | (with_reducible refine Kd.C_drew ?_))); (case side2 => exact (Kd.R_reads' HO_7.out).2.1); rintro e w' ⟨rfl, ⟨nd, rfl⟩⟩; refine ⟨_, rfl, ?_⟩))
       go_ret
       exact ⟨er_, bB_⟩
      ·
       replace c13 := Bool.eq_false_iff.mpr c13
       subst c13
       have H1 : (impl_commonAncestor.l0 k1 t370 t373 (t373.length : Int) (wrap64 (x17_1 + 1))) = some r := by rw [if_neg (show ¬ (false = true) by decide)] at H; exact H
       clear H
       have H := H1
       clear H1
       have H' := Aside0.mk H
       clear H
       have p376 : 0 ≤ (x17_1 : Int) := of_decide_eq_true as_
       have q376 : x17_1 < (t373.length : Int) := of_decide_eq_true as_
       obtain ⟨ad376, e376, hx376_0⟩ := Kd.at_int (Kd.R_reads' HO_15.out).2.2 x17_1 p376 q376
       cases e376
       replace p376 := eq_true p376
       replace q376 := eq_true q376
       obtain ⟨Ao15, co15, eo15⟩ := Kd.R_slice HO_7.out
       subst eo15
       go_wp2_with (first | ((with_reducible refine gate_callee (f := 108) rfl ?_); refine goesL_ (some 23) rfl rfl Try.func108 (by kernel_rfl) rfl #[.slice Ao15 t370.length co15, .int .i64 (rd t373 x17_1)] rfl mT_ ?_; (with_reducible refine (slices_Contains_int64_int64.calls k1 _ _ t370 (rd t373 x17_1) false _ ?side1 ?side2 A12.out).mono ?_); (case side1 => repeat (first | exact (Kd.R_reads' HO_7.out).2.2 | (with_reducible refine Kd.C_alloc ?_ _) | (with_reducible refine Kd.C_drewN ?_ _) | (with_reducible refine Kd.C_drew ?_))); (case side2 => exact (Kd.R_reads' HO_7.out).2.1); rintro e w' ⟨rfl, ⟨nd, rfl⟩⟩; refine ⟨_, rfl, ?_⟩))
       go_roundg k1
       case measure => have := HK1.out; omega
       case rel => exact ⟨(wrap64 (x17_1 + 1)), rs_, H', ⟨by have := HK1.out; omega⟩, ⟨rA_ HO_7.out⟩, ⟨rA_ HO_15.out⟩, ⟨bB_⟩⟩
     ·
      rw [if_neg c11] at H
      exact absurd H (by simp)
    ·
     rw [if_neg c10] at H
     exact absurd H (by simp)
   ·
    rw [if_neg c9] at H
    have c9b0 : decide (x17_1 < (t373.length : Int)) = false := decide_eq_false c9
    clear c9
    obtain rfl := Option.some.inj H
    go_wp2
    go_ret
    exact ⟨er_, bB_⟩

/-! ### impl_Setting: function 54 -/
def impl_Setting.f (l0 : List (S71)) : Option (List (S71)) := if l0.length * 24 ≤ 140737488355328 then some l0 else none
set_option maxHeartbeats 2000000 in
theorem impl_Setting.calls (A0 : Option Addr) (c0 : Nat) (l0 : List (S71)) (r : List (S71)) (w : World) (hr0 : Kd.C k71 w A0 l0.length l0) (hc0 : l0.length ≤ c0) (h : impl_Setting.f l0 = some r) :
  Calls Try.prog 54 #[.slice A0 l0.length c0] w fun e w' => ∃ v0_ : Value, e = .returned (v0_) ∧ Kd.R k71 71 w' w.heap.size (fun _ => True) v0_ r ∧ Below w.heap.size w w' := by
 unfold impl_Setting.f at h
 split at h
 ·
  rename_i hlen
  obtain rfl := Option.some.inj h
  have HR := Aside0.mk hr0
  clear h hr0 hc0
  have q22 : ∀ (w : World) (a : Option Addr) (n c n' c' : Nat), (binOp .eql 26 (.slice a n c) (.slice none n' c')).run Try.prog w = .ok (.bool a.isNone) w := fun w a n c n' c' => Lib.run_eql_slice_nil w _ _ a n c n' c' Try.underlying26
  cases A0 with
  | none =>
   have hl0 : l0 = [] := by
    cases l0 with
    | nil => rfl
    | cons x xs =>
     obtain ⟨ad, e, _⟩ := HR.out.2.2 (by simp)
     cases e
   subst hl0
   go_enter Try.func54, Try.ntmps54
   go_wp2
   go_ret
   exact ⟨_, rfl, Kd.R_nil _ _ _ _ _, Below.refl _ _⟩
  | some ad =>
   go_enter Try.func54, Try.ntmps54
   go_wp2_with (at_builtin; refine Kd.R_append_rows k71 (w0 := w) w.heap.size rfl (.tmp 5) (.tmp 6) 26 71 (.agg #[(.string ⟨#[]⟩), (.int .i64 0)]) 24 rfl Try.underlying26 info71 rfl (by decide) (by omega) _ [] l0 _ _ _ (fun _ => True) (fun _ => False) rfl rfl ?aO ?aR (fun _ _ h => h) (fun _ h => h.elim) ?aF ?aB ?aS ?aL ?_)
   case aO => exact ⟨fun _ _ => trivial, [], World.ownsRow_made w #[] 0 (Nat.le_refl _) (Nat.zero_le _) (by simp), Reps.none _ _⟩
   case aR => exact Kd.C_alloc HR.out _
   case aF => exact fun _ _ => trivial
   case aB => exact (Below.refl _ w).alloc (Nat.le_refl _) _
   case aS => simp
   case aL => simpa using hlen
   intro v1 w1 hR hB hg hat
   go_wp2
   go_ret
   exact ⟨v1, rfl, by simpa using hR, hB⟩
 ·
  cases h

/-! ### impl_Version: function 109 -/
def impl_Version.f (l0 : List (S104)) : Option (List (S104)) := if l0.length * 56 ≤ 140737488355328 then some l0 else none
set_option maxHeartbeats 2000000 in
theorem impl_Version.calls (P0_ : Nat → Prop) (A0 : Option Addr) (c0 : Nat) (l0 : List (S104)) (r : List (S104)) (w : World) (hs0 : Kd.V k104 104 w w.heap.size (fun k_ => P0_ k_) (.slice A0 l0.length c0) l0) (h : impl_Version.f l0 = some r) :
  Calls Try.prog 109 #[.slice A0 l0.length c0] w fun e w' => ∃ v0_ : Value, e = .returned (v0_) ∧ Kd.N k104 104 w' w.heap.size (fun k_ => (P0_ k_ ∨ w.heap.size ≤ k_)) v0_ r ∧ Below w.heap.size w w' := by
 unfold impl_Version.f at h
 split at h
 ·
  rename_i hlen
  obtain rfl := Option.some.inj h
  have HF : Aside0 (Kd.F k104 w (fun k => P0_ k ∧ k < w.heap.size) A0 l0.length l0) := by
   obtain ⟨A', c', e, _, hF⟩ := hs0
   injection e with e1 e2 e3
   subst e1
   exact ⟨Kd.F_bound hF⟩
  clear h hs0
  have q22 : ∀ (w : World) (a : Option Addr) (n c n' c' : Nat), (binOp .eql 46 (.slice a n c) (.slice none n' c')).run Try.prog w = .ok (.bool a.isNone) w := fun w a n c n' c' => Lib.run_eql_slice_nil w _ _ a n c n' c' Try.underlying46
  cases A0 with
  | none =>
   have hl0 : l0 = [] := by
    cases l0 with
    | nil => rfl
    | cons x xs =>
     obtain ⟨ad, e, _⟩ := (Kd.F_now HF.out).2.2 (by simp)
     cases e
   subst hl0
   go_enter Try.func109, Try.ntmps109
   go_wp2
   go_ret
   exact ⟨_, rfl, Kd.N_nil _ _ _ _ _, Below.refl _ _⟩
  | some ad =>
   go_enter Try.func109, Try.ntmps109
   go_wp2_with (at_builtin; refine Kd.N_append_rows k104 (w0 := w) w.heap.size rfl (.tmp 5) (.tmp 6) 46 104 (.agg #[(.int .i64 0), (.int .i64 0), (.string ⟨#[]⟩), (.slice none 0 0)]) 56 rfl Try.underlying46 info104 rfl (by decide) (by omega) _ [] l0 _ _ _ (fun k_ => (P0_ k_ ∨ w.heap.size ≤ k_)) (fun k => P0_ k ∧ k < w.heap.size) rfl rfl ?aO ?aR ?aP ?aF ?aB ?aS ?aL ?_)
   case aO => exact ⟨fun k e => .inr (by injection e with e; subst e; exact Nat.le_refl _), [], rfl, ⟨fun _ e => e.symm, [], World.ownsRow_made w #[] 0 (Nat.le_refl _) (Nat.zero_le _) (by simp), Reps.none _ _⟩, fun j x c hx _ => by simp at hx⟩
   case aR => exact Kd.F_alloc HF.out _
   case aP => exact fun k hk => ⟨.inl hk.1, fun e => by injection e with e; exact absurd hk.2 (by rw [e]; exact Nat.lt_irrefl _)⟩
   case aF => exact fun k hk => .inr (Nat.le_trans ((Below.refl _ w).alloc (Nat.le_refl _) _).size hk)
   case aB => exact (Below.refl _ w).alloc (Nat.le_refl _) _
   case aS => exact ((Below.refl _ w).alloc (Nat.le_refl _) _).size
   case aL => simpa using hlen
   intro v1 w1 hR hB hg hat
   go_wp2
   go_ret
   exact ⟨v1, rfl, by simpa using hR, hB⟩
 ·
  cases h

/-! ### impl_withVersion: function 79 -/
def impl_withVersion.l0 : Nat → List (S104) → List (S104) → Int → Int → Option ((List (S104)) × Int)
 | 0, _, _, _, _ => none
 | k + 1, x10, x26, x27, x28 => if x28 < x27 then (if 0 ≤ x28 then (if x28 < (x26.length : Int) then ((impl_Setting.f ((rd_T104 x26 x28).f3)).bind fun t386 => (if x10.length < 2513169434916 then (impl_withVersion.l0 k (x10 ++ [(⟨(rd_T104 x26 x28).f0, (rd_T104 x26 x28).f1, (rd_T104 x26 x28).f2, t386⟩ : S104)]) x26 x27 (wrap64 (x28 + 1))) else (none))) else (none)) else (none)) else (some (x10, 0))
def impl_withVersion.f (k : Nat) (l0 : List (S104)) (a1 : Int) (a2 : ByteArray) (l3 : List (S71)) : Option ((List (S104)) × Int) := if (l0.length : Int) = 32 then (some (([] : List (S104)), 5)) else ((impl_Version.f l0).bind fun t378 => (if t378.length < 2513169434916 then ((some (t378 ++ [(⟨wrap64 ((l0.length : Int) + 1), a1, a2, l3⟩ : S104)] : List (S104))).bind fun y381 => (impl_withVersion.l0 k ([] : List (S104)) y381 (y381.length : Int) 0)) else (none)))
theorem impl_withVersion.mono_l : ∀ k, (∀ y0 y1 y2 y3, LeO (impl_withVersion.l0 k y0 y1 y2 y3) (impl_withVersion.l0 (k + 1) y0 y1 y2 y3))
 | 0 => fun _ _ _ _ r h => by simp [impl_withVersion.l0] at h
 | k + 1 => by
  have ih0 := impl_withVersion.mono_l k
  ·
   intro y0 y1 y2 y3
   unfold impl_withVersion.l0
   repeat' first
   | (with_reducible exact ih0 _ _ _ _)
   | (with_reducible exact LeO.refl _)
   | (with_reducible exact LeO.none _)
   | (with_reducible refine LeO.ite ?_ ?_)
   | (with_reducible refine LeO.bind ?_ (fun _ => ?_))
   | exact ih0 _ _ _ _
   | exact LeO.none _
   | refine LeO.ite ?_ ?_
   | refine LeO.bind ?_ (fun _ => ?_)
theorem impl_withVersion.mono : ∀ a0 a1 a2 a3 k, LeO (impl_withVersion.f k a0 a1 a2 a3) (impl_withVersion.f (k + 1) a0 a1 a2 a3) := by
 intro a0 a1 a2 a3 k
 have ih0 := impl_withVersion.mono_l k
 unfold impl_withVersion.f
 repeat' first
   | (with_reducible exact ih0 _ _ _ _)
   | (with_reducible exact LeO.refl _)
   | (with_reducible exact LeO.none _)
   | (with_reducible refine LeO.ite ?_ ?_)
   | (with_reducible refine LeO.bind ?_ (fun _ => ?_))
   | exact ih0 _ _ _ _
   | exact LeO.none _
   | refine LeO.ite ?_ ?_
   | refine LeO.bind ?_ (fun _ => ?_)
set_option maxHeartbeats 8000000 in
set_option maxRecDepth 100000 in
theorem impl_withVersion.calls (k : Nat) (A0 : Option Addr) (c0 : Nat) (l0 : List (S104)) (a1 : Int) (a2 : ByteArray) (A3 : Option Addr) (c3 : Nat) (l3 : List (S71)) (r1 : List (S104)) (r2 : Int) (w : World) (hr0 : Kd.C k104 w A0 l0.length l0) (hc0 : l0.length ≤ c0) (hr3 : Kd.C k71 w A3 l3.length l3) (hc3 : l3.length ≤ c3) (h : impl_withVersion.f k l0 a1 a2 l3 = some (r1, r2)) :
  Calls Try.prog 79 #[.slice A0 l0.length c0, .int .i64 a1, .string a2, .slice A3 l3.length c3] w fun e w' => ∃ v0_ : Value, e = .returned (.tuple #[v0_, .int .i64 r2]) ∧ Kd.S k104 104 w' w.heap.size (fun _ => True) v0_ r1 ∧ Below w.heap.size w w' := by
 have hu104 := Try.underlying104
 have hs0 : Kd.V k104 104 w w.heap.size (fun k_ => True) (.slice A0 l0.length c0) l0 := Kd.V_mk hc0 (Kd.F_mono (Kd.C_F k104_heap hr0) (fun _ _ => trivial))
 have hs3 : Kd.V k71 71 w w.heap.size (fun k_ => True) (.slice A3 l3.length c3) l3 := Kd.V_mk hc3 (Kd.F_mono (Kd.C_F k71_heap hr3) (fun _ _ => trivial))
 clear hr0 hc0 hr3 hc3
 have HO0 := Aside0.mk (show Kd.V k104 104 w w.heap.size (fun k_ => ((True ∨ True) ∨ w.heap.size ≤ k_)) (.slice A0 l0.length c0) l0 from Kd.V_mono hs0 (fun k_ hk => .inl (.inl hk)))
 have HO3 := Aside0.mk (show Kd.V k71 71 w w.heap.size (fun k_ => ((True ∨ True) ∨ w.heap.size ≤ k_)) (.slice A3 l3.length c3) l3 from Kd.V_mono hs3 (fun k_ hk => .inl (.inr hk)))
 have HB := Aside0.mk (Below.refl w.heap.size w)
 have H : (if (l0.length : Int) = 32 then (some (([] : List (S104)), 5)) else ((impl_Version.f l0).bind fun t378 => (if t378.length < 2513169434916 then ((some (t378 ++ [(⟨wrap64 ((l0.length : Int) + 1), a1, a2, l3⟩ : S104)] : List (S104))).bind fun y381 => (impl_withVersion.l0 k ([] : List (S104)) y381 (y381.length : Int) 0)) else (none)))) = some (r1, r2) := h
 clear h
 by_cases c5 : (l0.length : Int) = 32
 ·
  rw [if_pos c5] at H
  have c5b0 : ((l0.length : Int) == 32) = true := beq_iff_eq.mpr c5
  have c5b1 : ((l0.length : Int) != 32) = false := bne_eq_false_iff_eq.mpr c5
  clear c5
  simp only [Option.some.injEq, Prod.mk.injEq] at H
  obtain ⟨rfl, rfl⟩ := H
  go_enter Try.func79, Try.ntmps79
  go_wp2
  go_ret2
  exact ⟨_, er_, by first | exact Kd.S_nil _ _ _ _ _ | exact Kd.N_nil _ _ _ _ _ | exact Kd.V_nil _ _ _ _ _ | exact Kd.Q_nil _ _ _ _ _ | exact Kd.R_nil _ _ _ _ _, bB_⟩
 ·
  rw [if_neg c5] at H
  have c5b0 : ((l0.length : Int) == 32) = false := beq_eq_false_iff_ne.mpr c5
  have c5b1 : ((l0.length : Int) != 32) = true := bne_iff_ne.mpr c5
  replace H := Option.bind_eq_some_iff.mp H
  obtain ⟨t378, A60, H⟩ := H
  replace H : (if t378.length < 2513169434916 then ((some (t378 ++ [(⟨wrap64 ((l0.length : Int) + 1), a1, a2, l3⟩ : S104)] : List (S104))).bind fun y381 => (impl_withVersion.l0 k ([] : List (S104)) y381 (y381.length : Int) 0)) else (none)) = some (r1, r2) := H
  have A6 := Aside0.mk A60
  clear A60
  by_cases c7 : t378.length < 2513169434916
  ·
   rw [if_pos c7] at H
   have LMc7 := Aside0.mk c7
   clear c7
   obtain ⟨y381, hy381⟩ : ∃ y_ : List (S104), y_ = (t378 ++ [(⟨wrap64 ((l0.length : Int) + 1), a1, a2, l3⟩ : S104)]) := ⟨_, rfl⟩
   replace H : (impl_withVersion.l0 k ([] : List (S104)) y381 (y381.length : Int) 0) = some (r1, r2) := by first | (rw [hy381]; with_reducible exact H) | (have H2_ := (Option.bind_some _ _).symm.trans H; rw [hy381]; with_reducible exact H2_) | (have H2_ := (Option.bind_some _ _).symm.trans H; with_reducible exact H2_) | with_reducible exact H | (rw [hy381]; exact H) | exact H
   have Ny381 := Aside0.mk hy381
   clear hy381
   have H' := Aside0.mk H
   clear H
   go_enter Try.func79, Try.ntmps79
   go_wp2_with (first | ((with_reducible refine gate_callee (f := 109) rfl ?_); refine goesL_ (some 17) rfl rfl Try.func109 (by kernel_rfl) rfl #[.slice A0 l0.length c0] rfl mT_ ?_; (with_reducible refine (impl_Version.calls (fun k_ => ((True ∨ True) ∨ w.heap.size ≤ k_)) _ _ l0 t378 _ ?side1 A6.out).mono ?_); (case side1 => exact HO0.out); rintro e w8 ⟨v379, rfl, ho0, hb⟩; refine ⟨_, rfl, ?_⟩; have n0_ := Aside0.mk (Kd.V_elder' (vA_ HO0.out) (Kd.N_base ho0) hb); have n1_ := Aside0.mk (Kd.V_elder' (vA_ HO3.out) (Kd.N_base ho0) hb); have n2_ := Aside0.mk (Kd.N_lower (Kd.N_mono (ok' := fun k_ => ((True ∨ True) ∨ w.heap.size ≤ k_)) ho0 (fun k_ hk_ => Or.elim hk_ (fun hs_ => hs_) (fun hn_ => (.inr (Nat.le_trans (below_size bB_) hn_))))) (below_size bB_)); have n3_ := Aside0.mk (below_step bB_ hb); clear HO0; clear HO3; clear HB; have HO0 := n0_; have HO3 := n1_; have HO380 := n2_; have HB := n3_; clear n0_ n1_ n2_ n3_; (try clear hb); (try clear hb2); (try clear hk); (try clear hi); (try clear ho0)) | ((with_reducible refine gate_builtin (b := .append) (xs := #[.tmp 17, .tmp 25]) rfl ?_); at_builtin; refine Kd.N_append k104 (w0 := w) w.heap.size rfl (.tmp 17) (.tmp 25) 46 104 (.agg #[(.int .i64 0), (.int .i64 0), (.string ⟨#[]⟩), (.slice none 0 0)]) 56 rfl Try.underlying46 info104 rfl (by decide) (by omega) v379 t378 (⟨wrap64 ((l0.length : Int) + 1), a1, a2, l3⟩ : S104) [.int .i64 (wrap64 ((l0.length : Int) + 1)), .int .i64 a1, .string a2, .slice A3 l3.length c3] (fun k_ => ((True ∨ True) ∨ w.heap.size ≤ k_)) (fun k_ => ((fun k_ => ((True ∨ True) ∨ w.heap.size ≤ k_))) k_ ∧ some k_ ≠ (v379 : Value).ownBlock) rfl rfl ?aP (fun _ hk => hk) ?aF ?aO ?aB ?aS ?aL ?_; (case aP => exact (k104_mkF _ _ (⟨wrap64 ((l0.length : Int) + 1), a1, a2, l3⟩ : S104) (Kd.V_reads' (Kd.V_mono (ok' := (fun k_ => ((fun k_ => ((True ∨ True) ∨ w.heap.size ≤ k_))) k_ ∧ some k_ ≠ (v379 : Value).ownBlock)) (HO3.out) (fun k_ hk => ⟨hk.1, hk.2⟩))).2.1 (Kd.V_F (Kd.V_mono (ok' := (fun k_ => ((fun k_ => ((True ∨ True) ∨ w.heap.size ≤ k_))) k_ ∧ some k_ ≠ (v379 : Value).ownBlock)) (HO3.out) (fun k_ hk => ⟨hk.1, hk.2⟩))))); (case aB => exact bB_); (case aF => exact (fun k_ hk => (.inr (Nat.le_trans (below_size bB_) hk)))); (case aO => exact (nA_ HO380.out)); (case aS => exact (below_size bB_)); (case aL => have := LMc7.out; omega); intro v382 w9 ho hb hg hat; rw [← Ny381.out] at ho; have n0_ := Aside0.mk (Kd.V_afterv (ok := (fun k_ => ((True ∨ True) ∨ w.heap.size ≤ k_))) (vA_ HO0.out) hg hat); have n1_ := Aside0.mk (Kd.V_afterv (ok := (fun k_ => ((True ∨ True) ∨ w.heap.size ≤ k_))) (vA_ HO3.out) hg hat); have n2_ := Aside0.mk (hb); have n3_ := Aside0.mk (ho); clear HO0; clear HO3; clear HB; clear HO380; have HO0 := n0_; have HO3 := n1_; have HB := n2_; have HO383 := n3_; clear n0_ n1_ n2_ n3_; clear ho hb hg hat; obtain ⟨Ao10, co10, eo10⟩ := Kd.N_slice HO383.out; subst eo10))
   obtain ⟨Z, hZ⟩ : ∃ Z, Z = w9.heap.size := ⟨_, rfl⟩
   have n0_ : Aside0 (Kd.N k104 104 w9 w.heap.size (fun k_ => k_ < Z) (.slice Ao10 y381.length co10) y381) := ⟨Kd.N_mono (Kd.N_bound HO383.out) (fun k_ h_ => by rw [hZ]; exact h_.2)⟩
   have HZ : Aside0 (Z ≤ w9.heap.size) := ⟨by rw [hZ]; exact Nat.le_refl _⟩
   clear HO383 hZ HO0 HO3
   have HO383 := n0_
   clear n0_
   go_loopg [10, 28] k (fun kq v10 v28 w' => ∃ (x10_1 : List (S104)) (x28_1 : Int), v28 = .int .i64 x28_1 ∧ Aside0 (impl_withVersion.l0 kq x10_1 y381 (y381.length : Int) x28_1 = some (r1, r2)) ∧ Aside0 (kq ≤ k) ∧ Aside0 (Kd.S k104 104 w' w.heap.size (fun k_ => Z ≤ k_) v10 x10_1) ∧ Aside0 (Kd.N k104 104 w' w.heap.size (fun k_ => k_ < Z) (.slice Ao10 y381.length co10) y381) ∧ Aside0 (Z ≤ w'.heap.size) ∧ Aside0 (Below w.heap.size w w'))
   case atStart => exact ⟨(([] : List (S104))), (0), rs_, H', ⟨Nat.le_refl _⟩, ⟨Kd.S_nil _ _ _ _ _⟩, HO383, HZ, HB⟩
   case round =>
    clear H' HZ HB HO383
    try clear c5
    try clear c5b0
    try clear c5b1
    obtain ⟨x10_1, x28_1, rfl, HA, HK1, HO_10, HO_26, HZ, HB⟩ := hrel
    cases gk with
    | zero => exact absurd HA.out (by simp [impl_withVersion.l0])
    | succ k1 =>
     have H := HA.out
     clear HA
     simp only [impl_withVersion.l0] at H
     by_cases c11 : x28_1 < (y381.length : Int)
     ·
      rw [if_pos c11] at H
      have c11b0 : decide (x28_1 < (y381.length : Int)) = true := decide_eq_true c11
      clear c11
      by_cases c12 : 0 ≤ x28_1
      ·
       rw [if_pos c12] at H
       have c12b0 : decide (0 ≤ x28_1) = true := decide_eq_true c12
       clear c12
       by_cases c13 : x28_1 < (y381.length : Int)
       ·
        rw [if_pos c13] at H
        have c13b0 : decide (x28_1 < (y381.length : Int)) = true := decide_eq_true c13
        clear c13
        replace H := Option.bind_eq_some_iff.mp H
        obtain ⟨t386, A140, H⟩ := H
        replace H : (if x10_1.length < 2513169434916 then (impl_withVersion.l0 k1 (x10_1 ++ [(⟨(rd_T104 y381 x28_1).f0, (rd_T104 y381 x28_1).f1, (rd_T104 y381 x28_1).f2, t386⟩ : S104)]) y381 (y381.length : Int) (wrap64 (x28_1 + 1))) else (none)) = some (r1, r2) := H
        have A14 := Aside0.mk A140
        clear A140
        by_cases c15 : x10_1.length < 2513169434916
        ·
         rw [if_pos c15] at H
         have LMc15 := Aside0.mk c15
         clear c15
         obtain ⟨y389, hy389⟩ : ∃ y_ : List (S104), y_ = (x10_1 ++ [(⟨(rd_T104 y381 x28_1).f0, (rd_T104 y381 x28_1).f1, (rd_T104 y381 x28_1).f2, t386⟩ : S104)]) := ⟨_, rfl⟩
         replace H : (impl_withVersion.l0 k1 y389 y381 (y381.length : Int) (wrap64 (x28_1 + 1))) = some (r1, r2) := by first | (rw [hy389]; with_reducible exact H) | (have H2_ := (Option.bind_some _ _).symm.trans H; rw [hy389]; with_reducible exact H2_) | (have H2_ := (Option.bind_some _ _).symm.trans H; with_reducible exact H2_) | with_reducible exact H | (rw [hy389]; exact H) | exact H
         have Ny389 := Aside0.mk hy389
         clear hy389
         have H' := Aside0.mk H
         clear H
         have p384 : 0 ≤ (x28_1 : Int) := of_decide_eq_true as_
         have q384 : x28_1 < (y381.length : Int) := of_decide_eq_true as_
         obtain ⟨ad384, A384_3, c384_3, e384, hx384_0, hx384_1, hx384_2, hx384_3, hl384_3, hi384_3⟩ := at_T104 (Kd.N_reads' HO_26.out).2.2 x28_1 p384 q384
         cases e384
         have HR384_3 := Aside0.mk hi384_3
         have HC384_3 := Aside0.mk hl384_3
         clear hi384_3 hl384_3
         replace p384 := eq_true p384
         replace q384 := eq_true q384
         have n0_ := Aside0.mk (Kd.S_mono (ok' := fun k_ => Z ≤ k_ ∧ k_ < wr.heap.size) (Kd.S_bound HO_10.out) (fun k_ h_ => ⟨h_.1, h_.2.2.1⟩))
         clear HO_10
         have HO_10 := n0_
         clear n0_
         go_wp2_with (first | ((with_reducible refine gate_dst (N := 12) rfl ?_); refine box_event ?hg (N := 12) ?hd (cs := #[.int .i64 0, .int .i64 0, .string (⟨#[]⟩ : ByteArray), .slice none 0 0]) (t := 104) ?hr ?_; (case hd => rfl); (case hg => rfl); (case hr => first | (go_simp; done) | (go_simp; rfl)); intro gb385 hg w16 hbox hb; have BK385 := Aside0.mk hbox; have HBR := Aside0.mk hb; have GE385 := Aside0.mk (Nat.le_of_eq hg.symm); clear hb hbox hg; have hcz17_0 : w16.cell? ⟨gb385, 0, none⟩ = some (.int .i64 0) := (blk_cell BK385.out 0).trans rfl; have hcz17_1 : w16.cell? ⟨gb385, 1, none⟩ = some (.int .i64 0) := (blk_cell BK385.out 1).trans rfl; have hcz17_2 : w16.cell? ⟨gb385, 2, none⟩ = some (.string (⟨#[]⟩ : ByteArray)) := (blk_cell BK385.out 2).trans rfl; have hcz17_3 : w16.cell? ⟨gb385, 3, none⟩ = some (.slice none 0 0) := (blk_cell BK385.out 3).trans rfl; have hfz17_0 := blk_frozen BK385.out 0; have hfz17_1 := blk_frozen BK385.out 1; have hfz17_2 := blk_frozen BK385.out 2; have hfz17_3 := blk_frozen BK385.out 3) | ((with_reducible refine gate_callee (f := 54) rfl ?_); refine goesL_ (some 34) rfl rfl Try.func54 (by kernel_rfl) rfl #[.slice A384_3 ((rd_T104 y381 x28_1).f3).length c384_3] rfl mT_ ?_; (with_reducible refine (impl_Setting.calls _ _ ((rd_T104 y381 x28_1).f3) t386 _ ?side1 ?side2 A14.out).mono ?_); (case side1 => exact Kd.C_below HR384_3.out (by repeat (first | exact HBR.out | refine below_set ?_ GE385.out))); (case side2 => exact HC384_3.out); rintro e w18 ⟨v387, rfl, ho0, hb⟩; refine ⟨_, rfl, ?_⟩; have n0_ := Aside0.mk (below_step (by repeat (first | exact HBR.out | refine below_set ?_ GE385.out)) hb); have n1_ := Aside0.mk (blk_below (g := gb385) (o := .cells #[.int .i64 ((rd_T104 y381 x28_1).f0), .int .i64 ((rd_T104 y381 x28_1).f1), .string ((rd_T104 y381 x28_1).f2), .slice A384_3 ((rd_T104 y381 x28_1).f3).length c384_3] 104 (0, 0)) (by refine blk_put (cs := #[.int .i64 ((rd_T104 y381 x28_1).f0), .int .i64 ((rd_T104 y381 x28_1).f1), .string ((rd_T104 y381 x28_1).f2), .slice none 0 0]) ?_ 3 _ rfl; refine blk_put (cs := #[.int .i64 ((rd_T104 y381 x28_1).f0), .int .i64 ((rd_T104 y381 x28_1).f1), .string (⟨#[]⟩ : ByteArray), .slice none 0 0]) ?_ 2 _ rfl; refine blk_put (cs := #[.int .i64 ((rd_T104 y381 x28_1).f0), .int .i64 0, .string (⟨#[]⟩ : ByteArray), .slice none 0 0]) ?_ 1 _ rfl; refine blk_put (cs := #[.int .i64 0, .int .i64 0, .string (⟨#[]⟩ : ByteArray), .slice none 0 0]) ?_ 0 _ rfl; exact BK385.out) hb); have n2_ := Aside0.mk (Kd.R_lower (Kd.R_tight rfl ho0) (Nat.le_trans HB.out.size (below_size (by repeat (first | exact HBR.out | refine below_set ?_ GE385.out))))); have n3_ := Aside0.mk (fun k_ (h_ : v387.ownBlock = some k_) => (⟨Nat.le_trans (below_size (by repeat (first | exact HBR.out | refine below_set ?_ GE385.out))) (Kd.R_base ho0 k_ h_), Kd.freshB (g := gb385) (o := .cells #[.int .i64 ((rd_T104 y381 x28_1).f0), .int .i64 ((rd_T104 y381 x28_1).f1), .string ((rd_T104 y381 x28_1).f2), .slice A384_3 ((rd_T104 y381 x28_1).f3).length c384_3] 104 (0, 0)) (by refine blk_put (cs := #[.int .i64 ((rd_T104 y381 x28_1).f0), .int .i64 ((rd_T104 y381 x28_1).f1), .string ((rd_T104 y381 x28_1).f2), .slice none 0 0]) ?_ 3 _ rfl; refine blk_put (cs := #[.int .i64 ((rd_T104 y381 x28_1).f0), .int .i64 ((rd_T104 y381 x28_1).f1), .string (⟨#[]⟩ : ByteArray), .slice none 0 0]) ?_ 2 _ rfl; refine blk_put (cs := #[.int .i64 ((rd_T104 y381 x28_1).f0), .int .i64 0, .string (⟨#[]⟩ : ByteArray), .slice none 0 0]) ?_ 1 _ rfl; refine blk_put (cs := #[.int .i64 0, .int .i64 0, .string (⟨#[]⟩ : ByteArray), .slice none 0 0]) ?_ 0 _ rfl; exact BK385.out) k_ (Kd.R_base ho0 k_ h_)⟩ : _ ∧ k_ ≠ gb385)); clear HBR BK385 hb ho0; have HBR := n0_; have BK385 := n1_; have HO388 := n2_; have NB := n3_; clear n0_ n1_ n2_ n3_; obtain ⟨Ao19, co19, eo19⟩ := Kd.R_slice HO388.out; subst eo19; have hcz20_0 : w18.cell? ⟨gb385, 0, none⟩ = some (.int .i64 ((rd_T104 y381 x28_1).f0)) := (blk_cell BK385.out 0).trans rfl; have hcz20_1 : w18.cell? ⟨gb385, 1, none⟩ = some (.int .i64 ((rd_T104 y381 x28_1).f1)) := (blk_cell BK385.out 1).trans rfl; have hcz20_2 : w18.cell? ⟨gb385, 2, none⟩ = some (.string ((rd_T104 y381 x28_1).f2)) := (blk_cell BK385.out 2).trans rfl; have hcz20_3 : w18.cell? ⟨gb385, 3, none⟩ = some (.slice A384_3 ((rd_T104 y381 x28_1).f3).length c384_3) := (blk_cell BK385.out 3).trans rfl; have hfz20_0 := blk_frozen BK385.out 0; have hfz20_1 := blk_frozen BK385.out 1; have hfz20_2 := blk_frozen BK385.out 2; have hfz20_3 := blk_frozen BK385.out 3) | ((with_reducible refine gate_store (t := 26) (p := 35) rfl ?_); refine store_event (t := 26) (p := 35) (v := ?vo_w21) (w1 := (w18.setCell ⟨gb385, 3, none⟩ (.slice Ao19 t386.length co19))) ?hg ?ho ?hn ?hr ?_; (case ho => rfl); (case hg => rfl); (case hn => rfl); (case hr => first | (go_simp; done) | (go_simp; rfl)); intro w21 hw; have n0_ : Aside0 (Kd.R k71 71 w21 w.heap.size (fun k_ => some k_ = (.slice Ao19 t386.length co19 : Value).ownBlock) (.slice Ao19 t386.length co19) t386) := ⟨(by rw [hw]; exact Kd.R_far (p := ⟨gb385, 3, none⟩) HO388.out (fun k_ h_ => (NB.out k_ h_.symm).2) (.slice Ao19 t386.length co19))⟩; have n1_ : Aside0 (w21.heap[gb385]? = some (.cells #[.int .i64 ((rd_T104 y381 x28_1).f0), .int .i64 ((rd_T104 y381 x28_1).f1), .string ((rd_T104 y381 x28_1).f2), .slice Ao19 t386.length co19] 104 (0, 0))) := ⟨(by rw [hw]; refine blk_put (cs := #[.int .i64 ((rd_T104 y381 x28_1).f0), .int .i64 ((rd_T104 y381 x28_1).f1), .string ((rd_T104 y381 x28_1).f2), .slice A384_3 ((rd_T104 y381 x28_1).f3).length c384_3]) ?_ 3 _ rfl; exact BK385.out)⟩; have n2_ : Aside0 (Below wr.heap.size wr w21) := ⟨(by rw [hw]; exact below_set HBR.out GE385.out)⟩; clear hw; clear HO388 BK385 HBR; have HO388 := n0_; have BK385 := n1_; have HBR := n2_; clear n0_ n1_ n2_; have hcz22_0 : w21.cell? ⟨gb385, 0, none⟩ = some (.int .i64 ((rd_T104 y381 x28_1).f0)) := (blk_cell BK385.out 0).trans rfl; have hcz22_1 : w21.cell? ⟨gb385, 1, none⟩ = some (.int .i64 ((rd_T104 y381 x28_1).f1)) := (blk_cell BK385.out 1).trans rfl; have hcz22_2 : w21.cell? ⟨gb385, 2, none⟩ = some (.string ((rd_T104 y381 x28_1).f2)) := (blk_cell BK385.out 2).trans rfl; have hcz22_3 : w21.cell? ⟨gb385, 3, none⟩ = some (.slice Ao19 t386.length co19) := (blk_cell BK385.out 3).trans rfl; have hfz22_0 := blk_frozen BK385.out 0; have hfz22_1 := blk_frozen BK385.out 1; have hfz22_2 := blk_frozen BK385.out 2; have hfz22_3 := blk_frozen BK385.out 3) | ((with_reducible refine gate_builtin (b := .append) (xs := #[.tmp 36, .tmp 38]) rfl ?_); at_builtin; refine Kd.S_append k104 (w0 := w) w.heap.size rfl (.tmp 36) (.tmp 38) 46 104 (.agg #[(.int .i64 0), (.int .i64 0), (.string ⟨#[]⟩), (.slice none 0 0)]) 56 rfl Try.underlying46 info104 rfl (by decide) (by omega) u10 x10_1 (⟨(rd_T104 y381 x28_1).f0, (rd_T104 y381 x28_1).f1, (rd_T104 y381 x28_1).f2, t386⟩ : S104) [.int .i64 ((rd_T104 y381 x28_1).f0), .int .i64 ((rd_T104 y381 x28_1).f1), .string ((rd_T104 y381 x28_1).f2), .slice Ao19 t386.length co19] (fun k_ => Z ≤ k_) (fun k_ => some k_ = (.slice Ao19 t386.length co19 : Value).ownBlock) rfl rfl (k104_mkM _ _ _ (⟨(rd_T104 y381 x28_1).f0, (rd_T104 y381 x28_1).f1, (rd_T104 y381 x28_1).f2, t386⟩ : S104) HO388.out) ?aP ?aF ?aO ?aB ?aS ?aL ?_; (case aP => exact (fun k_ hk => ⟨Nat.le_trans HZ.out (NB.out k_ hk.symm).1, fun e_ => Nat.lt_irrefl _ (Nat.lt_of_lt_of_le (Kd.S_lt HO_10.out k_ e_.symm) (NB.out k_ hk.symm).1)⟩)); (case aF => exact (fun k_ hk => Nat.le_trans HZ.out (Nat.le_trans (below_size HBR.out) hk))); (case aO => exact Kd.S_mono (Kd.S_below HO_10.out HBR.out) (fun k_ h_ => ⟨h_.1, fun e_ => Nat.lt_irrefl _ (Nat.lt_of_lt_of_le h_.2 (NB.out k_ e_.symm).1)⟩)); (case aB => exact below_step HB.out HBR.out); (case aS => exact Nat.le_trans HB.out.size (below_size HBR.out)); (case aL => have h_ := LMc15.out; omega); intro v390 w23 ho hb hg hat; rw [← Ny389.out] at ho; have n0_ := Aside0.mk (Kd.N_grown (Kd.N_below HO_26.out HBR.out) hg (fun k_ hk e_ => by have h_ := ((Kd.S_R HO_10.out).1 k_ e_.symm).1; omega)); have n1_ := Aside0.mk ho; have n2_ := Aside0.mk hb; have n3_ := Aside0.mk (Nat.le_trans HZ.out (Nat.le_trans (below_size HBR.out) hg.size)); clear HO_10 HO_26 HB HBR HZ HO388 BK385 ho hb hg hat; have HO_10 := n1_; have HO_26 := n0_; have HB := n2_; have HZ := n3_; clear n0_ n1_ n2_ n3_))
         go_roundg k1
         case measure => have := HK1.out; omega
         case rel => exact ⟨(y389), (wrap64 (x28_1 + 1)), rs_, H', ⟨by have := HK1.out; omega⟩, HO_10, HO_26, HZ, HB⟩
        ·
         rw [if_neg c15] at H
         exact absurd H (by simp)
       ·
        rw [if_neg c13] at H
        exact absurd H (by simp)
      ·
       rw [if_neg c12] at H
       exact absurd H (by simp)
     ·
      rw [if_neg c11] at H
      have c11b0 : decide (x28_1 < (y381.length : Int)) = false := decide_eq_false c11
      clear c11
      simp only [Option.some.injEq, Prod.mk.injEq] at H
      obtain ⟨rfl, rfl⟩ := H
      go_wp2
      go_ret2
      exact ⟨_, er_, Kd.S_mono HO_10.out (fun _ _ => trivial), bB_⟩
  ·
   rw [if_neg c7] at H
   exact absurd H (by simp)


/-! ### impl_MergeVersions: function 29 -/
def impl_MergeVersions.j0 : Nat → List (S104) → Int → Int → ByteArray → Int → Bool → Option ((List (S104)) × Int)
 | 0, _, _, _, _, _, _ => none
 | k + 1, x0, x1, x2, x3, x10, x17 => if x17 = true then (some (([] : List (S104)), 1)) else (if x10 = 0 then ((impl_commonAncestor.f k x0 x1 x2).bind fun t383 => ((impl_versionState.f x0 t383).bind fun t384 => ((impl_versionState.f x0 x1).bind fun t387 => ((impl_versionState.f x0 x2).bind fun t390 => ((impl_MergeStates.f k t384 t387 t390).bind fun bt393 => (if bt393.2 = 0 then ((impl_withVersion.f k x0 x1 x3 bt393.1).bind fun bt397 => (some (bt397.1, bt397.2))) else (some (([] : List (S104)), bt393.2)))))))) else (some (([] : List (S104)), x10)))
def impl_MergeVersions.f (k : Nat) (l0 : List (S104)) (a1 : Int) (a2 : Int) (a3 : ByteArray) : Option ((List (S104)) × Int) := (impl_versionsCode.f k l0 (([a1, a2] : List Int))).bind fun t381 => (if t381 = 1 then (impl_MergeVersions.j0 k l0 a1 a2 a3 t381 true) else ((impl_memoValid.f k a3).bind fun t382 => (impl_MergeVersions.j0 k l0 a1 a2 a3 t381 (!t382))))
theorem impl_MergeVersions.mono_l : ∀ k, (∀ y0 y1 y2 y3 y4 y5, LeO (impl_MergeVersions.j0 k y0 y1 y2 y3 y4 y5) (impl_MergeVersions.j0 (k + 1) y0 y1 y2 y3 y4 y5))
 | 0 => fun _ _ _ _ _ _ r h => by simp [impl_MergeVersions.j0] at h
 | k + 1 => by
  have ih0 := impl_MergeVersions.mono_l k
  ·
   intro y0 y1 y2 y3 y4 y5
   unfold impl_MergeVersions.j0
   repeat' first
   | (with_reducible exact ih0 _ _ _ _ _ _)
   | (with_reducible exact impl_MergeStates.mono _ _ _ _)
   | (with_reducible exact impl_commonAncestor.mono _ _ _ _)
   | (with_reducible exact impl_memoValid.mono _ _)
   | (with_reducible exact impl_versionsCode.mono _ _ _)
   | (with_reducible exact impl_withVersion.mono _ _ _ _ _)
   | (with_reducible exact LeO.refl _)
   | (with_reducible exact LeO.none _)
   | (with_reducible refine LeO.ite ?_ ?_)
   | (with_reducible refine LeO.bind ?_ (fun _ => ?_))
   | exact ih0 _ _ _ _ _ _
   | exact impl_MergeStates.mono _ _ _ _
   | exact impl_commonAncestor.mono _ _ _ _
   | exact impl_memoValid.mono _ _
   | exact impl_versionsCode.mono _ _ _
   | exact impl_withVersion.mono _ _ _ _ _
   | exact LeO.none _
   | refine LeO.ite ?_ ?_
   | refine LeO.bind ?_ (fun _ => ?_)
theorem impl_MergeVersions.mono : ∀ a0 a1 a2 a3 k, LeO (impl_MergeVersions.f k a0 a1 a2 a3) (impl_MergeVersions.f (k + 1) a0 a1 a2 a3) := by
 intro a0 a1 a2 a3 k
 have ih0 := impl_MergeVersions.mono_l k
 unfold impl_MergeVersions.f
 repeat' first
   | (with_reducible exact ih0 _ _ _ _ _ _)
   | (with_reducible exact impl_MergeStates.mono _ _ _ _)
   | (with_reducible exact impl_commonAncestor.mono _ _ _ _)
   | (with_reducible exact impl_memoValid.mono _ _)
   | (with_reducible exact impl_versionsCode.mono _ _ _)
   | (with_reducible exact impl_withVersion.mono _ _ _ _ _)
   | (with_reducible exact LeO.refl _)
   | (with_reducible exact LeO.none _)
   | (with_reducible refine LeO.ite ?_ ?_)
   | (with_reducible refine LeO.bind ?_ (fun _ => ?_))
   | exact ih0 _ _ _ _ _ _
   | exact impl_MergeStates.mono _ _ _ _
   | exact impl_commonAncestor.mono _ _ _ _
   | exact impl_memoValid.mono _ _
   | exact impl_versionsCode.mono _ _ _
   | exact impl_withVersion.mono _ _ _ _ _
   | exact LeO.none _
   | refine LeO.ite ?_ ?_
   | refine LeO.bind ?_ (fun _ => ?_)
set_option maxHeartbeats 8000000 in
set_option maxRecDepth 100000 in
theorem impl_MergeVersions.calls (k : Nat) (A0 : Option Addr) (c0 : Nat) (l0 : List (S104)) (a1 : Int) (a2 : Int) (a3 : ByteArray) (r1 : List (S104)) (r2 : Int) (w : World) (hr0 : Kd.C k104 w A0 l0.length l0) (hc0 : l0.length ≤ c0) (h : impl_MergeVersions.f k l0 a1 a2 a3 = some (r1, r2)) :
  Calls Try.prog 29 #[.slice A0 l0.length c0, .int .i64 a1, .int .i64 a2, .string a3] w fun e w' => ∃ v0_ : Value, e = .returned (.tuple #[v0_, .int .i64 r2]) ∧ Kd.S k104 104 w' w.heap.size (fun _ => True) v0_ r1 ∧ Below w.heap.size w w' := by
 have HR0 := Aside0.mk hr0
 have HC0 := Aside0.mk hc0
 clear hr0 hc0
 have HB := Aside0.mk (Below.refl w.heap.size w)
 have H : ((impl_versionsCode.f k l0 (([a1, a2] : List Int))).bind fun t381 => (if t381 = 1 then (impl_MergeVersions.j0 k l0 a1 a2 a3 t381 true) else ((impl_memoValid.f k a3).bind fun t382 => (impl_MergeVersions.j0 k l0 a1 a2 a3 t381 (!t382))))) = some (r1, r2) := h
 clear h
 obtain ⟨y378, hy378⟩ : ∃ y_ : List Int, y_ = (([a1, a2] : List Int)) := ⟨_, rfl⟩
 replace H : ((impl_versionsCode.f k l0 y378).bind fun t381 => (if t381 = 1 then (impl_MergeVersions.j0 k l0 a1 a2 a3 t381 true) else ((impl_memoValid.f k a3).bind fun t382 => (impl_MergeVersions.j0 k l0 a1 a2 a3 t381 (!t382))))) = some (r1, r2) := by first | (rw [hy378]; with_reducible exact H) | (have H2_ := (Option.bind_some _ _).symm.trans H; rw [hy378]; with_reducible exact H2_) | (have H2_ := (Option.bind_some _ _).symm.trans H; with_reducible exact H2_) | with_reducible exact H | (rw [hy378]; exact H) | exact H
 have Ny378 := Aside0.mk hy378
 clear hy378
 replace H := Option.bind_eq_some_iff.mp H
 obtain ⟨t381, A50, H⟩ := H
 replace H : (if t381 = 1 then (impl_MergeVersions.j0 k l0 a1 a2 a3 t381 true) else ((impl_memoValid.f k a3).bind fun t382 => (impl_MergeVersions.j0 k l0 a1 a2 a3 t381 (!t382)))) = some (r1, r2) := H
 have A5 := Aside0.mk A50
 clear A50
 have HC6 := Aside0.mk H
 clear H
 go_enter Try.func29, Try.ntmps29
 go_upto_region 2 with (first | ((with_reducible refine gate_dst (N := 15) rfl ?_); refine Kd.R_lit (Kd.int .i64) _ 2 ?hg (N := 15) ?hd (xs := ([a1, a2] : List Int)) (inner := [.int .i64 a1, .int .i64 a2]) (ok := fun _ => True) (okp := fun _ => True) ?hr ?hp (fun _ hk => hk) trivial (Below.refl _ _) (Nat.le_refl _) (by simp) ?_; (case hd => rfl); (case hg => rfl); (case hr => first | (go_simp; done) | (go_simp; rfl)); (case hp => exact (Reps.one (show Kd.M (Kd.int .i64) _ _ _ a1 [.int .i64 a1] from rfl) (Reps.one (show Kd.M (Kd.int .i64) _ _ _ a2 [.int .i64 a2] from rfl) (Reps.none _ _)))); intro v379 w7 ho8 hb hg_ hnew_; clear hg_ hnew_; (first | rw [← Ny378.out] at ho8 | (simp only [Int.reduceToNat] at ho8; rw [← Ny378.out] at ho8)); have n0_ := Aside0.mk (Kd.R_lower ho8 (below_size bB_)); have n1_ := Aside0.mk (below_step bB_ hb); clear HB; have HO380 := n0_; have HB := n1_; clear n0_ n1_; clear hb ho8; obtain ⟨Ao9, co9, eo9⟩ := Kd.R_slice HO380.out; subst eo9) | ((with_reducible refine gate_callee (f := 75) rfl ?_); refine goesL_ (some 16) rfl rfl Try.func75 (by kernel_rfl) rfl #[.slice A0 l0.length c0, .slice Ao9 y378.length co9] rfl mT_ ?_; (with_reducible refine (impl_versionsCode.calls k _ _ l0 _ _ y378 t381 _ ?side1 ?side2 ?side3 ?side4 A5.out).mono ?_); (case side1 => exact cA_ (Kd.C_below HR0.out HB.out)); (case side2 => exact HC0.out); (case side3 => repeat (first | exact (Kd.R_reads' HO380.out).2.2 | (with_reducible refine Kd.C_alloc ?_ _) | (with_reducible refine Kd.C_drewN ?_ _) | (with_reducible refine Kd.C_drew ?_))); (case side4 => exact (Kd.R_reads' HO380.out).2.1); rintro e w10 ⟨rfl, hb⟩; refine ⟨_, rfl, ?_⟩; have n0_ := Aside0.mk (Kd.R_below (rA_ HO380.out) hb); have n1_ := Aside0.mk (below_step bB_ hb); clear HO380; clear HB; have HO380 := n0_; have HB := n1_; clear n0_ n1_; (try clear hb); (try clear hb2); (try clear hk); (try clear hi)))
 (try simp only [Act.put, List.setIfInBounds_toArray, List.set_cons_zero, List.set_cons_succ])
 go_cut [17] (fun v17 wc => ∃ (kq : Nat) (x17_5 : Bool), v17 = .bool x17_5 ∧ Aside0 (impl_MergeVersions.j0 kq l0 a1 a2 a3 t381 x17_5 = some (r1, r2)) ∧ Aside0 (kq ≤ k) ∧ Aside0 (Below w.heap.size w wc))
 case first =>
  have H := HC6.out
  clear HC6
  by_cases c11 : t381 = 1
  ·
   rw [if_pos c11] at H
   have c11b0 : (t381 == 1) = true := beq_iff_eq.mpr c11
   have c11b1 : (t381 != 1) = false := bne_eq_false_iff_eq.mpr c11
   clear c11
   (first | rw [c11b0] | (simp only [i64_w, i32_w]; rw [c11b0]) | skip)
   have H' := Aside0.mk H
   clear H
   go_wp2
   go_meet
   case rel => exact ⟨_, (true), rs_, H', ⟨by first | omega | exact Nat.le_refl _⟩, ⟨bB_⟩⟩
  ·
   rw [if_neg c11] at H
   have c11b0 : (t381 == 1) = false := beq_eq_false_iff_ne.mpr c11
   have c11b1 : (t381 != 1) = true := bne_iff_ne.mpr c11
   (first | rw [c11b0] | (simp only [i64_w, i32_w]; rw [c11b0]) | skip)
   replace H := Option.bind_eq_some_iff.mp H
   obtain ⟨t382, A120, H⟩ := H
   replace H : (impl_MergeVersions.j0 k l0 a1 a2 a3 t381 (!t382)) = some (r1, r2) := H
   have A12 := Aside0.mk A120
   clear A120
   have H' := Aside0.mk H
   clear H
   go_wp2_with (first | (go_at_call 76; (with_reducible refine (impl_memoValid.calls k a3 t382 _ A12.out).mono ?_); rintro e w' ⟨rfl, ⟨nd, rfl⟩⟩))
   go_meet
   case rel => exact ⟨_, (!t382), rs_, H', ⟨by first | omega | exact Nat.le_refl _⟩, ⟨bB_⟩⟩
 case rest =>
  clear HC6
  try clear c1
  try clear c2
  try clear p2
  try clear c7
  try clear c11
  try clear c11b0
  try clear c11b1
  obtain ⟨kq, x17_5, rfl, HA, HJ5, HB⟩ := hcut
  cases kq with
  | zero => exact absurd HA.out (by simp [impl_MergeVersions.j0])
  | succ kj5 =>
   have H := HA.out
   clear HA
   simp only [impl_MergeVersions.j0] at H
   by_cases c13 : x17_5 = true
   ·
    subst c13
    have H1 : (some (([] : List (S104)), 1)) = some (r1, r2) := by rw [if_pos rfl] at H; exact H
    clear H
    have H := H1
    clear H1
    simp only [Option.some.injEq, Prod.mk.injEq] at H
    obtain ⟨rfl, rfl⟩ := H
    go_wp2
    go_ret2
    exact ⟨_, er_, by first | exact Kd.S_nil _ _ _ _ _ | exact Kd.N_nil _ _ _ _ _ | exact Kd.V_nil _ _ _ _ _ | exact Kd.Q_nil _ _ _ _ _ | exact Kd.R_nil _ _ _ _ _, bB_⟩
   ·
    replace c13 := Bool.eq_false_iff.mpr c13
    subst c13
    have H1 : (if t381 = 0 then ((impl_commonAncestor.f kj5 l0 a1 a2).bind fun t383 => ((impl_versionState.f l0 t383).bind fun t384 => ((impl_versionState.f l0 a1).bind fun t387 => ((impl_versionState.f l0 a2).bind fun t390 => ((impl_MergeStates.f kj5 t384 t387 t390).bind fun bt393 => (if bt393.2 = 0 then ((impl_withVersion.f kj5 l0 a1 a3 bt393.1).bind fun bt397 => (some (bt397.1, bt397.2))) else (some (([] : List (S104)), bt393.2)))))))) else (some (([] : List (S104)), t381))) = some (r1, r2) := by rw [if_neg (show ¬ (false = true) by decide)] at H; exact H
    clear H
    have H := H1
    clear H1
    by_cases c14 : t381 = 0
    ·
     rw [if_pos c14] at H
     have c14b0 : (t381 == 0) = true := beq_iff_eq.mpr c14
     have c14b1 : (t381 != 0) = false := bne_eq_false_iff_eq.mpr c14
     clear c14
     replace H := Option.bind_eq_some_iff.mp H
     obtain ⟨t383, A150, H⟩ := H
     replace H : ((impl_versionState.f l0 t383).bind fun t384 => ((impl_versionState.f l0 a1).bind fun t387 => ((impl_versionState.f l0 a2).bind fun t390 => ((impl_MergeStates.f kj5 t384 t387 t390).bind fun bt393 => (if bt393.2 = 0 then ((impl_withVersion.f kj5 l0 a1 a3 bt393.1).bind fun bt397 => (some (bt397.1, bt397.2))) else (some (([] : List (S104)), bt393.2))))))) = some (r1, r2) := H
     have A15 := Aside0.mk A150
     clear A150
     replace H := Option.bind_eq_some_iff.mp H
     obtain ⟨t384, A160, H⟩ := H
     replace H : ((impl_versionState.f l0 a1).bind fun t387 => ((impl_versionState.f l0 a2).bind fun t390 => ((impl_MergeStates.f kj5 t384 t387 t390).bind fun bt393 => (if bt393.2 = 0 then ((impl_withVersion.f kj5 l0 a1 a3 bt393.1).bind fun bt397 => (some (bt397.1, bt397.2))) else (some (([] : List (S104)), bt393.2)))))) = some (r1, r2) := H
     have A16 := Aside0.mk A160
     clear A160
     replace H := Option.bind_eq_some_iff.mp H
     obtain ⟨t387, A170, H⟩ := H
     replace H : ((impl_versionState.f l0 a2).bind fun t390 => ((impl_MergeStates.f kj5 t384 t387 t390).bind fun bt393 => (if bt393.2 = 0 then ((impl_withVersion.f kj5 l0 a1 a3 bt393.1).bind fun bt397 => (some (bt397.1, bt397.2))) else (some (([] : List (S104)), bt393.2))))) = some (r1, r2) := H
     have A17 := Aside0.mk A170
     clear A170
     replace H := Option.bind_eq_some_iff.mp H
     obtain ⟨t390, A180, H⟩ := H
     replace H : ((impl_MergeStates.f kj5 t384 t387 t390).bind fun bt393 => (if bt393.2 = 0 then ((impl_withVersion.f kj5 l0 a1 a3 bt393.1).bind fun bt397 => (some (bt397.1, bt397.2))) else (some (([] : List (S104)), bt393.2)))) = some (r1, r2) := H
     have A18 := Aside0.mk A180
     clear A180
     replace H := Option.bind_eq_some_iff.mp H
     obtain ⟨⟨t393, t396⟩, A190, H⟩ := H
     replace H : (if t396 = 0 then ((impl_withVersion.f kj5 l0 a1 a3 t393).bind fun bt397 => (some (bt397.1, bt397.2))) else (some (([] : List (S104)), t396))) = some (r1, r2) := H
     have A19 := Aside0.mk A190
     clear A190
     by_cases c20 : t396 = 0
     ·
      rw [if_pos c20] at H
      have c20b0 : (t396 == 0) = true := beq_iff_eq.mpr c20
      have c20b1 : (t396 != 0) = false := bne_eq_false_iff_eq.mpr c20
      clear c20
      replace H := Option.bind_eq_some_iff.mp H
      obtain ⟨⟨t397, t398⟩, A210, H⟩ := H
      replace H : (some (t397, t398)) = some (r1, r2) := H
      have A21 := Aside0.mk A210
      clear A210
      simp only [Option.some.injEq, Prod.mk.injEq] at H
      obtain ⟨rfl, rfl⟩ := H
      go_wp2_with (first | ((with_reducible refine gate_callee (f := 78) rfl ?_); refine goesL_ (some 34) rfl rfl Try.func78 (by kernel_rfl) rfl #[.slice A0 l0.length c0, .int .i64 a1, .int .i64 a2] rfl mT_ ?_; (with_reducible refine (impl_commonAncestor.calls kj5 _ _ l0 a1 a2 t383 _ ?side1 ?side2 A15.out).mono ?_); (case side1 => exact cA_ (Kd.C_below HR0.out HB.out)); (case side2 => exact HC0.out); rintro e w22 ⟨rfl, hb⟩; refine ⟨_, rfl, ?_⟩; have n0_ := Aside0.mk (below_step bB_ hb); clear HB; have HB := n0_; clear n0_; (try clear hb); (try clear hb2); (try clear hk); (try clear hi)) | ((with_reducible refine gate_callee (f := 77) rfl ?_); refine goesL_ (some 35) rfl rfl Try.func77 (by kernel_rfl) rfl #[.slice A0 l0.length c0, .int .i64 t383] rfl mT_ ?_; (with_reducible refine (impl_versionState.calls (fun k_ => k_ < w.heap.size) _ _ l0 t383 t384 _ ?side1 A16.out).mono ?_); (case side1 => exact Kd.V_mk HC0.out (Kd.F_below (Kd.C_F k104_heap HR0.out) bB_)); rintro e w23 ⟨v385, rfl, ho0, hb⟩; refine ⟨_, rfl, ?_⟩; have n0_ := Aside0.mk (Kd.V_lower (Kd.V_mono (ok' := fun k_ => True) ho0 (fun k_ hk_ => trivial)) (below_size bB_)); have n1_ := Aside0.mk (below_step bB_ hb); clear HB; have HO386 := n0_; have HB := n1_; clear n0_ n1_; (try clear hb); (try clear hb2); (try clear hk); (try clear hi); (try clear ho0)) | ((with_reducible refine gate_callee (f := 77) rfl ?_); refine goesL_ (some 38) rfl rfl Try.func77 (by kernel_rfl) rfl #[.slice A0 l0.length c0, .int .i64 a1] rfl mT_ ?_; (with_reducible refine (impl_versionState.calls (fun k_ => k_ < w.heap.size) _ _ l0 a1 t387 _ ?side1 A17.out).mono ?_); (case side1 => exact Kd.V_mk HC0.out (Kd.F_below (Kd.C_F k104_heap HR0.out) bB_)); rintro e w24 ⟨v388, rfl, ho0, hb⟩; refine ⟨_, rfl, ?_⟩; have n0_ := Aside0.mk (Kd.V_below (vA_ HO386.out) hb); have n1_ := Aside0.mk (Kd.V_lower (Kd.V_mono (ok' := fun k_ => True) ho0 (fun k_ hk_ => trivial)) (below_size bB_)); have n2_ := Aside0.mk (below_step bB_ hb); clear HO386; clear HB; have HO386 := n0_; have HO389 := n1_; have HB := n2_; clear n0_ n1_ n2_; (try clear hb); (try clear hb2); (try clear hk); (try clear hi); (try clear ho0)) | ((with_reducible refine gate_callee (f := 77) rfl ?_); refine goesL_ (some 41) rfl rfl Try.func77 (by kernel_rfl) rfl #[.slice A0 l0.length c0, .int .i64 a2] rfl mT_ ?_; (with_reducible refine (impl_versionState.calls (fun k_ => k_ < w.heap.size) _ _ l0 a2 t390 _ ?side1 A18.out).mono ?_); (case side1 => exact Kd.V_mk HC0.out (Kd.F_below (Kd.C_F k104_heap HR0.out) bB_)); rintro e w25 ⟨v391, rfl, ho0, hb⟩; refine ⟨_, rfl, ?_⟩; have n0_ := Aside0.mk (Kd.V_below (vA_ HO386.out) hb); have n1_ := Aside0.mk (Kd.V_below (vA_ HO389.out) hb); have n2_ := Aside0.mk (Kd.V_lower (Kd.V_mono (ok' := fun k_ => True) ho0 (fun k_ hk_ => trivial)) (below_size bB_)); have n3_ := Aside0.mk (below_step bB_ hb); clear HO386; clear HO389; clear HB; have HO386 := n0_; have HO389 := n1_; have HO392 := n2_; have HB := n3_; clear n0_ n1_ n2_ n3_; (try clear hb); (try clear hb2); (try clear hk); (try clear hi); (try clear ho0); obtain ⟨Ao26, co26, eo26⟩ := Kd.V_slice HO386.out; subst eo26; obtain ⟨Ao27, co27, eo27⟩ := Kd.V_slice HO389.out; subst eo27; obtain ⟨Ao28, co28, eo28⟩ := Kd.V_slice HO392.out; subst eo28) | ((with_reducible refine gate_callee (f := 25) rfl ?_); refine goesL_ (some 42) rfl rfl Try.func25 (by kernel_rfl) rfl #[.slice Ao26 t384.length co26, .slice Ao27 t387.length co27, .slice Ao28 t390.length co28] rfl mT_ ?_; (with_reducible refine (impl_MergeStates.calls kj5 (fun k_ => True) _ _ t384 (fun k_ => True) _ _ t387 (fun k_ => True) _ _ t390 t393 t396 _ ?side1 ?side2 ?side3 A19.out).mono ?_); (case side1 => exact HO386.out); (case side2 => exact HO389.out); (case side3 => exact HO392.out); rintro e w29 ⟨v394, rfl, ho0, hb⟩; refine ⟨_, rfl, ?_⟩; have n0_ := Aside0.mk (Kd.V_elder' (vA_ HO386.out) (Kd.R_base ho0) hb); have n1_ := Aside0.mk (Kd.V_elder' (vA_ HO389.out) (Kd.R_base ho0) hb); have n2_ := Aside0.mk (Kd.V_elder' (vA_ HO392.out) (Kd.R_base ho0) hb); have n3_ := Aside0.mk (Kd.R_lower (Kd.R_mono (ok' := fun k_ => True) ho0 (fun _ hk_ => trivial)) (below_size bB_)); have n4_ := Aside0.mk (below_step bB_ hb); clear HO386; clear HO389; clear HO392; clear HB; have HO386 := n0_; have HO389 := n1_; have HO392 := n2_; have HO395 := n3_; have HB := n4_; clear n0_ n1_ n2_ n3_ n4_; (try clear hb); (try clear hb2); (try clear hk); (try clear hi); (try clear ho0); obtain ⟨Ao30, co30, eo30⟩ := Kd.R_slice HO395.out; subst eo30) | ((with_reducible refine gate_callee (f := 79) rfl ?_); refine goesL_ (some 52) rfl rfl Try.func79 (by kernel_rfl) rfl #[.slice A0 l0.length c0, .int .i64 a1, .string a3, .slice Ao30 t393.length co30] rfl mT_ ?_; (with_reducible refine (impl_withVersion.calls kj5 _ _ l0 a1 a3 _ _ t393 t397 t398 _ ?side1 ?side2 ?side3 ?side4 A21.out).mono ?_); (case side1 => exact cA_ (Kd.C_below HR0.out HB.out)); (case side2 => exact HC0.out); (case side3 => repeat (first | exact (Kd.R_reads' HO395.out).2.2 | (with_reducible refine Kd.C_alloc ?_ _) | (with_reducible refine Kd.C_drewN ?_ _) | (with_reducible refine Kd.C_drew ?_))); (case side4 => exact (Kd.R_reads' HO395.out).2.1); rintro e w31 ⟨v399, rfl, ho0, hb⟩; refine ⟨_, rfl, ?_⟩; have n0_ := Aside0.mk (Kd.V_elder' (vA_ HO386.out) (Kd.S_base ho0) hb); have n1_ := Aside0.mk (Kd.V_elder' (vA_ HO389.out) (Kd.S_base ho0) hb); have n2_ := Aside0.mk (Kd.V_elder' (vA_ HO392.out) (Kd.S_base ho0) hb); have n3_ := Aside0.mk (Kd.R_below (rA_ HO395.out) hb); have n4_ := Aside0.mk (Kd.S_lower (Kd.S_new' ho0 (Kd.R_lt (rA_ HO395.out))) (below_size bB_)); have n5_ := Aside0.mk (below_step bB_ hb); clear HO386; clear HO389; clear HO392; clear HO395; clear HB; have HO386 := n0_; have HO389 := n1_; have HO392 := n2_; have HO395 := n3_; have HO400 := n4_; have HB := n5_; clear n0_ n1_ n2_ n3_ n4_ n5_; (try clear hb); (try clear hb2); (try clear hk); (try clear hi); (try clear ho0)))
      go_ret2
      exact ⟨_, er_, by (with_reducible repeat (first | apply Kd.S_alloc | apply Kd.S_drewN | apply Kd.S_drew)); exact Kd.S_mono HO400.out (fun _ hk => trivial), bB_⟩
     ·
      rw [if_neg c20] at H
      have c20b0 : (t396 == 0) = false := beq_eq_false_iff_ne.mpr c20
      have c20b1 : (t396 != 0) = true := bne_iff_ne.mpr c20
      simp only [Option.some.injEq, Prod.mk.injEq] at H
      obtain ⟨rfl, rfl⟩ := H
      go_wp2_with (first | ((with_reducible refine gate_callee (f := 78) rfl ?_); refine goesL_ (some 34) rfl rfl Try.func78 (by kernel_rfl) rfl #[.slice A0 l0.length c0, .int .i64 a1, .int .i64 a2] rfl mT_ ?_; (with_reducible refine (impl_commonAncestor.calls kj5 _ _ l0 a1 a2 t383 _ ?side1 ?side2 A15.out).mono ?_); (case side1 => exact cA_ (Kd.C_below HR0.out HB.out)); (case side2 => exact HC0.out); rintro e w32 ⟨rfl, hb⟩; refine ⟨_, rfl, ?_⟩; have n0_ := Aside0.mk (below_step bB_ hb); clear HB; have HB := n0_; clear n0_; (try clear hb); (try clear hb2); (try clear hk); (try clear hi)) | ((with_reducible refine gate_callee (f := 77) rfl ?_); refine goesL_ (some 35) rfl rfl Try.func77 (by kernel_rfl) rfl #[.slice A0 l0.length c0, .int .i64 t383] rfl mT_ ?_; (with_reducible refine (impl_versionState.calls (fun k_ => k_ < w.heap.size) _ _ l0 t383 t384 _ ?side1 A16.out).mono ?_); (case side1 => exact Kd.V_mk HC0.out (Kd.F_below (Kd.C_F k104_heap HR0.out) bB_)); rintro e w33 ⟨v385, rfl, ho0, hb⟩; refine ⟨_, rfl, ?_⟩; have n0_ := Aside0.mk (Kd.V_lower (Kd.V_mono (ok' := fun k_ => True) ho0 (fun k_ hk_ => trivial)) (below_size bB_)); have n1_ := Aside0.mk (below_step bB_ hb); clear HB; have HO386 := n0_; have HB := n1_; clear n0_ n1_; (try clear hb); (try clear hb2); (try clear hk); (try clear hi); (try clear ho0)) | ((with_reducible refine gate_callee (f := 77) rfl ?_); refine goesL_ (some 38) rfl rfl Try.func77 (by kernel_rfl) rfl #[.slice A0 l0.length c0, .int .i64 a1] rfl mT_ ?_; (with_reducible refine (impl_versionState.calls (fun k_ => k_ < w.heap.size) _ _ l0 a1 t387 _ ?side1 A17.out).mono ?_); (case side1 => exact Kd.V_mk HC0.out (Kd.F_below (Kd.C_F k104_heap HR0.out) bB_)); rintro e w34 ⟨v388, rfl, ho0, hb⟩; refine ⟨_, rfl, ?_⟩; have n0_ := Aside0.mk (Kd.V_below (vA_ HO386.out) hb); have n1_ := Aside0.mk (Kd.V_lower (Kd.V_mono (ok' := fun k_ => True) ho0 (fun k_ hk_ => trivial)) (below_size bB_)); have n2_ := Aside0.mk (below_step bB_ hb); clear HO386; clear HB; have HO386 := n0_; have HO389 := n1_; have HB := n2_; clear n0_ n1_ n2_; (try clear hb); (try clear hb2); (try clear hk); (try clear hi); (try clear ho0)) | ((with_reducible refine gate_callee (f := 77) rfl ?_); refine goesL_ (some 41) rfl rfl Try.func77 (by kernel_rfl) rfl #[.slice A0 l0.length c0, .int .i64 a2] rfl mT_ ?_; (with_reducible refine (impl_versionState.calls (fun k_ => k_ < w.heap.size) _ _ l0 a2 t390 _ ?side1 A18.out).mono ?_); (case side1 => exact Kd.V_mk HC0.out (Kd.F_below (Kd.C_F k104_heap HR0.out) bB_)); rintro e w35 ⟨v391, rfl, ho0, hb⟩; refine ⟨_, rfl, ?_⟩; have n0_ := Aside0.mk (Kd.V_below (vA_ HO386.out) hb); have n1_ := Aside0.mk (Kd.V_below (vA_ HO389.out) hb); have n2_ := Aside0.mk (Kd.V_lower (Kd.V_mono (ok' := fun k_ => True) ho0 (fun k_ hk_ => trivial)) (below_size bB_)); have n3_ := Aside0.mk (below_step bB_ hb); clear HO386; clear HO389; clear HB; have HO386 := n0_; have HO389 := n1_; have HO392 := n2_; have HB := n3_; clear n0_ n1_ n2_ n3_; (try clear hb); (try clear hb2); (try clear hk); (try clear hi); (try clear ho0); obtain ⟨Ao36, co36, eo36⟩ := Kd.V_slice HO386.out; subst eo36; obtain ⟨Ao37, co37, eo37⟩ := Kd.V_slice HO389.out; subst eo37; obtain ⟨Ao38, co38, eo38⟩ := Kd.V_slice HO392.out; subst eo38) | ((with_reducible refine gate_callee (f := 25) rfl ?_); refine goesL_ (some 42) rfl rfl Try.func25 (by kernel_rfl) rfl #[.slice Ao36 t384.length co36, .slice Ao37 t387.length co37, .slice Ao38 t390.length co38] rfl mT_ ?_; (with_reducible refine (impl_MergeStates.calls kj5 (fun k_ => True) _ _ t384 (fun k_ => True) _ _ t387 (fun k_ => True) _ _ t390 t393 t396 _ ?side1 ?side2 ?side3 A19.out).mono ?_); (case side1 => exact HO386.out); (case side2 => exact HO389.out); (case side3 => exact HO392.out); rintro e w39 ⟨v394, rfl, ho0, hb⟩; refine ⟨_, rfl, ?_⟩; have n0_ := Aside0.mk (Kd.V_elder' (vA_ HO386.out) (Kd.R_base ho0) hb); have n1_ := Aside0.mk (Kd.V_elder' (vA_ HO389.out) (Kd.R_base ho0) hb); have n2_ := Aside0.mk (Kd.V_elder' (vA_ HO392.out) (Kd.R_base ho0) hb); have n3_ := Aside0.mk (Kd.R_lower (Kd.R_mono (ok' := fun k_ => True) ho0 (fun _ hk_ => trivial)) (below_size bB_)); have n4_ := Aside0.mk (below_step bB_ hb); clear HO386; clear HO389; clear HO392; clear HB; have HO386 := n0_; have HO389 := n1_; have HO392 := n2_; have HO395 := n3_; have HB := n4_; clear n0_ n1_ n2_ n3_ n4_; (try clear hb); (try clear hb2); (try clear hk); (try clear hi); (try clear ho0)))
      go_ret2
      exact ⟨_, er_, by first | exact Kd.S_nil _ _ _ _ _ | exact Kd.N_nil _ _ _ _ _ | exact Kd.V_nil _ _ _ _ _ | exact Kd.Q_nil _ _ _ _ _ | exact Kd.R_nil _ _ _ _ _, bB_⟩
    ·
     rw [if_neg c14] at H
     have c14b0 : (t381 == 0) = false := beq_eq_false_iff_ne.mpr c14
     have c14b1 : (t381 != 0) = true := bne_iff_ne.mpr c14
     simp only [Option.some.injEq, Prod.mk.injEq] at H
     obtain ⟨rfl, rfl⟩ := H
     go_wp2
     go_ret2
     exact ⟨_, er_, by first | exact Kd.S_nil _ _ _ _ _ | exact Kd.N_nil _ _ _ _ _ | exact Kd.V_nil _ _ _ _ _ | exact Kd.Q_nil _ _ _ _ _ | exact Kd.R_nil _ _ _ _ _, bB_⟩

/-! ### laws_eqSetting: function 59 -/
def laws_eqSetting.f (a0_0 : ByteArray) (a0_1 : Int) (a1_0 : ByteArray) (a1_1 : Int) : Option (Bool) := if a0_0.toList = a1_0.toList then (if a0_1 = a1_1 then (some true) else (some false)) else (some false)
set_option maxHeartbeats 8000000 in
set_option maxRecDepth 100000 in
theorem laws_eqSetting.calls (a0_0 : ByteArray) (a0_1 : Int) (a1_0 : ByteArray) (a1_1 : Int) (r : Bool) (w : World) (h : laws_eqSetting.f a0_0 a0_1 a1_0 a1_1 = some r) :
  Calls Try.prog 59 #[.agg #[.string a0_0, .int .i64 a0_1], .agg #[.string a1_0, .int .i64 a1_1]] w fun e w' => e = .returned (.bool r) ∧ Below w.heap.size w w' := by
 have hu71 := Try.underlying71
 have HB := Aside0.mk (Below.refl w.heap.size w)
 have H : (if a0_0.toList = a1_0.toList then (if a0_1 = a1_1 then (some true) else (some false)) else (some false)) = some r := h
 clear h
 by_cases c3 : a0_0.toList = a1_0.toList
 ·
  rw [if_pos c3] at H
  have c3b0 : (a0_0.toList == a1_0.toList) = true := beq_iff_eq.mpr c3
  have c3b1 : (a0_0.toList != a1_0.toList) = false := bne_eq_false_iff_eq.mpr c3
  clear c3
  by_cases c4 : a0_1 = a1_1
  ·
   rw [if_pos c4] at H
   have c4b0 : (a0_1 == a1_1) = true := beq_iff_eq.mpr c4
   have c4b1 : (a0_1 != a1_1) = false := bne_eq_false_iff_eq.mpr c4
   clear c4
   obtain rfl := Option.some.inj H
   go_enter Try.func59, Try.ntmps59
   go_wp2_with (first | ((with_reducible refine gate_dst (N := 2) rfl ?_); refine box_event ?hg (N := 2) ?hd (cs := #[.string a0_0, .int .i64 a0_1]) (t := 71) ?hr ?_; (case hd => rfl); (case hg => rfl); (case hr => first | (go_simp; done) | (go_simp; rfl)); intro gb401 hg w5 hbox hb; have n0_ := Aside0.mk (below_step bB_ hb); have n1_ := Aside0.mk (hbox); have n2_ := Aside0.mk ((by rw [hg]; exact (below_size bB_) : w.heap.size ≤ gb401)); have n3_ := Aside0.mk ((by rw [hg]; exact (below_size bB_) : w.heap.size ≤ gb401)); clear HB; have HB := n0_; have BK401 := n1_; have GW401 := n2_; have GE401 := n3_; clear n0_ n1_ n2_ n3_; clear hb hbox hg) | ((with_reducible refine gate_dst (N := 3) rfl ?_); refine box_event ?hg (N := 3) ?hd (cs := #[.string a1_0, .int .i64 a1_1]) (t := 71) ?hr ?_; (case hd => rfl); (case hg => rfl); (case hr => first | (go_simp; done) | (go_simp; rfl)); intro gb402 hg w6 hbox hb; have n0_ := Aside0.mk (blk_below (g := gb401) (o := .cells #[.string a0_0, .int .i64 a0_1] 71 (0, 0)) (bK_ BK401.out) hb); have n1_ := Aside0.mk (below_step (bC_ GE401.out) hb); have n2_ := Aside0.mk (hbox); have n3_ := Aside0.mk ((by rw [hg]; exact (below_size (bC_ GE401.out)) : w.heap.size ≤ gb402)); have n4_ := Aside0.mk ((by rw [hg]; exact (below_size (bC_ GE401.out)) : w.heap.size ≤ gb402)); have n5_ := Aside0.mk ((by rw [hg]; exact Nat.ne_of_lt (blk_lt (g := gb401) (o := .cells #[.string a0_0, .int .i64 a0_1] 71 (0, 0)) (bK_ BK401.out)) : gb401 ≠ gb402)); have n6_ := Aside0.mk ((by rw [hg]; exact Nat.ne_of_gt (blk_lt (g := gb401) (o := .cells #[.string a0_0, .int .i64 a0_1] 71 (0, 0)) (bK_ BK401.out)) : gb402 ≠ gb401)); clear BK401; clear HB; have BK401 := n0_; have HB := n1_; have BK402 := n2_; have GW402 := n3_; have GE402 := n4_; have NB401_402 := n5_; have NB402_401 := n6_; clear n0_ n1_ n2_ n3_ n4_ n5_ n6_; clear hb hbox hg; have hnb7 := NB401_402.out; have hnc7 := NB402_401.out; have hcz8_0 : w6.cell? ⟨gb401, 0, none⟩ = some (.string a0_0) := (blk_cell BK401.out 0).trans rfl; have hcz8_1 : w6.cell? ⟨gb401, 1, none⟩ = some (.int .i64 a0_1) := (blk_cell BK401.out 1).trans rfl; have hfz8_0 := blk_frozen BK401.out 0; have hfz8_1 := blk_frozen BK401.out 1; have hcz9_0 : w6.cell? ⟨gb402, 0, none⟩ = some (.string a1_0) := (blk_cell BK402.out 0).trans rfl; have hcz9_1 : w6.cell? ⟨gb402, 1, none⟩ = some (.int .i64 a1_1) := (blk_cell BK402.out 1).trans rfl; have hfz9_0 := blk_frozen BK402.out 0; have hfz9_1 := blk_frozen BK402.out 1))
   go_ret
   exact ⟨er_, bD_ GE401.out GE402.out⟩
  ·
   rw [if_neg c4] at H
   have c4b0 : (a0_1 == a1_1) = false := beq_eq_false_iff_ne.mpr c4
   have c4b1 : (a0_1 != a1_1) = true := bne_iff_ne.mpr c4
   obtain rfl := Option.some.inj H
   go_enter Try.func59, Try.ntmps59
   go_wp2_with (first | ((with_reducible refine gate_dst (N := 2) rfl ?_); refine box_event ?hg (N := 2) ?hd (cs := #[.string a0_0, .int .i64 a0_1]) (t := 71) ?hr ?_; (case hd => rfl); (case hg => rfl); (case hr => first | (go_simp; done) | (go_simp; rfl)); intro gb401 hg w10 hbox hb; have n0_ := Aside0.mk (below_step bB_ hb); have n1_ := Aside0.mk (hbox); have n2_ := Aside0.mk ((by rw [hg]; exact (below_size bB_) : w.heap.size ≤ gb401)); have n3_ := Aside0.mk ((by rw [hg]; exact (below_size bB_) : w.heap.size ≤ gb401)); clear HB; have HB := n0_; have BK401 := n1_; have GW401 := n2_; have GE401 := n3_; clear n0_ n1_ n2_ n3_; clear hb hbox hg) | ((with_reducible refine gate_dst (N := 3) rfl ?_); refine box_event ?hg (N := 3) ?hd (cs := #[.string a1_0, .int .i64 a1_1]) (t := 71) ?hr ?_; (case hd => rfl); (case hg => rfl); (case hr => first | (go_simp; done) | (go_simp; rfl)); intro gb402 hg w11 hbox hb; have n0_ := Aside0.mk (blk_below (g := gb401) (o := .cells #[.string a0_0, .int .i64 a0_1] 71 (0, 0)) (bK_ BK401.out) hb); have n1_ := Aside0.mk (below_step (bC_ GE401.out) hb); have n2_ := Aside0.mk (hbox); have n3_ := Aside0.mk ((by rw [hg]; exact (below_size (bC_ GE401.out)) : w.heap.size ≤ gb402)); have n4_ := Aside0.mk ((by rw [hg]; exact (below_size (bC_ GE401.out)) : w.heap.size ≤ gb402)); have n5_ := Aside0.mk ((by rw [hg]; exact Nat.ne_of_lt (blk_lt (g := gb401) (o := .cells #[.string a0_0, .int .i64 a0_1] 71 (0, 0)) (bK_ BK401.out)) : gb401 ≠ gb402)); have n6_ := Aside0.mk ((by rw [hg]; exact Nat.ne_of_gt (blk_lt (g := gb401) (o := .cells #[.string a0_0, .int .i64 a0_1] 71 (0, 0)) (bK_ BK401.out)) : gb402 ≠ gb401)); clear BK401; clear HB; have BK401 := n0_; have HB := n1_; have BK402 := n2_; have GW402 := n3_; have GE402 := n4_; have NB401_402 := n5_; have NB402_401 := n6_; clear n0_ n1_ n2_ n3_ n4_ n5_ n6_; clear hb hbox hg; have hnb12 := NB401_402.out; have hnc12 := NB402_401.out; have hcz13_0 : w11.cell? ⟨gb401, 0, none⟩ = some (.string a0_0) := (blk_cell BK401.out 0).trans rfl; have hcz13_1 : w11.cell? ⟨gb401, 1, none⟩ = some (.int .i64 a0_1) := (blk_cell BK401.out 1).trans rfl; have hfz13_0 := blk_frozen BK401.out 0; have hfz13_1 := blk_frozen BK401.out 1; have hcz14_0 : w11.cell? ⟨gb402, 0, none⟩ = some (.string a1_0) := (blk_cell BK402.out 0).trans rfl; have hcz14_1 : w11.cell? ⟨gb402, 1, none⟩ = some (.int .i64 a1_1) := (blk_cell BK402.out 1).trans rfl; have hfz14_0 := blk_frozen BK402.out 0; have hfz14_1 := blk_frozen BK402.out 1))
   go_ret
   exact ⟨er_, bD_ GE401.out GE402.out⟩
 ·
  rw [if_neg c3] at H
  have c3b0 : (a0_0.toList == a1_0.toList) = false := beq_eq_false_iff_ne.mpr c3
  have c3b1 : (a0_0.toList != a1_0.toList) = true := bne_iff_ne.mpr c3
  obtain rfl := Option.some.inj H
  go_enter Try.func59, Try.ntmps59
  go_wp2_with (first | ((with_reducible refine gate_dst (N := 2) rfl ?_); refine box_event ?hg (N := 2) ?hd (cs := #[.string a0_0, .int .i64 a0_1]) (t := 71) ?hr ?_; (case hd => rfl); (case hg => rfl); (case hr => first | (go_simp; done) | (go_simp; rfl)); intro gb401 hg w15 hbox hb; have n0_ := Aside0.mk (below_step bB_ hb); have n1_ := Aside0.mk (hbox); have n2_ := Aside0.mk ((by rw [hg]; exact (below_size bB_) : w.heap.size ≤ gb401)); have n3_ := Aside0.mk ((by rw [hg]; exact (below_size bB_) : w.heap.size ≤ gb401)); clear HB; have HB := n0_; have BK401 := n1_; have GW401 := n2_; have GE401 := n3_; clear n0_ n1_ n2_ n3_; clear hb hbox hg) | ((with_reducible refine gate_dst (N := 3) rfl ?_); refine box_event ?hg (N := 3) ?hd (cs := #[.string a1_0, .int .i64 a1_1]) (t := 71) ?hr ?_; (case hd => rfl); (case hg => rfl); (case hr => first | (go_simp; done) | (go_simp; rfl)); intro gb402 hg w16 hbox hb; have n0_ := Aside0.mk (blk_below (g := gb401) (o := .cells #[.string a0_0, .int .i64 a0_1] 71 (0, 0)) (bK_ BK401.out) hb); have n1_ := Aside0.mk (below_step (bC_ GE401.out) hb); have n2_ := Aside0.mk (hbox); have n3_ := Aside0.mk ((by rw [hg]; exact (below_size (bC_ GE401.out)) : w.heap.size ≤ gb402)); have n4_ := Aside0.mk ((by rw [hg]; exact (below_size (bC_ GE401.out)) : w.heap.size ≤ gb402)); have n5_ := Aside0.mk ((by rw [hg]; exact Nat.ne_of_lt (blk_lt (g := gb401) (o := .cells #[.string a0_0, .int .i64 a0_1] 71 (0, 0)) (bK_ BK401.out)) : gb401 ≠ gb402)); have n6_ := Aside0.mk ((by rw [hg]; exact Nat.ne_of_gt (blk_lt (g := gb401) (o := .cells #[.string a0_0, .int .i64 a0_1] 71 (0, 0)) (bK_ BK401.out)) : gb402 ≠ gb401)); clear BK401; clear HB; have BK401 := n0_; have HB := n1_; have BK402 := n2_; have GW402 := n3_; have GE402 := n4_; have NB401_402 := n5_; have NB402_401 := n6_; clear n0_ n1_ n2_ n3_ n4_ n5_ n6_; clear hb hbox hg; have hnb17 := NB401_402.out; have hnc17 := NB402_401.out; have hcz18_0 : w16.cell? ⟨gb401, 0, none⟩ = some (.string a0_0) := (blk_cell BK401.out 0).trans rfl; have hcz18_1 : w16.cell? ⟨gb401, 1, none⟩ = some (.int .i64 a0_1) := (blk_cell BK401.out 1).trans rfl; have hfz18_0 := blk_frozen BK401.out 0; have hfz18_1 := blk_frozen BK401.out 1; have hcz19_0 : w16.cell? ⟨gb402, 0, none⟩ = some (.string a1_0) := (blk_cell BK402.out 0).trans rfl; have hcz19_1 : w16.cell? ⟨gb402, 1, none⟩ = some (.int .i64 a1_1) := (blk_cell BK402.out 1).trans rfl; have hfz19_0 := blk_frozen BK402.out 0; have hfz19_1 := blk_frozen BK402.out 1))
  go_ret
  exact ⟨er_, bD_ GE401.out GE402.out⟩

end Go.Proofs.Ytenjhbkpcelidaa.PFnExactMergeVersions
