-- PRINTED by print.py (a twelfth state) out of the translation. Not trusted: Lean checks it.
import Derived.Test.YtenjhbkpcelidaaPFnMergesx0
import Derived.Test.YtenjhbkpcelidaaPFnMergesx8
import Derived.Test.YtenjhbkpcelidaaPFnMergesx9
namespace Go.Proofs.Ytenjhbkpcelidaa.PFnMerges
open Go.RowKit Go.Proofs.YtenjhbkpcelidaaW.PrintWords Go.Proofs.YtenjhbkpcelidaaW.PrintLast Go.Proofs.YtenjhbkpcelidaaW.PrintMore
attribute [local go_sem] max2_int min2_int max_two min_two max_three min_three max_four min_four   -- for this text's walks alone
set_option linter.unusedVariables false
set_option linter.unusedSimpArgs false

/-! ### slices_Contains_int64_int64: function 108 -/
def slices_Contains_int64_int64.f (k : Nat) (l0 : List Int) (a1 : Int) : Option (Bool) := (slices_Index_int64_int64.f k l0 a1).bind fun t160 => (some (decide (t160 ≥ 0)))
theorem slices_Contains_int64_int64.mono : ∀ a0 a1 k, LeO (slices_Contains_int64_int64.f k a0 a1) (slices_Contains_int64_int64.f (k + 1) a0 a1) := by
 intro a0 a1 k
 unfold slices_Contains_int64_int64.f
 repeat' first
   | (with_reducible exact slices_Index_int64_int64.mono _ _ _)
   | (with_reducible exact LeO.refl _)
   | (with_reducible exact LeO.none _)
   | (with_reducible refine LeO.ite ?_ ?_)
   | (with_reducible refine LeO.bind ?_ (fun _ => ?_))
   | exact slices_Index_int64_int64.mono _ _ _
   | exact LeO.none _
   | refine LeO.ite ?_ ?_
   | refine LeO.bind ?_ (fun _ => ?_)
set_option maxHeartbeats 8000000 in
set_option maxRecDepth 100000 in
theorem slices_Contains_int64_int64.calls (k : Nat) (A0 : Option Addr) (c0 : Nat) (l0 : List Int) (a1 : Int) (r : Bool) (w : World) (hr0 : Kd.C (Kd.int .i64) w A0 l0.length l0) (hc0 : l0.length ≤ c0) (h : slices_Contains_int64_int64.f k l0 a1 = some r) :
  Calls Try.prog 108 #[.slice A0 l0.length c0, .int .i64 a1] w fun e w' => e = .returned (.bool r) ∧ Drawn0 w w' := by
 have HR0 := Aside0.mk hr0
 have HC0 := Aside0.mk hc0
 clear hr0 hc0
 have H : ((slices_Index_int64_int64.f k l0 a1).bind fun t160 => (some (decide (t160 ≥ 0)))) = some r := h
 clear h
 replace H := Option.bind_eq_some_iff.mp H
 obtain ⟨t160, A30, H⟩ := H
 replace H : (some (decide (t160 ≥ 0))) = some r := H
 have A3 := Aside0.mk A30
 clear A30
 obtain rfl := Option.some.inj H
 go_enter Try.func108, Try.ntmps108
 go_wp2_with (first | ((with_reducible refine gate_callee (f := 122) rfl ?_); refine goesL_ (some 7) rfl rfl Try.func122 (by kernel_rfl) rfl #[.slice A0 l0.length c0, .int .i64 a1] rfl mT_ ?_; (with_reducible refine (slices_Index_int64_int64.calls k _ _ l0 a1 t160 _ ?side1 ?side2 A3.out).mono ?_); (case side1 => exact cA_ HR0.out); (case side2 => exact HC0.out); rintro e w' ⟨rfl, ⟨nd, rfl⟩⟩; refine ⟨_, rfl, ?_⟩))
 go_ret
 exact ⟨rs_, dr_⟩

/-! ### impl_commonAncestor: function 78 -/
def impl_commonAncestor.l0 : Nat → List Int → List Int → Int → Int → Option (Int)
 | 0, _, _, _, _ => none
 | k + 1, x7, x15, x16, x17 => if x17 < x16 then (if 0 ≤ x17 then (if x17 < (x15.length : Int) then ((slices_Contains_int64_int64.f k x7 (rd x15 x17)).bind fun t168 => (if t168 = true then (some (rd x15 x17)) else (impl_commonAncestor.l0 k x7 x15 x16 (wrap64 (x17 + 1))))) else (none)) else (none)) else (some 0)
def impl_commonAncestor.f (k : Nat) (l0 : List (S104)) (a1 : Int) (a2 : Int) : Option (Int) := (impl_lineOf.f k l0 a2).bind fun t161 => ((impl_lineOf.f k l0 a1).bind fun t164 => (impl_commonAncestor.l0 k t161 t164 (t164.length : Int) 0))
theorem impl_commonAncestor.mono_l : ∀ k, (∀ y0 y1 y2 y3, LeO (impl_commonAncestor.l0 k y0 y1 y2 y3) (impl_commonAncestor.l0 (k + 1) y0 y1 y2 y3))
 | 0 => fun _ _ _ _ r h => by simp [impl_commonAncestor.l0] at h
 | k + 1 => by
  have ih0 := impl_commonAncestor.mono_l k
  ·
   intro y0 y1 y2 y3
   unfold impl_commonAncestor.l0
   repeat' first
   | (with_reducible exact ih0 _ _ _ _)
   | (with_reducible exact impl_lineOf.mono _ _ _)
   | (with_reducible exact slices_Contains_int64_int64.mono _ _ _)
   | (with_reducible exact LeO.refl _)
   | (with_reducible exact LeO.none _)
   | (with_reducible refine LeO.ite ?_ ?_)
   | (with_reducible refine LeO.bind ?_ (fun _ => ?_))
   | exact ih0 _ _ _ _
   | exact impl_lineOf.mono _ _ _
   | exact slices_Contains_int64_int64.mono _ _ _
   | exact LeO.none _
   | refine LeO.ite ?_ ?_
   | refine LeO.bind ?_ (fun _ => ?_)
theorem impl_commonAncestor.mono : ∀ a0 a1 a2 k, LeO (impl_commonAncestor.f k a0 a1 a2) (impl_commonAncestor.f (k + 1) a0 a1 a2) := by
 intro a0 a1 a2 k
 have ih0 := impl_commonAncestor.mono_l k
 unfold impl_commonAncestor.f
 repeat' first
   | (with_reducible exact ih0 _ _ _ _)
   | (with_reducible exact impl_lineOf.mono _ _ _)
   | (with_reducible exact slices_Contains_int64_int64.mono _ _ _)
   | (with_reducible exact LeO.refl _)
   | (with_reducible exact LeO.none _)
   | (with_reducible refine LeO.ite ?_ ?_)
   | (with_reducible refine LeO.bind ?_ (fun _ => ?_))
   | exact ih0 _ _ _ _
   | exact impl_lineOf.mono _ _ _
   | exact slices_Contains_int64_int64.mono _ _ _
   | exact LeO.none _
   | refine LeO.ite ?_ ?_
   | refine LeO.bind ?_ (fun _ => ?_)
set_option maxHeartbeats 8000000 in
set_option maxRecDepth 100000 in
theorem impl_commonAncestor.calls (k : Nat) (A0 : Option Addr) (c0 : Nat) (l0 : List (S104)) (a1 : Int) (a2 : Int) (r : Int) (w : World) (hr0 : Kd.C k104 w A0 l0.length l0) (hc0 : l0.length ≤ c0) (h : impl_commonAncestor.f k l0 a1 a2 = some r) :
  Calls Try.prog 78 #[.slice A0 l0.length c0, .int .i64 a1, .int .i64 a2] w fun e w' => e = .returned (.int .i64 r) ∧ Below w.heap.size w w' := by
 have HR0 := Aside0.mk hr0
 have HC0 := Aside0.mk hc0
 clear hr0 hc0
 have HB := Aside0.mk (Below.refl w.heap.size w)
 have H : ((impl_lineOf.f k l0 a2).bind fun t161 => ((impl_lineOf.f k l0 a1).bind fun t164 => (impl_commonAncestor.l0 k t161 t164 (t164.length : Int) 0))) = some r := h
 clear h
 replace H := Option.bind_eq_some_iff.mp H
 obtain ⟨t161, A40, H⟩ := H
 replace H : ((impl_lineOf.f k l0 a1).bind fun t164 => (impl_commonAncestor.l0 k t161 t164 (t164.length : Int) 0)) = some r := H
 have A4 := Aside0.mk A40
 clear A40
 replace H := Option.bind_eq_some_iff.mp H
 obtain ⟨t164, A50, H⟩ := H
 replace H : (impl_commonAncestor.l0 k t161 t164 (t164.length : Int) 0) = some r := H
 have A5 := Aside0.mk A50
 clear A50
 have H' := Aside0.mk H
 clear H
 go_enter Try.func78, Try.ntmps78
 go_wp2_with (first | ((with_reducible refine gate_callee (f := 107) rfl ?_); refine goesL_ (some 12) rfl rfl Try.func107 (by kernel_rfl) rfl #[.slice A0 l0.length c0, .int .i64 a2] rfl mT_ ?_; (with_reducible refine (impl_lineOf.calls k _ _ l0 a2 t161 _ ?side1 ?side2 A4.out).mono ?_); (case side1 => exact cA_ HR0.out); (case side2 => exact HC0.out); rintro e w6 ⟨v162, rfl, ho0, hb⟩; refine ⟨_, rfl, ?_⟩; have n0_ := Aside0.mk (Kd.R_lower ho0 (below_size bB_)); have n1_ := Aside0.mk (below_step bB_ hb); clear HB; have HO163 := n0_; have HB := n1_; clear n0_ n1_; (try clear hb); (try clear hb2); (try clear hk); (try clear hi); (try clear ho0)) | ((with_reducible refine gate_callee (f := 107) rfl ?_); refine goesL_ (some 15) rfl rfl Try.func107 (by kernel_rfl) rfl #[.slice A0 l0.length c0, .int .i64 a1] rfl mT_ ?_; (with_reducible refine (impl_lineOf.calls k _ _ l0 a1 t164 _ ?side1 ?side2 A5.out).mono ?_); (case side1 => exact cA_ (Kd.C_below HR0.out HB.out)); (case side2 => exact HC0.out); rintro e w7 ⟨v165, rfl, ho0, hb⟩; refine ⟨_, rfl, ?_⟩; have n0_ := Aside0.mk (Kd.R_elder' (rA_ HO163.out) (Kd.R_base ho0) hb); have n1_ := Aside0.mk (Kd.R_lower (Kd.R_new' ho0 (Kd.R_lt (rA_ HO163.out))) (below_size bB_)); have n2_ := Aside0.mk (below_step bB_ hb); clear HO163; clear HB; have HO163 := n0_; have HO166 := n1_; have HB := n2_; clear n0_ n1_ n2_; (try clear hb); (try clear hb2); (try clear hk); (try clear hi); (try clear ho0); obtain ⟨Ao8, co8, eo8⟩ := Kd.R_slice HO166.out; subst eo8))
 go_loopg [17] k (fun kq v17 w' => ∃ (x17_1 : Int), v17 = .int .i64 x17_1 ∧ Aside0 (impl_commonAncestor.l0 kq t161 t164 (t164.length : Int) x17_1 = some r) ∧ Aside0 (kq ≤ k) ∧ Aside0 (Kd.R (Kd.int .i64) 2 w' w.heap.size (fun k_ => some k_ ≠ ((.slice Ao8 t164.length co8) : Value).ownBlock) v162 t161) ∧ Aside0 (Kd.R (Kd.int .i64) 2 w' w.heap.size (fun k_ => some k_ ≠ (v162 : Value).ownBlock) (.slice Ao8 t164.length co8) t164) ∧ Aside0 (Below w.heap.size w w'))
 case atStart => exact ⟨(0), rs_, H', ⟨Nat.le_refl _⟩, ⟨by (with_reducible repeat (first | apply Kd.R_alloc | apply Kd.R_drewN | apply Kd.R_drew)); exact Kd.R_mono HO163.out (fun _ hk => hk.2)⟩, ⟨by (with_reducible repeat (first | apply Kd.R_alloc | apply Kd.R_drewN | apply Kd.R_drew)); exact Kd.R_mono HO166.out (fun _ hk => hk.2)⟩, ⟨bB_⟩⟩
 case round =>
  clear H'
  try clear c1
  try clear p2
  try clear c7
  obtain ⟨x17_1, rfl, HA, HK1, HO_7, HO_15, HB⟩ := hrel
  cases gk with
  | zero => exact absurd HA.out (by simp [impl_commonAncestor.l0])
  | succ k1 =>
   have H := HA.out
   clear HA
   simp only [impl_commonAncestor.l0] at H
   by_cases c9 : x17_1 < (t164.length : Int)
   ·
    rw [if_pos c9] at H
    have c9b0 : decide (x17_1 < (t164.length : Int)) = true := decide_eq_true c9
    clear c9
    by_cases c10 : 0 ≤ x17_1
    ·
     rw [if_pos c10] at H
     have c10b0 : decide (0 ≤ x17_1) = true := decide_eq_true c10
     clear c10
     by_cases c11 : x17_1 < (t164.length : Int)
     ·
      rw [if_pos c11] at H
      have c11b0 : decide (x17_1 < (t164.length : Int)) = true := decide_eq_true c11
      clear c11
      replace H := Option.bind_eq_some_iff.mp H
      obtain ⟨t168, A120, H⟩ := H
      replace H : (if t168 = true then (some (rd t164 x17_1)) else (impl_commonAncestor.l0 k1 t161 t164 (t164.length : Int) (wrap64 (x17_1 + 1)))) = some r := H
      have A12 := Aside0.mk A120
      clear A120
      by_cases c13 : t168 = true
      ·
       subst c13
       have H1 : (some (rd t164 x17_1)) = some r := by rw [if_pos rfl] at H; exact H
       clear H
       have H := H1
       clear H1
       obtain rfl := Option.some.inj H
       have p167 : 0 ≤ (x17_1 : Int) := of_decide_eq_true as_
       have q167 : x17_1 < (t164.length : Int) := of_decide_eq_true as_
       obtain ⟨ad167, e167, hx167_0⟩ := Kd.at_int (Kd.R_reads' HO_15.out).2.2 x17_1 p167 q167
       cases e167
       replace p167 := eq_true p167
       replace q167 := eq_true q167
       obtain ⟨Ao14, co14, eo14⟩ := Kd.R_slice HO_7.out
       subst eo14
       go_wp2_with (first | ((with_reducible refine gate_callee (f := 108) rfl ?_); refine goesL_ (some 23) rfl rfl Try.func108 (by kernel_rfl) rfl #[.slice Ao14 t161.length co14, .int .i64 (rd t164 x17_1)] rfl mT_ ?_; (with_reducible refine (slices_Contains_int64_int64.calls k1 _ _ t161 (rd t164 x17_1) true _ ?side1 ?side2 A12.out).mono ?_); (case side1 => repeat (first | exact (Kd.R_reads' HO_7.out).2.2 | (with_reducible refine Kd.C_alloc ?_ _) | (with_reducible refine Kd.C_drewN ?_ _) | (with_reducible refine Kd.C_drew ?_))); (case side2 => exact (Kd.R_reads' HO_7.out).2.1); rintro e w' ⟨rfl, ⟨nd, rfl⟩⟩; refine ⟨_, rfl, ?_⟩))
       go_ret
       exact ⟨er_, bB_⟩
      ·
       replace c13 := Bool.eq_false_iff.mpr c13
       subst c13
       have H1 : (impl_commonAncestor.l0 k1 t161 t164 (t164.length : Int) (wrap64 (x17_1 + 1))) = some r := by rw [if_neg (show ¬ (false = true) by decide)] at H; exact H
       clear H
       have H := H1
       clear H1
       have H' := Aside0.mk H
       clear H
       have p167 : 0 ≤ (x17_1 : Int) := of_decide_eq_true as_
       have q167 : x17_1 < (t164.length : Int) := of_decide_eq_true as_
       obtain ⟨ad167, e167, hx167_0⟩ := Kd.at_int (Kd.R_reads' HO_15.out).2.2 x17_1 p167 q167
       cases e167
       replace p167 := eq_true p167
       replace q167 := eq_true q167
       obtain ⟨Ao15, co15, eo15⟩ := Kd.R_slice HO_7.out
       subst eo15
       go_wp2_with (first | ((with_reducible refine gate_callee (f := 108) rfl ?_); refine goesL_ (some 23) rfl rfl Try.func108 (by kernel_rfl) rfl #[.slice Ao15 t161.length co15, .int .i64 (rd t164 x17_1)] rfl mT_ ?_; (with_reducible refine (slices_Contains_int64_int64.calls k1 _ _ t161 (rd t164 x17_1) false _ ?side1 ?side2 A12.out).mono ?_); (case side1 => repeat (first | exact (Kd.R_reads' HO_7.out).2.2 | (with_reducible refine Kd.C_alloc ?_ _) | (with_reducible refine Kd.C_drewN ?_ _) | (with_reducible refine Kd.C_drew ?_))); (case side2 => exact (Kd.R_reads' HO_7.out).2.1); rintro e w' ⟨rfl, ⟨nd, rfl⟩⟩; refine ⟨_, rfl, ?_⟩))
       go_roundg k1
       case measure => have := HK1.out; omega
       case rel => exact ⟨(wrap64 (x17_1 + 1)), rs_, H', ⟨by have := HK1.out; omega⟩, ⟨rA_ HO_7.out⟩, ⟨rA_ HO_15.out⟩, ⟨bB_⟩⟩
     ·
      rw [if_neg c11] at H
      exact absurd H (by simp)
    ·
     rw [if_neg c10] at H
     exact absurd H (by simp)
   ·
    rw [if_neg c9] at H
    have c9b0 : decide (x17_1 < (t164.length : Int)) = false := decide_eq_false c9
    clear c9
    obtain rfl := Option.some.inj H
    go_wp2
    go_ret
    exact ⟨er_, bB_⟩

/-! ### impl_Setting: function 54 -/
def impl_Setting.f (l0 : List (S71)) : Option (List (S71)) := if l0.length * 24 ≤ 140737488355328 then some l0 else none
set_option maxHeartbeats 2000000 in
theorem impl_Setting.calls (A0 : Option Addr) (c0 : Nat) (l0 : List (S71)) (r : List (S71)) (w : World) (hr0 : Kd.C k71 w A0 l0.length l0) (hc0 : l0.length ≤ c0) (h : impl_Setting.f l0 = some r) :
  Calls Try.prog 54 #[.slice A0 l0.length c0] w fun e w' => ∃ v0_ : Value, e = .returned (v0_) ∧ Kd.R k71 71 w' w.heap.size (fun _ => True) v0_ r ∧ Below w.heap.size w w' := by
 unfold impl_Setting.f at h
 split at h
 ·
  rename_i hlen
  obtain rfl := Option.some.inj h
  have HR := Aside0.mk hr0
  clear h hr0 hc0
  have q22 : ∀ (w : World) (a : Option Addr) (n c n' c' : Nat), (binOp .eql 26 (.slice a n c) (.slice none n' c')).run Try.prog w = .ok (.bool a.isNone) w := fun w a n c n' c' => Lib.run_eql_slice_nil w _ _ a n c n' c' Try.underlying26
  cases A0 with
  | none =>
   have hl0 : l0 = [] := by
    cases l0 with
    | nil => rfl
    | cons x xs =>
     obtain ⟨ad, e, _⟩ := HR.out.2.2 (by simp)
     cases e
   subst hl0
   go_enter Try.func54, Try.ntmps54
   go_wp2
   go_ret
   exact ⟨_, rfl, Kd.R_nil _ _ _ _ _, Below.refl _ _⟩
  | some ad =>
   go_enter Try.func54, Try.ntmps54
   go_wp2_with (at_builtin; refine Kd.R_append_rows k71 (w0 := w) w.heap.size rfl (.tmp 5) (.tmp 6) 26 71 (.agg #[(.string ⟨#[]⟩), (.int .i64 0)]) 24 rfl Try.underlying26 info71 rfl (by decide) (by omega) _ [] l0 _ _ _ (fun _ => True) (fun _ => False) rfl rfl ?aO ?aR (fun _ _ h => h) (fun _ h => h.elim) ?aF ?aB ?aS ?aL ?_)
   case aO => exact ⟨fun _ _ => trivial, [], World.ownsRow_made w #[] 0 (Nat.le_refl _) (Nat.zero_le _) (by simp), Reps.none _ _⟩
   case aR => exact Kd.C_alloc HR.out _
   case aF => exact fun _ _ => trivial
   case aB => exact (Below.refl _ w).alloc (Nat.le_refl _) _
   case aS => simp
   case aL => simpa using hlen
   intro v1 w1 hR hB hg hat
   go_wp2
   go_ret
   exact ⟨v1, rfl, by simpa using hR, hB⟩
 ·
  cases h

/-! ### impl_Version: function 109 -/
def impl_Version.f (l0 : List (S104)) : Option (List (S104)) := if l0.length * 56 ≤ 140737488355328 then some l0 else none
set_option maxHeartbeats 2000000 in
theorem impl_Version.calls (P0_ : Nat → Prop) (A0 : Option Addr) (c0 : Nat) (l0 : List (S104)) (r : List (S104)) (w : World) (hs0 : Kd.V k104 104 w w.heap.size (fun k_ => P0_ k_) (.slice A0 l0.length c0) l0) (h : impl_Version.f l0 = some r) :
  Calls Try.prog 109 #[.slice A0 l0.length c0] w fun e w' => ∃ v0_ : Value, e = .returned (v0_) ∧ Kd.N k104 104 w' w.heap.size (fun k_ => (P0_ k_ ∨ w.heap.size ≤ k_)) v0_ r ∧ Below w.heap.size w w' := by
 unfold impl_Version.f at h
 split at h
 ·
  rename_i hlen
  obtain rfl := Option.some.inj h
  have HF : Aside0 (Kd.F k104 w (fun k => P0_ k ∧ k < w.heap.size) A0 l0.length l0) := by
   obtain ⟨A', c', e, _, hF⟩ := hs0
   injection e with e1 e2 e3
   subst e1
   exact ⟨Kd.F_bound hF⟩
  clear h hs0
  have q22 : ∀ (w : World) (a : Option Addr) (n c n' c' : Nat), (binOp .eql 46 (.slice a n c) (.slice none n' c')).run Try.prog w = .ok (.bool a.isNone) w := fun w a n c n' c' => Lib.run_eql_slice_nil w _ _ a n c n' c' Try.underlying46
  cases A0 with
  | none =>
   have hl0 : l0 = [] := by
    cases l0 with
    | nil => rfl
    | cons x xs =>
     obtain ⟨ad, e, _⟩ := (Kd.F_now HF.out).2.2 (by simp)
     cases e
   subst hl0
   go_enter Try.func109, Try.ntmps109
   go_wp2
   go_ret
   exact ⟨_, rfl, Kd.N_nil _ _ _ _ _, Below.refl _ _⟩
  | some ad =>
   go_enter Try.func109, Try.ntmps109
   go_wp2_with (at_builtin; refine Kd.N_append_rows k104 (w0 := w) w.heap.size rfl (.tmp 5) (.tmp 6) 46 104 (.agg #[(.int .i64 0), (.int .i64 0), (.string ⟨#[]⟩), (.slice none 0 0)]) 56 rfl Try.underlying46 info104 rfl (by decide) (by omega) _ [] l0 _ _ _ (fun k_ => (P0_ k_ ∨ w.heap.size ≤ k_)) (fun k => P0_ k ∧ k < w.heap.size) rfl rfl ?aO ?aR ?aP ?aF ?aB ?aS ?aL ?_)
   case aO => exact ⟨fun k e => .inr (by injection e with e; subst e; exact Nat.le_refl _), [], rfl, ⟨fun _ e => e.symm, [], World.ownsRow_made w #[] 0 (Nat.le_refl _) (Nat.zero_le _) (by simp), Reps.none _ _⟩, fun j x c hx _ => by simp at hx⟩
   case aR => exact Kd.F_alloc HF.out _
   case aP => exact fun k hk => ⟨.inl hk.1, fun e => by injection e with e; exact absurd hk.2 (by rw [e]; exact Nat.lt_irrefl _)⟩
   case aF => exact fun k hk => .inr (Nat.le_trans ((Below.refl _ w).alloc (Nat.le_refl _) _).size hk)
   case aB => exact (Below.refl _ w).alloc (Nat.le_refl _) _
   case aS => exact ((Below.refl _ w).alloc (Nat.le_refl _) _).size
   case aL => simpa using hlen
   intro v1 w1 hR hB hg hat
   go_wp2
   go_ret
   exact ⟨v1, rfl, by simpa using hR, hB⟩
 ·
  cases h

/-! ### impl_withVersion: function 79 -/
def impl_withVersion.l0 : Nat → List (S104) → List (S104) → Int → Int → Option ((List (S104)) × Int)
 | 0, _, _, _, _ => none
 | k + 1, x10, x26, x27, x28 => if x28 < x27 then (if 0 ≤ x28 then (if x28 < (x26.length : Int) then ((impl_Setting.f ((rd_T104 x26 x28).f3)).bind fun t177 => (if x10.length < 2513169434916 then (impl_withVersion.l0 k (x10 ++ [(⟨(rd_T104 x26 x28).f0, (rd_T104 x26 x28).f1, (rd_T104 x26 x28).f2, t177⟩ : S104)]) x26 x27 (wrap64 (x28 + 1))) else (none))) else (none)) else (none)) else (some (x10, 0))
def impl_withVersion.f (k : Nat) (l0 : List (S104)) (a1 : Int) (a2 : ByteArray) (l3 : List (S71)) : Option ((List (S104)) × Int) := if (l0.length : Int) = 32 then (some (([] : List (S104)), 5)) else ((impl_Version.f l0).bind fun t169 => (if t169.length < 2513169434916 then ((some (t169 ++ [(⟨wrap64 ((l0.length : Int) + 1), a1, a2, l3⟩ : S104)] : List (S104))).bind fun y172 => (impl_withVersion.l0 k ([] : List (S104)) y172 (y172.length : Int) 0)) else (none)))
theorem impl_withVersion.mono_l : ∀ k, (∀ y0 y1 y2 y3, LeO (impl_withVersion.l0 k y0 y1 y2 y3) (impl_withVersion.l0 (k + 1) y0 y1 y2 y3))
 | 0 => fun _ _ _ _ r h => by simp [impl_withVersion.l0] at h
 | k + 1 => by
  have ih0 := impl_withVersion.mono_l k
  ·
   intro y0 y1 y2 y3
   unfold impl_withVersion.l0
   repeat' first
   | (with_reducible exact ih0 _ _ _ _)
   | (with_reducible exact LeO.refl _)
   | (with_reducible exact LeO.none _)
   | (with_reducible refine LeO.ite ?_ ?_)
   | (with_reducible refine LeO.bind ?_ (fun _ => ?_))
   | exact ih0 _ _ _ _
   | exact LeO.none _
   | refine LeO.ite ?_ ?_
   | refine LeO.bind ?_ (fun _ => ?_)
theorem impl_withVersion.mono : ∀ a0 a1 a2 a3 k, LeO (impl_withVersion.f k a0 a1 a2 a3) (impl_withVersion.f (k + 1) a0 a1 a2 a3) := by
 intro a0 a1 a2 a3 k
 have ih0 := impl_withVersion.mono_l k
 unfold impl_withVersion.f
 repeat' first
   | (with_reducible exact ih0 _ _ _ _)
   | (with_reducible exact LeO.refl _)
   | (with_reducible exact LeO.none _)
   | (with_reducible refine LeO.ite ?_ ?_)
   | (with_reducible refine LeO.bind ?_ (fun _ => ?_))
   | exact ih0 _ _ _ _
   | exact LeO.none _
   | refine LeO.ite ?_ ?_
   | refine LeO.bind ?_ (fun _ => ?_)
set_option maxHeartbeats 8000000 in
set_option maxRecDepth 100000 in
theorem impl_withVersion.calls (k : Nat) (P0_ : Nat → Prop) (A0 : Option Addr) (c0 : Nat) (l0 : List (S104)) (a1 : Int) (a2 : ByteArray) (P3_ : Nat → Prop) (A3 : Option Addr) (c3 : Nat) (l3 : List (S71)) (r1 : List (S104)) (r2 : Int) (w : World) (hs0 : Kd.V k104 104 w w.heap.size (fun k_ => P0_ k_) (.slice A0 l0.length c0) l0) (hs3 : Kd.V k71 71 w w.heap.size (fun k_ => P3_ k_) (.slice A3 l3.length c3) l3) (h : impl_withVersion.f k l0 a1 a2 l3 = some (r1, r2)) :
  Calls Try.prog 79 #[.slice A0 l0.length c0, .int .i64 a1, .string a2, .slice A3 l3.length c3] w fun e w' => ∃ v0_ : Value, e = .returned (.tuple #[v0_, .int .i64 r2]) ∧ Kd.N k104 104 w' w.heap.size (fun k_ => ((P0_ k_ ∨ P3_ k_) ∨ w.heap.size ≤ k_)) v0_ r1 ∧ Below w.heap.size w w' := by
 have hu104 := Try.underlying104
 have HO0 := Aside0.mk (show Kd.V k104 104 w w.heap.size (fun k_ => ((P0_ k_ ∨ P3_ k_) ∨ w.heap.size ≤ k_)) (.slice A0 l0.length c0) l0 from Kd.V_mono hs0 (fun k_ hk => .inl (.inl hk)))
 have HO3 := Aside0.mk (show Kd.V k71 71 w w.heap.size (fun k_ => ((P0_ k_ ∨ P3_ k_) ∨ w.heap.size ≤ k_)) (.slice A3 l3.length c3) l3 from Kd.V_mono hs3 (fun k_ hk => .inl (.inr hk)))
 have HB := Aside0.mk (Below.refl w.heap.size w)
 have H : (if (l0.length : Int) = 32 then (some (([] : List (S104)), 5)) else ((impl_Version.f l0).bind fun t169 => (if t169.length < 2513169434916 then ((some (t169 ++ [(⟨wrap64 ((l0.length : Int) + 1), a1, a2, l3⟩ : S104)] : List (S104))).bind fun y172 => (impl_withVersion.l0 k ([] : List (S104)) y172 (y172.length : Int) 0)) else (none)))) = some (r1, r2) := h
 clear h
 by_cases c5 : (l0.length : Int) = 32
 ·
  rw [if_pos c5] at H
  have c5b0 : ((l0.length : Int) == 32) = true := beq_iff_eq.mpr c5
  have c5b1 : ((l0.length : Int) != 32) = false := bne_eq_false_iff_eq.mpr c5
  clear c5
  simp only [Option.some.injEq, Prod.mk.injEq] at H
  obtain ⟨rfl, rfl⟩ := H
  go_enter Try.func79, Try.ntmps79
  go_wp2
  go_ret2
  exact ⟨_, er_, by first | exact Kd.S_nil _ _ _ _ _ | exact Kd.N_nil _ _ _ _ _ | exact Kd.V_nil _ _ _ _ _ | exact Kd.Q_nil _ _ _ _ _ | exact Kd.R_nil _ _ _ _ _, bB_⟩
 ·
  rw [if_neg c5] at H
  have c5b0 : ((l0.length : Int) == 32) = false := beq_eq_false_iff_ne.mpr c5
  have c5b1 : ((l0.length : Int) != 32) = true := bne_iff_ne.mpr c5
  replace H := Option.bind_eq_some_iff.mp H
  obtain ⟨t169, A60, H⟩ := H
  replace H : (if t169.length < 2513169434916 then ((some (t169 ++ [(⟨wrap64 ((l0.length : Int) + 1), a1, a2, l3⟩ : S104)] : List (S104))).bind fun y172 => (impl_withVersion.l0 k ([] : List (S104)) y172 (y172.length : Int) 0)) else (none)) = some (r1, r2) := H
  have A6 := Aside0.mk A60
  clear A60
  by_cases c7 : t169.length < 2513169434916
  ·
   rw [if_pos c7] at H
   have LMc7 := Aside0.mk c7
   clear c7
   obtain ⟨y172, hy172⟩ : ∃ y_ : List (S104), y_ = (t169 ++ [(⟨wrap64 ((l0.length : Int) + 1), a1, a2, l3⟩ : S104)]) := ⟨_, rfl⟩
   replace H : (impl_withVersion.l0 k ([] : List (S104)) y172 (y172.length : Int) 0) = some (r1, r2) := by first | (rw [hy172]; with_reducible exact H) | (have H2_ := (Option.bind_some _ _).symm.trans H; rw [hy172]; with_reducible exact H2_) | (have H2_ := (Option.bind_some _ _).symm.trans H; with_reducible exact H2_) | with_reducible exact H | (rw [hy172]; exact H) | exact H
   have Ny172 := Aside0.mk hy172
   clear hy172
   have H' := Aside0.mk H
   clear H
   go_enter Try.func79, Try.ntmps79
   go_wp2_with (first | ((with_reducible refine gate_callee (f := 109) rfl ?_); refine goesL_ (some 17) rfl rfl Try.func109 (by kernel_rfl) rfl #[.slice A0 l0.length c0] rfl mT_ ?_; (with_reducible refine (impl_Version.calls (fun k_ => ((P0_ k_ ∨ P3_ k_) ∨ w.heap.size ≤ k_)) _ _ l0 t169 _ ?side1 A6.out).mono ?_); (case side1 => exact HO0.out); rintro e w8 ⟨v170, rfl, ho0, hb⟩; refine ⟨_, rfl, ?_⟩; have n0_ := Aside0.mk (Kd.V_elder' (vA_ HO0.out) (Kd.N_base ho0) hb); have n1_ := Aside0.mk (Kd.V_elder' (vA_ HO3.out) (Kd.N_base ho0) hb); have n2_ := Aside0.mk (Kd.N_lower (Kd.N_mono (ok' := fun k_ => ((P0_ k_ ∨ P3_ k_) ∨ w.heap.size ≤ k_)) ho0 (fun k_ hk_ => Or.elim hk_ (fun hs_ => hs_) (fun hn_ => (.inr (Nat.le_trans (below_size bB_) hn_))))) (below_size bB_)); have n3_ := Aside0.mk (below_step bB_ hb); clear HO0; clear HO3; clear HB; have HO0 := n0_; have HO3 := n1_; have HO171 := n2_; have HB := n3_; clear n0_ n1_ n2_ n3_; (try clear hb); (try clear hb2); (try clear hk); (try clear hi); (try clear ho0)) | ((with_reducible refine gate_builtin (b := .append) (xs := #[.tmp 17, .tmp 25]) rfl ?_); at_builtin; refine Kd.N_append k104 (w0 := w) w.heap.size rfl (.tmp 17) (.tmp 25) 46 104 (.agg #[(.int .i64 0), (.int .i64 0), (.string ⟨#[]⟩), (.slice none 0 0)]) 56 rfl Try.underlying46 info104 rfl (by decide) (by omega) v170 t169 (⟨wrap64 ((l0.length : Int) + 1), a1, a2, l3⟩ : S104) [.int .i64 (wrap64 ((l0.length : Int) + 1)), .int .i64 a1, .string a2, .slice A3 l3.length c3] (fun k_ => ((P0_ k_ ∨ P3_ k_) ∨ w.heap.size ≤ k_)) (fun k_ => ((fun k_ => ((P0_ k_ ∨ P3_ k_) ∨ w.heap.size ≤ k_))) k_ ∧ some k_ ≠ (v170 : Value).ownBlock) rfl rfl ?aP (fun _ hk => hk) ?aF ?aO ?aB ?aS ?aL ?_; (case aP => exact (k104_mkF _ _ (⟨wrap64 ((l0.length : Int) + 1), a1, a2, l3⟩ : S104) (Kd.V_reads' (Kd.V_mono (ok' := (fun k_ => ((fun k_ => ((P0_ k_ ∨ P3_ k_) ∨ w.heap.size ≤ k_))) k_ ∧ some k_ ≠ (v170 : Value).ownBlock)) (HO3.out) (fun k_ hk => ⟨hk.1, hk.2⟩))).2.1 (Kd.V_F (Kd.V_mono (ok' := (fun k_ => ((fun k_ => ((P0_ k_ ∨ P3_ k_) ∨ w.heap.size ≤ k_))) k_ ∧ some k_ ≠ (v170 : Value).ownBlock)) (HO3.out) (fun k_ hk => ⟨hk.1, hk.2⟩))))); (case aB => exact bB_); (case aF => exact (fun k_ hk => (.inr (Nat.le_trans (below_size bB_) hk)))); (case aO => exact (nA_ HO171.out)); (case aS => exact (below_size bB_)); (case aL => have := LMc7.out; omega); intro v173 w9 ho hb hg hat; rw [← Ny172.out] at ho; have n0_ := Aside0.mk (Kd.V_afterv (ok := (fun k_ => ((P0_ k_ ∨ P3_ k_) ∨ w.heap.size ≤ k_))) (vA_ HO0.out) hg hat); have n1_ := Aside0.mk (Kd.V_afterv (ok := (fun k_ => ((P0_ k_ ∨ P3_ k_) ∨ w.heap.size ≤ k_))) (vA_ HO3.out) hg hat); have n2_ := Aside0.mk (hb); have n3_ := Aside0.mk (ho); clear HO0; clear HO3; clear HB; clear HO171; have HO0 := n0_; have HO3 := n1_; have HB := n2_; have HO174 := n3_; clear n0_ n1_ n2_ n3_; clear ho hb hg hat; obtain ⟨Ao10, co10, eo10⟩ := Kd.N_slice HO174.out; subst eo10))
   go_loopg [10, 28] k (fun kq v10 v28 w' => ∃ (x10_1 : List (S104)) (x28_1 : Int), v28 = .int .i64 x28_1 ∧ Aside0 (impl_withVersion.l0 kq x10_1 y172 (y172.length : Int) x28_1 = some (r1, r2)) ∧ Aside0 (kq ≤ k) ∧ Aside0 (Kd.N k104 104 w' w.heap.size (fun k_ => ((P0_ k_ ∨ P3_ k_) ∨ w.heap.size ≤ k_) ∧ some k_ ≠ ((.slice Ao10 y172.length co10) : Value).ownBlock) v10 x10_1) ∧ Aside0 (Kd.N k104 104 w' w.heap.size (fun k_ => ((P0_ k_ ∨ P3_ k_) ∨ w.heap.size ≤ k_) ∧ some k_ ≠ (v10 : Value).ownBlock) (.slice Ao10 y172.length co10) y172) ∧ Aside0 (Below w.heap.size w w'))
   case atStart => exact ⟨(([] : List (S104))), (0), rs_, H', ⟨Nat.le_refl _⟩, ⟨by first | exact Kd.S_nil _ _ _ _ _ | exact Kd.N_nil _ _ _ _ _ | exact Kd.V_nil _ _ _ _ _ | exact Kd.Q_nil _ _ _ _ _ | exact Kd.R_nil _ _ _ _ _⟩, ⟨by (with_reducible repeat (first | apply Kd.N_alloc | apply Kd.N_drewN | apply Kd.N_drew)); exact Kd.N_mono HO174.out (fun _ hk => ⟨hk, (by simp [Value.ownBlock])⟩)⟩, ⟨bB_⟩⟩
   case round =>
    clear H'
    try clear c1
    try clear p2
    try clear c3
    try clear c5
    try clear c5b0
    try clear c5b1
    try clear p6
    try clear c7
    try clear c10
    obtain ⟨x10_1, x28_1, rfl, HA, HK1, HO_10, HO_26, HB⟩ := hrel
    cases gk with
    | zero => exact absurd HA.out (by simp [impl_withVersion.l0])
    | succ k1 =>
     have H := HA.out
     clear HA
     simp only [impl_withVersion.l0] at H
     by_cases c11 : x28_1 < (y172.length : Int)
     ·
      rw [if_pos c11] at H
      have c11b0 : decide (x28_1 < (y172.length : Int)) = true := decide_eq_true c11
      clear c11
      by_cases c12 : 0 ≤ x28_1
      ·
       rw [if_pos c12] at H
       have c12b0 : decide (0 ≤ x28_1) = true := decide_eq_true c12
       clear c12
       by_cases c13 : x28_1 < (y172.length : Int)
       ·
        rw [if_pos c13] at H
        have c13b0 : decide (x28_1 < (y172.length : Int)) = true := decide_eq_true c13
        clear c13
        replace H := Option.bind_eq_some_iff.mp H
        obtain ⟨t177, A140, H⟩ := H
        replace H : (if x10_1.length < 2513169434916 then (impl_withVersion.l0 k1 (x10_1 ++ [(⟨(rd_T104 y172 x28_1).f0, (rd_T104 y172 x28_1).f1, (rd_T104 y172 x28_1).f2, t177⟩ : S104)]) y172 (y172.length : Int) (wrap64 (x28_1 + 1))) else (none)) = some (r1, r2) := H
        have A14 := Aside0.mk A140
        clear A140
        by_cases c15 : x10_1.length < 2513169434916
        ·
         rw [if_pos c15] at H
         have LMc15 := Aside0.mk c15
         clear c15
         obtain ⟨y180, hy180⟩ : ∃ y_ : List (S104), y_ = (x10_1 ++ [(⟨(rd_T104 y172 x28_1).f0, (rd_T104 y172 x28_1).f1, (rd_T104 y172 x28_1).f2, t177⟩ : S104)]) := ⟨_, rfl⟩
         replace H : (impl_withVersion.l0 k1 y180 y172 (y172.length : Int) (wrap64 (x28_1 + 1))) = some (r1, r2) := by first | (rw [hy180]; with_reducible exact H) | (have H2_ := (Option.bind_some _ _).symm.trans H; rw [hy180]; with_reducible exact H2_) | (have H2_ := (Option.bind_some _ _).symm.trans H; with_reducible exact H2_) | with_reducible exact H | (rw [hy180]; exact H) | exact H
         have Ny180 := Aside0.mk hy180
         clear hy180
         have H' := Aside0.mk H
         clear H
         have p175 : 0 ≤ (x28_1 : Int) := of_decide_eq_true as_
         have q175 : x28_1 < (y172.length : Int) := of_decide_eq_true as_
         obtain ⟨ad175, A175_3, c175_3, e175, hx175_0, hx175_1, hx175_2, hx175_3, hl175_3, hi175_3⟩ := at_T104 (Kd.N_reads' HO_26.out).2.2 x28_1 p175 q175
         cases e175
         obtain ⟨ce175, hce175, hMe175, hcc175⟩ := Kd.N_get HO_26.out z104 x28_1 p175 (by first | exact q175 | exact of_decide_eq_true as_ | (have e_ := (Kd.N_reads' HO_26.out).1; omega))
         obtain ⟨ua175_3, uc175_3, rfl, ul175_3, ge175_3⟩ := k104_openF hMe175
         have hv175_3 := hcc175 3 _ rfl
         rw [add_field _ _ 3 (by omega)] at hv175_3
         replace hv175_3 := Option.some.inj (hv175_3.symm.trans hx175_3)
         injection hv175_3 with hva_ hvn_ hvc_
         rw [hva_] at ge175_3
         rw [hvc_] at ul175_3
         have HL175_3 := Aside0.mk (show Kd.V k71 71 _ w.heap.size _ _ ((rd_T104 y172 x28_1).f3) from Kd.V_mk ul175_3 ge175_3)
         clear hva_ hvn_ hvc_ ge175_3 ul175_3
         clear hcc175 hce175
         have HR175_3 := Aside0.mk hi175_3
         have HC175_3 := Aside0.mk hl175_3
         clear hi175_3 hl175_3
         replace p175 := eq_true p175
         replace q175 := eq_true q175
         go_wp2_with (first | ((with_reducible refine gate_dst (N := 12) rfl ?_); refine box_event ?hg (N := 12) ?hd (cs := #[.int .i64 0, .int .i64 0, .string (⟨#[]⟩ : ByteArray), .slice none 0 0]) (t := 104) ?hr ?_; (case hd => rfl); (case hg => rfl); (case hr => first | (go_simp; done) | (go_simp; rfl)); intro gb176 hg w16 hbox hb; have n0_ := Aside0.mk (Kd.N_below (Kd.N_elderB (nA_ HO_10.out) gb176 (Nat.le_of_eq hg.symm)) hb); have n1_ := Aside0.mk (Kd.N_below (Kd.N_elderB (nA_ HO_26.out) gb176 (Nat.le_of_eq hg.symm)) hb); have n2_ := Aside0.mk (Kd.V_below (Kd.V_elderB (vA_ HL175_3.out) gb176 (Nat.le_of_eq hg.symm)) hb); have n3_ := Aside0.mk (Kd.C_below (by repeat (first | (with_reducible exact HR175_3.out) | (with_reducible refine Kd.C_alloc ?_ _) | (with_reducible refine Kd.C_drewN ?_ _) | (with_reducible refine Kd.C_drew ?_) | exact HR175_3.out)) hb); have n4_ := Aside0.mk (below_step bB_ hb); have n5_ := Aside0.mk (hbox); have n6_ := Aside0.mk ((by rw [hg]; exact (below_size bB_) : w.heap.size ≤ gb176)); have n7_ := Aside0.mk ((by rw [hg]; exact (below_size bB_) : w.heap.size ≤ gb176)); clear HO_10; clear HO_26; clear HL175_3; clear HR175_3; clear HB; have HO_10 := n0_; have HO_26 := n1_; have HL175_3 := n2_; have HR175_3 := n3_; have HB := n4_; have BK176 := n5_; have GW176 := n6_; have GE176 := n7_; clear n0_ n1_ n2_ n3_ n4_ n5_ n6_ n7_; clear hb hbox hg; have hcz17_0 : w16.cell? ⟨gb176, 0, none⟩ = some (.int .i64 0) := (blk_cell BK176.out 0).trans rfl; have hcz17_1 : w16.cell? ⟨gb176, 1, none⟩ = some (.int .i64 0) := (blk_cell BK176.out 1).trans rfl; have hcz17_2 : w16.cell? ⟨gb176, 2, none⟩ = some (.string (⟨#[]⟩ : ByteArray)) := (blk_cell BK176.out 2).trans rfl; have hcz17_3 : w16.cell? ⟨gb176, 3, none⟩ = some (.slice none 0 0) := (blk_cell BK176.out 3).trans rfl; have hfz17_0 := blk_frozen BK176.out 0; have hfz17_1 := blk_frozen BK176.out 1; have hfz17_2 := blk_frozen BK176.out 2; have hfz17_3 := blk_frozen BK176.out 3) | ((with_reducible refine gate_callee (f := 54) rfl ?_); refine goesL_ (some 34) rfl rfl Try.func54 (by kernel_rfl) rfl #[.slice A175_3 ((rd_T104 y172 x28_1).f3).length c175_3] rfl mT_ ?_; (with_reducible refine (impl_Setting.calls _ _ ((rd_T104 y172 x28_1).f3) t177 _ ?side1 ?side2 A14.out).mono ?_); (case side1 => repeat (first | exact ((Kd.V_reads' (by (with_reducible repeat (first | apply Kd.V_alloc | apply Kd.V_drewN | apply Kd.V_drew)); exact (Kd.V_mono (Kd.V_far (p := ⟨gb176, 3, none⟩) (Kd.V_far (p := ⟨gb176, 2, none⟩) (Kd.V_far (p := ⟨gb176, 1, none⟩) (Kd.V_far (p := ⟨gb176, 0, none⟩) (Kd.V_mono HL175_3.out (fun k_ hk => (⟨hk, hk.2⟩ : _ ∧ k_ ≠ gb176))) (fun _ hk => hk.2) (.int .i64 ((rd_T104 y172 x28_1).f0))) (fun _ hk => hk.2) (.int .i64 ((rd_T104 y172 x28_1).f1))) (fun _ hk => hk.2) (.string ((rd_T104 y172 x28_1).f2))) (fun _ hk => hk.2) (.slice A175_3 ((rd_T104 y172 x28_1).f3).length c175_3)) (fun _ h_ => h_.1)))).2.2) | (with_reducible refine Kd.C_alloc ?_ _) | (with_reducible refine Kd.C_drewN ?_ _) | (with_reducible refine Kd.C_drew ?_))); (case side2 => exact HC175_3.out); rintro e w18 ⟨v178, rfl, ho0, hb⟩; refine ⟨_, rfl, ?_⟩; have n0_ := Aside0.mk (Kd.N_elder' (by (with_reducible repeat (first | apply Kd.N_alloc | apply Kd.N_drewN | apply Kd.N_drew)); exact (Kd.N_mono (Kd.N_far (p := ⟨gb176, 3, none⟩) (Kd.N_far (p := ⟨gb176, 2, none⟩) (Kd.N_far (p := ⟨gb176, 1, none⟩) (Kd.N_far (p := ⟨gb176, 0, none⟩) (Kd.N_mono HO_10.out (fun k_ hk => (⟨hk, hk.2⟩ : _ ∧ k_ ≠ gb176))) (fun _ hk => hk.2) (.int .i64 ((rd_T104 y172 x28_1).f0))) (fun _ hk => hk.2) (.int .i64 ((rd_T104 y172 x28_1).f1))) (fun _ hk => hk.2) (.string ((rd_T104 y172 x28_1).f2))) (fun _ hk => hk.2) (.slice A175_3 ((rd_T104 y172 x28_1).f3).length c175_3)) (fun _ h_ => h_.1))) (Kd.R_base ho0) hb); have n1_ := Aside0.mk (Kd.N_elder' (by (with_reducible repeat (first | apply Kd.N_alloc | apply Kd.N_drewN | apply Kd.N_drew)); exact (Kd.N_mono (Kd.N_far (p := ⟨gb176, 3, none⟩) (Kd.N_far (p := ⟨gb176, 2, none⟩) (Kd.N_far (p := ⟨gb176, 1, none⟩) (Kd.N_far (p := ⟨gb176, 0, none⟩) (Kd.N_mono HO_26.out (fun k_ hk => (⟨hk, hk.2⟩ : _ ∧ k_ ≠ gb176))) (fun _ hk => hk.2) (.int .i64 ((rd_T104 y172 x28_1).f0))) (fun _ hk => hk.2) (.int .i64 ((rd_T104 y172 x28_1).f1))) (fun _ hk => hk.2) (.string ((rd_T104 y172 x28_1).f2))) (fun _ hk => hk.2) (.slice A175_3 ((rd_T104 y172 x28_1).f3).length c175_3)) (fun _ h_ => h_.1))) (Kd.R_base ho0) hb); have n2_ := Aside0.mk (Kd.V_elder' (by (with_reducible repeat (first | apply Kd.V_alloc | apply Kd.V_drewN | apply Kd.V_drew)); exact (Kd.V_mono (Kd.V_far (p := ⟨gb176, 3, none⟩) (Kd.V_far (p := ⟨gb176, 2, none⟩) (Kd.V_far (p := ⟨gb176, 1, none⟩) (Kd.V_far (p := ⟨gb176, 0, none⟩) (Kd.V_mono HL175_3.out (fun k_ hk => (⟨hk, hk.2⟩ : _ ∧ k_ ≠ gb176))) (fun _ hk => hk.2) (.int .i64 ((rd_T104 y172 x28_1).f0))) (fun _ hk => hk.2) (.int .i64 ((rd_T104 y172 x28_1).f1))) (fun _ hk => hk.2) (.string ((rd_T104 y172 x28_1).f2))) (fun _ hk => hk.2) (.slice A175_3 ((rd_T104 y172 x28_1).f3).length c175_3)) (fun _ h_ => h_.1))) (Kd.R_base ho0) hb); have n3_ := Aside0.mk (Kd.R_lower (Kd.R_newM (M := fun k_ => (w.heap.size ≤ k_)) ho0 (below_size (bC_ GE176.out)) (fun k_ h_ => h_)) (below_size (bC_ GE176.out))); have n4_ := Aside0.mk (Kd.C_below ((Kd.V_reads' (by (with_reducible repeat (first | apply Kd.V_alloc | apply Kd.V_drewN | apply Kd.V_drew)); exact (Kd.V_mono (Kd.V_far (p := ⟨gb176, 3, none⟩) (Kd.V_far (p := ⟨gb176, 2, none⟩) (Kd.V_far (p := ⟨gb176, 1, none⟩) (Kd.V_far (p := ⟨gb176, 0, none⟩) (Kd.V_mono HL175_3.out (fun k_ hk => (⟨hk, hk.2⟩ : _ ∧ k_ ≠ gb176))) (fun _ hk => hk.2) (.int .i64 ((rd_T104 y172 x28_1).f0))) (fun _ hk => hk.2) (.int .i64 ((rd_T104 y172 x28_1).f1))) (fun _ hk => hk.2) (.string ((rd_T104 y172 x28_1).f2))) (fun _ hk => hk.2) (.slice A175_3 ((rd_T104 y172 x28_1).f3).length c175_3)) (fun _ h_ => h_.1)))).2.2) hb); have n5_ := Aside0.mk (blk_below (g := gb176) (o := .cells #[.int .i64 ((rd_T104 y172 x28_1).f0), .int .i64 ((rd_T104 y172 x28_1).f1), .string ((rd_T104 y172 x28_1).f2), .slice A175_3 ((rd_T104 y172 x28_1).f3).length c175_3] 104 (0, 0)) (by (with_reducible repeat (first | refine blk_drewN ?_ _ | refine blk_drew ?_ | refine blk_alloc ?_ _)); refine blk_put (cs := #[.int .i64 ((rd_T104 y172 x28_1).f0), .int .i64 ((rd_T104 y172 x28_1).f1), .string ((rd_T104 y172 x28_1).f2), .slice none 0 0]) ?_ 3 _ rfl; (with_reducible repeat (first | refine blk_drewN ?_ _ | refine blk_drew ?_ | refine blk_alloc ?_ _)); refine blk_put (cs := #[.int .i64 ((rd_T104 y172 x28_1).f0), .int .i64 ((rd_T104 y172 x28_1).f1), .string (⟨#[]⟩ : ByteArray), .slice none 0 0]) ?_ 2 _ rfl; (with_reducible repeat (first | refine blk_drewN ?_ _ | refine blk_drew ?_ | refine blk_alloc ?_ _)); refine blk_put (cs := #[.int .i64 ((rd_T104 y172 x28_1).f0), .int .i64 0, .string (⟨#[]⟩ : ByteArray), .slice none 0 0]) ?_ 1 _ rfl; (with_reducible repeat (first | refine blk_drewN ?_ _ | refine blk_drew ?_ | refine blk_alloc ?_ _)); refine blk_put (cs := #[.int .i64 0, .int .i64 0, .string (⟨#[]⟩ : ByteArray), .slice none 0 0]) ?_ 0 _ rfl; (with_reducible repeat (first | refine blk_drewN ?_ _ | refine blk_drew ?_ | refine blk_alloc ?_ _)); exact BK176.out) hb); have n6_ := Aside0.mk (below_step (bC_ GE176.out) hb); clear HO_10; clear HO_26; clear HL175_3; clear HR175_3; clear BK176; clear HB; have HO_10 := n0_; have HO_26 := n1_; have HL175_3 := n2_; have HO179 := n3_; have HR175_3 := n4_; have BK176 := n5_; have HB := n6_; clear n0_ n1_ n2_ n3_ n4_ n5_ n6_; (try clear hb); (try clear hb2); (try clear hk); (try clear hi); (try clear ho0); obtain ⟨Ao19, co19, eo19⟩ := Kd.R_slice HO179.out; subst eo19; have hcz20_0 : w18.cell? ⟨gb176, 0, none⟩ = some (.int .i64 ((rd_T104 y172 x28_1).f0)) := (blk_cell BK176.out 0).trans rfl; have hcz20_1 : w18.cell? ⟨gb176, 1, none⟩ = some (.int .i64 ((rd_T104 y172 x28_1).f1)) := (blk_cell BK176.out 1).trans rfl; have hcz20_2 : w18.cell? ⟨gb176, 2, none⟩ = some (.string ((rd_T104 y172 x28_1).f2)) := (blk_cell BK176.out 2).trans rfl; have hcz20_3 : w18.cell? ⟨gb176, 3, none⟩ = some (.slice A175_3 ((rd_T104 y172 x28_1).f3).length c175_3) := (blk_cell BK176.out 3).trans rfl; have hfz20_0 := blk_frozen BK176.out 0; have hfz20_1 := blk_frozen BK176.out 1; have hfz20_2 := blk_frozen BK176.out 2; have hfz20_3 := blk_frozen BK176.out 3) | ((with_reducible refine gate_store (t := 26) (p := 35) rfl ?_); refine store_event (t := 26) (p := 35) (v := ?vo_w21) (w1 := (w18.setCell ⟨gb176, 3, none⟩ (.slice Ao19 t177.length co19))) ?hg ?ho ?hn ?hr ?_; (case ho => rfl); (case hg => rfl); (case hn => rfl); (case hr => first | (go_simp; done) | (go_simp; rfl)); intro w21 hw; have n0_ : Aside0 (Kd.N k104 104 w21 w.heap.size (fun k_ => ((P0_ k_ ∨ P3_ k_) ∨ w.heap.size ≤ k_) ∧ some k_ ≠ (.slice (some ad175) y172.length co10 : Value).ownBlock ∧ some k_ ≠ (.slice Ao19 t177.length co19 : Value).ownBlock ∧ k_ ≠ gb176) u10 x10_1) := ⟨(by rw [hw]; exact (by (with_reducible repeat (first | apply Kd.N_alloc | apply Kd.N_drewN | apply Kd.N_drew)); exact Kd.N_mono (Kd.N_far (p := ⟨gb176, 3, none⟩) (Kd.N_mono HO_10.out (fun k_ hk => (⟨hk, hk.1.2⟩ : _ ∧ k_ ≠ gb176))) (fun _ hk => hk.2) (.slice Ao19 t177.length co19)) (fun _ hk => ⟨hk.1.1.1.1, ⟨hk.1.1.1.2, ⟨hk.1.2, hk.1.1.2⟩⟩⟩)))⟩; have n1_ : Aside0 (Kd.N k104 104 w21 w.heap.size (fun k_ => ((P0_ k_ ∨ P3_ k_) ∨ w.heap.size ≤ k_) ∧ some k_ ≠ (u10 : Value).ownBlock ∧ some k_ ≠ (.slice Ao19 t177.length co19 : Value).ownBlock ∧ k_ ≠ gb176) (.slice (some ad175) y172.length co10) y172) := ⟨(by rw [hw]; exact (by (with_reducible repeat (first | apply Kd.N_alloc | apply Kd.N_drewN | apply Kd.N_drew)); exact Kd.N_mono (Kd.N_far (p := ⟨gb176, 3, none⟩) (Kd.N_mono HO_26.out (fun k_ hk => (⟨hk, hk.1.2⟩ : _ ∧ k_ ≠ gb176))) (fun _ hk => hk.2) (.slice Ao19 t177.length co19)) (fun _ hk => ⟨hk.1.1.1.1, ⟨hk.1.1.1.2, ⟨hk.1.2, hk.1.1.2⟩⟩⟩)))⟩; have n2_ : Aside0 (Kd.V k71 71 w21 w.heap.size (fun k_ => ((P0_ k_ ∨ P3_ k_) ∨ w.heap.size ≤ k_) ∧ some k_ ≠ (u10 : Value).ownBlock ∧ some k_ ≠ (.slice (some ad175) y172.length co10 : Value).ownBlock ∧ some k_ ≠ (.slice Ao19 t177.length co19 : Value).ownBlock ∧ k_ ≠ gb176) (.slice A175_3 ((rd_T104 y172 x28_1).f3).length c175_3) ((rd_T104 y172 x28_1).f3)) := ⟨(by rw [hw]; exact (by (with_reducible repeat (first | apply Kd.V_alloc | apply Kd.V_drewN | apply Kd.V_drew)); exact Kd.V_mono (Kd.V_far (p := ⟨gb176, 3, none⟩) (Kd.V_mono HL175_3.out (fun k_ hk => (⟨hk, hk.1.2⟩ : _ ∧ k_ ≠ gb176))) (fun _ hk => hk.2) (.slice Ao19 t177.length co19)) (fun _ hk => ⟨hk.1.1.1.1.1, ⟨hk.1.1.1.1.2, ⟨hk.1.1.1.2, ⟨hk.1.2, hk.1.1.2⟩⟩⟩⟩)))⟩; have n3_ : Aside0 (Kd.R k71 71 w21 w.heap.size (fun k_ => (w.heap.size ≤ k_)) (.slice Ao19 t177.length co19) t177) := ⟨(by rw [hw]; exact (by (with_reducible repeat (first | apply Kd.R_alloc | apply Kd.R_drewN | apply Kd.R_drew)); exact Kd.R_mono (Kd.R_far (p := ⟨gb176, 3, none⟩) (Kd.R_types HO179.out BK176.out (by decide)) (fun _ hk => hk.2) (.slice Ao19 t177.length co19)) (fun _ hk => hk.1.1)))⟩; have n4_ : Aside0 (w21.heap[gb176]? = some (.cells #[.int .i64 ((rd_T104 y172 x28_1).f0), .int .i64 ((rd_T104 y172 x28_1).f1), .string ((rd_T104 y172 x28_1).f2), .slice Ao19 t177.length co19] 104 (0, 0))) := ⟨(by rw [hw]; exact (by (with_reducible repeat (first | refine blk_drewN ?_ _ | refine blk_drew ?_ | refine blk_alloc ?_ _)); refine blk_put (cs := #[.int .i64 ((rd_T104 y172 x28_1).f0), .int .i64 ((rd_T104 y172 x28_1).f1), .string ((rd_T104 y172 x28_1).f2), .slice A175_3 ((rd_T104 y172 x28_1).f3).length c175_3]) ?_ 3 _ rfl; (with_reducible repeat (first | refine blk_drewN ?_ _ | refine blk_drew ?_ | refine blk_alloc ?_ _)); exact BK176.out))⟩; have n5_ : Aside0 (Below w.heap.size w w21) := ⟨(by rw [hw]; exact (bC_ GE176.out))⟩; clear hw; clear HO_10; clear HO_26; clear HL175_3; clear HO179; clear BK176; clear HB; have HO_10 := n0_; have HO_26 := n1_; have HL175_3 := n2_; have HO179 := n3_; have BK176 := n4_; have HB := n5_; clear n0_ n1_ n2_ n3_ n4_ n5_; have hcz22_0 : w21.cell? ⟨gb176, 0, none⟩ = some (.int .i64 ((rd_T104 y172 x28_1).f0)) := (blk_cell BK176.out 0).trans rfl; have hcz22_1 : w21.cell? ⟨gb176, 1, none⟩ = some (.int .i64 ((rd_T104 y172 x28_1).f1)) := (blk_cell BK176.out 1).trans rfl; have hcz22_2 : w21.cell? ⟨gb176, 2, none⟩ = some (.string ((rd_T104 y172 x28_1).f2)) := (blk_cell BK176.out 2).trans rfl; have hcz22_3 : w21.cell? ⟨gb176, 3, none⟩ = some (.slice Ao19 t177.length co19) := (blk_cell BK176.out 3).trans rfl; have hfz22_0 := blk_frozen BK176.out 0; have hfz22_1 := blk_frozen BK176.out 1; have hfz22_2 := blk_frozen BK176.out 2; have hfz22_3 := blk_frozen BK176.out 3) | ((with_reducible refine gate_builtin (b := .append) (xs := #[.tmp 36, .tmp 38]) rfl ?_); at_builtin; refine Kd.N_append k104 (w0 := w) w.heap.size rfl (.tmp 36) (.tmp 38) 46 104 (.agg #[(.int .i64 0), (.int .i64 0), (.string ⟨#[]⟩), (.slice none 0 0)]) 56 rfl Try.underlying46 info104 rfl (by decide) (by omega) u10 x10_1 (⟨(rd_T104 y172 x28_1).f0, (rd_T104 y172 x28_1).f1, (rd_T104 y172 x28_1).f2, t177⟩ : S104) [.int .i64 ((rd_T104 y172 x28_1).f0), .int .i64 ((rd_T104 y172 x28_1).f1), .string ((rd_T104 y172 x28_1).f2), .slice Ao19 t177.length co19] (fun k_ => ((P0_ k_ ∨ P3_ k_) ∨ w.heap.size ≤ k_) ∧ some k_ ≠ (.slice (some ad175) y172.length co10 : Value).ownBlock ∧ k_ ≠ gb176) (fun k_ => ((fun k_ => ((P0_ k_ ∨ P3_ k_) ∨ w.heap.size ≤ k_) ∧ some k_ ≠ (.slice (some ad175) y172.length co10 : Value).ownBlock ∧ k_ ≠ gb176)) k_ ∧ some k_ ≠ (u10 : Value).ownBlock) rfl rfl ?aP (fun _ hk => hk) ?aF ?aO ?aB ?aS ?aL ?_; (case aP => exact (k104_mkF _ _ (⟨(rd_T104 y172 x28_1).f0, (rd_T104 y172 x28_1).f1, (rd_T104 y172 x28_1).f2, t177⟩ : S104) (Kd.R_reads' (Kd.R_mono (ok' := (fun k_ => ((fun k_ => ((P0_ k_ ∨ P3_ k_) ∨ w.heap.size ≤ k_) ∧ some k_ ≠ (.slice (some ad175) y172.length co10 : Value).ownBlock ∧ k_ ≠ gb176)) k_ ∧ some k_ ≠ (u10 : Value).ownBlock)) (Kd.R_types (Kd.R_apart' (Kd.R_apart' (HO179.out) (Kd.N_typed HO_26.out) (by decide)) (Kd.N_typed HO_10.out) (by decide)) BK176.out (by decide)) (fun k_ hk => ⟨⟨(.inr (hk.1.1.1)), ⟨hk.1.1.2, hk.2⟩⟩, hk.1.2⟩))).2.1 (Kd.R_F (Kd.R_mono (ok' := (fun k_ => ((fun k_ => ((P0_ k_ ∨ P3_ k_) ∨ w.heap.size ≤ k_) ∧ some k_ ≠ (.slice (some ad175) y172.length co10 : Value).ownBlock ∧ k_ ≠ gb176)) k_ ∧ some k_ ≠ (u10 : Value).ownBlock)) (Kd.R_types (Kd.R_apart' (Kd.R_apart' (HO179.out) (Kd.N_typed HO_26.out) (by decide)) (Kd.N_typed HO_10.out) (by decide)) BK176.out (by decide)) (fun k_ hk => ⟨⟨(.inr (hk.1.1.1)), ⟨hk.1.1.2, hk.2⟩⟩, hk.1.2⟩))))); (case aB => exact (bC_ GE176.out)); (case aF => exact (fun k_ hk => ⟨(.inr (Nat.le_trans (below_size (bC_ GE176.out)) hk)), Kd.fresh' (Kd.N_lt (nA_ HO_26.out)) k_ hk, Kd.freshB (g := gb176) (o := .cells #[.int .i64 ((rd_T104 y172 x28_1).f0), .int .i64 ((rd_T104 y172 x28_1).f1), .string ((rd_T104 y172 x28_1).f2), .slice Ao19 t177.length co19] 104 (0, 0)) (bK_ BK176.out) k_ hk⟩)); (case aO => exact (by (with_reducible repeat (first | apply Kd.N_alloc | apply Kd.N_drewN | apply Kd.N_drew)); exact Kd.N_mono HO_10.out (fun _ hk => ⟨hk.1, ⟨hk.2.1, hk.2.2.2⟩⟩))); (case aS => exact (below_size (bC_ GE176.out))); (case aL => have := LMc15.out; omega); intro v181 w23 ho hb hg hat; rw [← Ny180.out] at ho; have n0_ := Aside0.mk (Kd.N_afterv (ok := (fun k_ => ((P0_ k_ ∨ P3_ k_) ∨ w.heap.size ≤ k_) ∧ some k_ ≠ (.slice Ao19 t177.length co19 : Value).ownBlock ∧ k_ ≠ gb176)) (by (with_reducible repeat (first | apply Kd.N_alloc | apply Kd.N_drewN | apply Kd.N_drew)); exact Kd.N_mono HO_26.out (fun _ hk => ⟨⟨hk.1, ⟨hk.2.2.1, hk.2.2.2⟩⟩, hk.2.1⟩)) hg hat); have n1_ := Aside0.mk (Kd.V_afterv (ok := (fun k_ => ((P0_ k_ ∨ P3_ k_) ∨ w.heap.size ≤ k_) ∧ some k_ ≠ (.slice (some ad175) y172.length co10 : Value).ownBlock ∧ some k_ ≠ (.slice Ao19 t177.length co19 : Value).ownBlock ∧ k_ ≠ gb176)) (by (with_reducible repeat (first | apply Kd.V_alloc | apply Kd.V_drewN | apply Kd.V_drew)); exact Kd.V_mono HL175_3.out (fun _ hk => ⟨⟨hk.1, ⟨hk.2.2.1, ⟨hk.2.2.2.1, hk.2.2.2.2⟩⟩⟩, hk.2.1⟩)) hg hat); have n2_ := Aside0.mk (blk_grown (g := gb176) (o := .cells #[.int .i64 ((rd_T104 y172 x28_1).f0), .int .i64 ((rd_T104 y172 x28_1).f1), .string ((rd_T104 y172 x28_1).f2), .slice Ao19 t177.length co19] 104 (0, 0)) (bK_ BK176.out) hg (Kd.N_away HO_10.out (fun _ hk => hk.2.2.2))); have n3_ := Aside0.mk (hb); have n4_ := Aside0.mk (ho); clear HO_26; clear HL175_3; clear BK176; clear HB; clear HO_10; clear HO179; have HO_26 := n0_; have HL175_3 := n1_; have BK176 := n2_; have HB := n3_; have HO182 := n4_; clear n0_ n1_ n2_ n3_ n4_; clear ho hb hg hat))
         go_roundg k1
         case measure => have := HK1.out; omega
         case rel => exact ⟨(y180), (wrap64 (x28_1 + 1)), rs_, H', ⟨by have := HK1.out; omega⟩, ⟨by (with_reducible repeat (first | apply Kd.N_alloc | apply Kd.N_drewN | apply Kd.N_drew)); exact Kd.N_mono HO182.out (fun _ hk => ⟨hk.1, hk.2.1⟩)⟩, ⟨by (with_reducible repeat (first | apply Kd.N_alloc | apply Kd.N_drewN | apply Kd.N_drew)); exact Kd.N_mono HO_26.out (fun _ hk => ⟨hk.1.1, hk.2⟩)⟩, ⟨bC_ GE176.out⟩⟩
        ·
         rw [if_neg c15] at H
         exact absurd H (by simp)
       ·
        rw [if_neg c13] at H
        exact absurd H (by simp)
      ·
       rw [if_neg c12] at H
       exact absurd H (by simp)
     ·
      rw [if_neg c11] at H
      have c11b0 : decide (x28_1 < (y172.length : Int)) = false := decide_eq_false c11
      clear c11
      simp only [Option.some.injEq, Prod.mk.injEq] at H
      obtain ⟨rfl, rfl⟩ := H
      go_wp2
      go_ret2
      exact ⟨_, er_, by (with_reducible repeat (first | apply Kd.N_alloc | apply Kd.N_drewN | apply Kd.N_drew)); exact Kd.N_mono HO_10.out (fun _ hk => hk.1), bB_⟩
  ·
   rw [if_neg c7] at H
   exact absurd H (by simp)

/-! ### impl_MergeVersions: function 29 -/
def impl_MergeVersions.j0 : Nat → List (S104) → Int → Int → ByteArray → Int → Bool → Option ((List (S104)) × Int)
 | 0, _, _, _, _, _, _ => none
 | k + 1, x0, x1, x2, x3, x10, x17 => if x17 = true then (some (([] : List (S104)), 1)) else (if x10 = 0 then ((impl_commonAncestor.f k x0 x1 x2).bind fun t188 => ((impl_versionState.f x0 t188).bind fun t189 => ((impl_versionState.f x0 x1).bind fun t192 => ((impl_versionState.f x0 x2).bind fun t195 => ((impl_MergeStates.f k t189 t192 t195).bind fun bt198 => (if bt198.2 = 0 then ((impl_withVersion.f k x0 x1 x3 bt198.1).bind fun bt202 => (some (bt202.1, bt202.2))) else (some (([] : List (S104)), bt198.2)))))))) else (some (([] : List (S104)), x10)))
def impl_MergeVersions.f (k : Nat) (l0 : List (S104)) (a1 : Int) (a2 : Int) (a3 : ByteArray) : Option ((List (S104)) × Int) := (impl_versionsCode.f k l0 (([a1, a2] : List Int))).bind fun t186 => (if t186 = 1 then (impl_MergeVersions.j0 k l0 a1 a2 a3 t186 true) else ((impl_memoValid.f k a3).bind fun t187 => (impl_MergeVersions.j0 k l0 a1 a2 a3 t186 (!t187))))
theorem impl_MergeVersions.mono_l : ∀ k, (∀ y0 y1 y2 y3 y4 y5, LeO (impl_MergeVersions.j0 k y0 y1 y2 y3 y4 y5) (impl_MergeVersions.j0 (k + 1) y0 y1 y2 y3 y4 y5))
 | 0 => fun _ _ _ _ _ _ r h => by simp [impl_MergeVersions.j0] at h
 | k + 1 => by
  have ih0 := impl_MergeVersions.mono_l k
  ·
   intro y0 y1 y2 y3 y4 y5
   unfold impl_MergeVersions.j0
   repeat' first
   | (with_reducible exact ih0 _ _ _ _ _ _)
   | (with_reducible exact impl_MergeStates.mono _ _ _ _)
   | (with_reducible exact impl_commonAncestor.mono _ _ _ _)
   | (with_reducible exact impl_memoValid.mono _ _)
   | (with_reducible exact impl_versionsCode.mono _ _ _)
   | (with_reducible exact impl_withVersion.mono _ _ _ _ _)
   | (with_reducible exact LeO.refl _)
   | (with_reducible exact LeO.none _)
   | (with_reducible refine LeO.ite ?_ ?_)
   | (with_reducible refine LeO.bind ?_ (fun _ => ?_))
   | exact ih0 _ _ _ _ _ _
   | exact impl_MergeStates.mono _ _ _ _
   | exact impl_commonAncestor.mono _ _ _ _
   | exact impl_memoValid.mono _ _
   | exact impl_versionsCode.mono _ _ _
   | exact impl_withVersion.mono _ _ _ _ _
   | exact LeO.none _
   | refine LeO.ite ?_ ?_
   | refine LeO.bind ?_ (fun _ => ?_)
theorem impl_MergeVersions.mono : ∀ a0 a1 a2 a3 k, LeO (impl_MergeVersions.f k a0 a1 a2 a3) (impl_MergeVersions.f (k + 1) a0 a1 a2 a3) := by
 intro a0 a1 a2 a3 k
 have ih0 := impl_MergeVersions.mono_l k
 unfold impl_MergeVersions.f
 repeat' first
   | (with_reducible exact ih0 _ _ _ _ _ _)
   | (with_reducible exact impl_MergeStates.mono _ _ _ _)
   | (with_reducible exact impl_commonAncestor.mono _ _ _ _)
   | (with_reducible exact impl_memoValid.mono _ _)
   | (with_reducible exact impl_versionsCode.mono _ _ _)
   | (with_reducible exact impl_withVersion.mono _ _ _ _ _)
   | (with_reducible exact LeO.refl _)
   | (with_reducible exact LeO.none _)
   | (with_reducible refine LeO.ite ?_ ?_)
   | (with_reducible refine LeO.bind ?_ (fun _ => ?_))
   | exact ih0 _ _ _ _ _ _
   | exact impl_MergeStates.mono _ _ _ _
   | exact impl_commonAncestor.mono _ _ _ _
   | exact impl_memoValid.mono _ _
   | exact impl_versionsCode.mono _ _ _
   | exact impl_withVersion.mono _ _ _ _ _
   | exact LeO.none _
   | refine LeO.ite ?_ ?_
   | refine LeO.bind ?_ (fun _ => ?_)
set_option maxHeartbeats 8000000 in
set_option maxRecDepth 100000 in
theorem impl_MergeVersions.calls (k : Nat) (P0_ : Nat → Prop) (A0 : Option Addr) (c0 : Nat) (l0 : List (S104)) (a1 : Int) (a2 : Int) (a3 : ByteArray) (r1 : List (S104)) (r2 : Int) (w : World) (hs0 : Kd.V k104 104 w w.heap.size (fun k_ => P0_ k_) (.slice A0 l0.length c0) l0) (h : impl_MergeVersions.f k l0 a1 a2 a3 = some (r1, r2)) :
  Calls Try.prog 29 #[.slice A0 l0.length c0, .int .i64 a1, .int .i64 a2, .string a3] w fun e w' => ∃ v0_ : Value, e = .returned (.tuple #[v0_, .int .i64 r2]) ∧ Kd.N k104 104 w' w.heap.size (fun k_ => (P0_ k_ ∨ w.heap.size ≤ k_)) v0_ r1 ∧ Below w.heap.size w w' := by
 have HO0 := Aside0.mk (show Kd.V k104 104 w w.heap.size (fun k_ => (P0_ k_ ∨ w.heap.size ≤ k_)) (.slice A0 l0.length c0) l0 from Kd.V_mono hs0 (fun k_ hk => .inl hk))
 have HB := Aside0.mk (Below.refl w.heap.size w)
 have H : ((impl_versionsCode.f k l0 (([a1, a2] : List Int))).bind fun t186 => (if t186 = 1 then (impl_MergeVersions.j0 k l0 a1 a2 a3 t186 true) else ((impl_memoValid.f k a3).bind fun t187 => (impl_MergeVersions.j0 k l0 a1 a2 a3 t186 (!t187))))) = some (r1, r2) := h
 clear h
 obtain ⟨y183, hy183⟩ : ∃ y_ : List Int, y_ = (([a1, a2] : List Int)) := ⟨_, rfl⟩
 replace H : ((impl_versionsCode.f k l0 y183).bind fun t186 => (if t186 = 1 then (impl_MergeVersions.j0 k l0 a1 a2 a3 t186 true) else ((impl_memoValid.f k a3).bind fun t187 => (impl_MergeVersions.j0 k l0 a1 a2 a3 t186 (!t187))))) = some (r1, r2) := by first | (rw [hy183]; with_reducible exact H) | (have H2_ := (Option.bind_some _ _).symm.trans H; rw [hy183]; with_reducible exact H2_) | (have H2_ := (Option.bind_some _ _).symm.trans H; with_reducible exact H2_) | with_reducible exact H | (rw [hy183]; exact H) | exact H
 have Ny183 := Aside0.mk hy183
 clear hy183
 replace H := Option.bind_eq_some_iff.mp H
 obtain ⟨t186, A50, H⟩ := H
 replace H : (if t186 = 1 then (impl_MergeVersions.j0 k l0 a1 a2 a3 t186 true) else ((impl_memoValid.f k a3).bind fun t187 => (impl_MergeVersions.j0 k l0 a1 a2 a3 t186 (!t187)))) = some (r1, r2) := H
 have A5 := Aside0.mk A50
 clear A50
 have HC6 := Aside0.mk H
 clear H
 go_enter Try.func29, Try.ntmps29
 go_upto_region 2 with (first | ((with_reducible refine gate_dst (N := 15) rfl ?_); refine Kd.R_lit (Kd.int .i64) _ 2 ?hg (N := 15) ?hd (xs := ([a1, a2] : List Int)) (inner := [.int .i64 a1, .int .i64 a2]) (ok := fun _ => True) (okp := fun _ => True) ?hr ?hp (fun _ hk => hk) trivial (Below.refl _ _) (Nat.le_refl _) (by simp) ?_; (case hd => rfl); (case hg => rfl); (case hr => first | (go_simp; done) | (go_simp; rfl)); (case hp => exact (Reps.one (show Kd.M (Kd.int .i64) _ _ _ a1 [.int .i64 a1] from rfl) (Reps.one (show Kd.M (Kd.int .i64) _ _ _ a2 [.int .i64 a2] from rfl) (Reps.none _ _)))); intro v184 w7 ho8 hb hg_ hnew_; clear hg_ hnew_; (first | rw [← Ny183.out] at ho8 | (simp only [Int.reduceToNat] at ho8; rw [← Ny183.out] at ho8)); have n0_ := Aside0.mk (Kd.V_elder' (vA_ HO0.out) (Kd.R_base ho8) hb); have n1_ := Aside0.mk (Kd.R_lower (Kd.R_newM (M := fun k_ => (w.heap.size ≤ k_)) ho8 (below_size bB_) (fun k_ h_ => h_)) (below_size bB_)); have n2_ := Aside0.mk (below_step bB_ hb); clear HO0; clear HB; have HO0 := n0_; have HO185 := n1_; have HB := n2_; clear n0_ n1_ n2_; clear hb ho8; obtain ⟨Ao9, co9, eo9⟩ := Kd.R_slice HO185.out; subst eo9) | ((with_reducible refine gate_callee (f := 75) rfl ?_); refine goesL_ (some 16) rfl rfl Try.func75 (by kernel_rfl) rfl #[.slice A0 l0.length c0, .slice Ao9 y183.length co9] rfl mT_ ?_; (with_reducible refine (impl_versionsCode.calls k _ _ l0 _ _ y183 t186 _ ?side1 ?side2 ?side3 ?side4 A5.out).mono ?_); (case side1 => repeat (first | exact (Kd.V_reads' HO0.out).2.2 | (with_reducible refine Kd.C_alloc ?_ _) | (with_reducible refine Kd.C_drewN ?_ _) | (with_reducible refine Kd.C_drew ?_))); (case side2 => exact (Kd.V_reads' HO0.out).2.1); (case side3 => repeat (first | exact (Kd.R_reads' HO185.out).2.2 | (with_reducible refine Kd.C_alloc ?_ _) | (with_reducible refine Kd.C_drewN ?_ _) | (with_reducible refine Kd.C_drew ?_))); (case side4 => exact (Kd.R_reads' HO185.out).2.1); rintro e w10 ⟨rfl, hb⟩; refine ⟨_, rfl, ?_⟩; have n0_ := Aside0.mk (Kd.V_below (vA_ HO0.out) hb); have n1_ := Aside0.mk (Kd.R_below (rA_ HO185.out) hb); have n2_ := Aside0.mk (below_step bB_ hb); clear HO0; clear HO185; clear HB; have HO0 := n0_; have HO185 := n1_; have HB := n2_; clear n0_ n1_ n2_; (try clear hb); (try clear hb2); (try clear hk); (try clear hi)))
 (try simp only [Act.put, List.setIfInBounds_toArray, List.set_cons_zero, List.set_cons_succ])
 go_cut [17] (fun v17 wc => ∃ (kq : Nat) (x17_5 : Bool), v17 = .bool x17_5 ∧ Aside0 (impl_MergeVersions.j0 kq l0 a1 a2 a3 t186 x17_5 = some (r1, r2)) ∧ Aside0 (kq ≤ k) ∧ Aside0 (Kd.V k104 104 wc w.heap.size (fun k_ => (P0_ k_ ∨ w.heap.size ≤ k_)) (.slice A0 l0.length c0) l0) ∧ Aside0 (Below w.heap.size w wc))
 case first =>
  have H := HC6.out
  clear HC6
  by_cases c11 : t186 = 1
  ·
   rw [if_pos c11] at H
   have c11b0 : (t186 == 1) = true := beq_iff_eq.mpr c11
   have c11b1 : (t186 != 1) = false := bne_eq_false_iff_eq.mpr c11
   clear c11
   (first | rw [c11b0] | (simp only [i64_w, i32_w]; rw [c11b0]) | skip)
   have H' := Aside0.mk H
   clear H
   go_wp2
   go_meet
   case rel => exact ⟨_, (true), rs_, H', ⟨by first | omega | exact Nat.le_refl _⟩, ⟨by (with_reducible repeat (first | apply Kd.V_alloc | apply Kd.V_drewN | apply Kd.V_drew)); exact Kd.V_mono HO0.out (fun _ hk => hk.1)⟩, ⟨bB_⟩⟩
  ·
   rw [if_neg c11] at H
   have c11b0 : (t186 == 1) = false := beq_eq_false_iff_ne.mpr c11
   have c11b1 : (t186 != 1) = true := bne_iff_ne.mpr c11
   (first | rw [c11b0] | (simp only [i64_w, i32_w]; rw [c11b0]) | skip)
   replace H := Option.bind_eq_some_iff.mp H
   obtain ⟨t187, A120, H⟩ := H
   replace H : (impl_MergeVersions.j0 k l0 a1 a2 a3 t186 (!t187)) = some (r1, r2) := H
   have A12 := Aside0.mk A120
   clear A120
   have H' := Aside0.mk H
   clear H
   go_wp2_with (first | (go_at_call 76; (with_reducible refine (impl_memoValid.calls k a3 t187 _ A12.out).mono ?_); rintro e w' ⟨rfl, ⟨nd, rfl⟩⟩))
   go_meet
   case rel => exact ⟨_, (!t187), rs_, H', ⟨by first | omega | exact Nat.le_refl _⟩, ⟨by (with_reducible repeat (first | apply Kd.V_alloc | apply Kd.V_drewN | apply Kd.V_drew)); exact Kd.V_mono HO0.out (fun _ hk => hk.1)⟩, ⟨bB_⟩⟩
 case rest =>
  clear HC6
  try clear c1
  try clear c2
  try clear p2
  try clear c7
  try clear c11
  try clear c11b0
  try clear c11b1
  obtain ⟨kq, x17_5, rfl, HA, HJ5, HO_0, HB⟩ := hcut
  cases kq with
  | zero => exact absurd HA.out (by simp [impl_MergeVersions.j0])
  | succ kj5 =>
   have H := HA.out
   clear HA
   simp only [impl_MergeVersions.j0] at H
   by_cases c13 : x17_5 = true
   ·
    subst c13
    have H1 : (some (([] : List (S104)), 1)) = some (r1, r2) := by rw [if_pos rfl] at H; exact H
    clear H
    have H := H1
    clear H1
    simp only [Option.some.injEq, Prod.mk.injEq] at H
    obtain ⟨rfl, rfl⟩ := H
    go_wp2
    go_ret2
    exact ⟨_, er_, by first | exact Kd.S_nil _ _ _ _ _ | exact Kd.N_nil _ _ _ _ _ | exact Kd.V_nil _ _ _ _ _ | exact Kd.Q_nil _ _ _ _ _ | exact Kd.R_nil _ _ _ _ _, bB_⟩
   ·
    replace c13 := Bool.eq_false_iff.mpr c13
    subst c13
    have H1 : (if t186 = 0 then ((impl_commonAncestor.f kj5 l0 a1 a2).bind fun t188 => ((impl_versionState.f l0 t188).bind fun t189 => ((impl_versionState.f l0 a1).bind fun t192 => ((impl_versionState.f l0 a2).bind fun t195 => ((impl_MergeStates.f kj5 t189 t192 t195).bind fun bt198 => (if bt198.2 = 0 then ((impl_withVersion.f kj5 l0 a1 a3 bt198.1).bind fun bt202 => (some (bt202.1, bt202.2))) else (some (([] : List (S104)), bt198.2)))))))) else (some (([] : List (S104)), t186))) = some (r1, r2) := by rw [if_neg (show ¬ (false = true) by decide)] at H; exact H
    clear H
    have H := H1
    clear H1
    by_cases c14 : t186 = 0
    ·
     rw [if_pos c14] at H
     have c14b0 : (t186 == 0) = true := beq_iff_eq.mpr c14
     have c14b1 : (t186 != 0) = false := bne_eq_false_iff_eq.mpr c14
     clear c14
     replace H := Option.bind_eq_some_iff.mp H
     obtain ⟨t188, A150, H⟩ := H
     replace H : ((impl_versionState.f l0 t188).bind fun t189 => ((impl_versionState.f l0 a1).bind fun t192 => ((impl_versionState.f l0 a2).bind fun t195 => ((impl_MergeStates.f kj5 t189 t192 t195).bind fun bt198 => (if bt198.2 = 0 then ((impl_withVersion.f kj5 l0 a1 a3 bt198.1).bind fun bt202 => (some (bt202.1, bt202.2))) else (some (([] : List (S104)), bt198.2))))))) = some (r1, r2) := H
     have A15 := Aside0.mk A150
     clear A150
     replace H := Option.bind_eq_some_iff.mp H
     obtain ⟨t189, A160, H⟩ := H
     replace H : ((impl_versionState.f l0 a1).bind fun t192 => ((impl_versionState.f l0 a2).bind fun t195 => ((impl_MergeStates.f kj5 t189 t192 t195).bind fun bt198 => (if bt198.2 = 0 then ((impl_withVersion.f kj5 l0 a1 a3 bt198.1).bind fun bt202 => (some (bt202.1, bt202.2))) else (some (([] : List (S104)), bt198.2)))))) = some (r1, r2) := H
     have A16 := Aside0.mk A160
     clear A160
     replace H := Option.bind_eq_some_iff.mp H
     obtain ⟨t192, A170, H⟩ := H
     replace H : ((impl_versionState.f l0 a2).bind fun t195 => ((impl_MergeStates.f kj5 t189 t192 t195).bind fun bt198 => (if bt198.2 = 0 then ((impl_withVersion.f kj5 l0 a1 a3 bt198.1).bind fun bt202 => (some (bt202.1, bt202.2))) else (some (([] : List (S104)), bt198.2))))) = some (r1, r2) := H
     have A17 := Aside0.mk A170
     clear A170
     replace H := Option.bind_eq_some_iff.mp H
     obtain ⟨t195, A180, H⟩ := H
     replace H : ((impl_MergeStates.f kj5 t189 t192 t195).bind fun bt198 => (if bt198.2 = 0 then ((impl_withVersion.f kj5 l0 a1 a3 bt198.1).bind fun bt202 => (some (bt202.1, bt202.2))) else (some (([] : List (S104)), bt198.2)))) = some (r1, r2) := H
     have A18 := Aside0.mk A180
     clear A180
     replace H := Option.bind_eq_some_iff.mp H
     obtain ⟨⟨t198, t201⟩, A190, H⟩ := H
     replace H : (if t201 = 0 then ((impl_withVersion.f kj5 l0 a1 a3 t198).bind fun bt202 => (some (bt202.1, bt202.2))) else (some (([] : List (S104)), t201))) = some (r1, r2) := H
     have A19 := Aside0.mk A190
     clear A190
     by_cases c20 : t201 = 0
     ·
      rw [if_pos c20] at H
      have c20b0 : (t201 == 0) = true := beq_iff_eq.mpr c20
      have c20b1 : (t201 != 0) = false := bne_eq_false_iff_eq.mpr c20
      clear c20
      replace H := Option.bind_eq_some_iff.mp H
      obtain ⟨⟨t202, t205⟩, A210, H⟩ := H
      replace H : (some (t202, t205)) = some (r1, r2) := H
      have A21 := Aside0.mk A210
      clear A210
      simp only [Option.some.injEq, Prod.mk.injEq] at H
      obtain ⟨rfl, rfl⟩ := H
      go_wp2_with (first | ((with_reducible refine gate_callee (f := 78) rfl ?_); refine goesL_ (some 34) rfl rfl Try.func78 (by kernel_rfl) rfl #[.slice A0 l0.length c0, .int .i64 a1, .int .i64 a2] rfl mT_ ?_; (with_reducible refine (impl_commonAncestor.calls kj5 _ _ l0 a1 a2 t188 _ ?side1 ?side2 A15.out).mono ?_); (case side1 => repeat (first | exact (Kd.V_reads' HO_0.out).2.2 | (with_reducible refine Kd.C_alloc ?_ _) | (with_reducible refine Kd.C_drewN ?_ _) | (with_reducible refine Kd.C_drew ?_))); (case side2 => exact (Kd.V_reads' HO_0.out).2.1); rintro e w22 ⟨rfl, hb⟩; refine ⟨_, rfl, ?_⟩; have n0_ := Aside0.mk (Kd.V_below (vA_ HO_0.out) hb); have n1_ := Aside0.mk (below_step bB_ hb); clear HO_0; clear HB; have HO_0 := n0_; have HB := n1_; clear n0_ n1_; (try clear hb); (try clear hb2); (try clear hk); (try clear hi)) | ((with_reducible refine gate_callee (f := 77) rfl ?_); refine goesL_ (some 35) rfl rfl Try.func77 (by kernel_rfl) rfl #[.slice A0 l0.length c0, .int .i64 t188] rfl mT_ ?_; (with_reducible refine (impl_versionState.calls (fun k_ => (P0_ k_ ∨ w.heap.size ≤ k_)) _ _ l0 t188 t189 _ ?side1 A16.out).mono ?_); (case side1 => exact HO_0.out); rintro e w23 ⟨v190, rfl, ho0, hb⟩; refine ⟨_, rfl, ?_⟩; have n0_ := Aside0.mk (Kd.V_below (vA_ HO_0.out) hb); have n1_ := Aside0.mk (Kd.V_lower (Kd.V_mono (ok' := fun k_ => (P0_ k_ ∨ w.heap.size ≤ k_)) ho0 (fun k_ hk_ => Or.elim hk_ (fun hs_ => hs_) (fun hn_ => (.inr (Nat.le_trans (below_size bB_) hn_))))) (below_size bB_)); have n2_ := Aside0.mk (below_step bB_ hb); clear HO_0; clear HB; have HO_0 := n0_; have HO191 := n1_; have HB := n2_; clear n0_ n1_ n2_; (try clear hb); (try clear hb2); (try clear hk); (try clear hi); (try clear ho0)) | ((with_reducible refine gate_callee (f := 77) rfl ?_); refine goesL_ (some 38) rfl rfl Try.func77 (by kernel_rfl) rfl #[.slice A0 l0.length c0, .int .i64 a1] rfl mT_ ?_; (with_reducible refine (impl_versionState.calls (fun k_ => (P0_ k_ ∨ w.heap.size ≤ k_)) _ _ l0 a1 t192 _ ?side1 A17.out).mono ?_); (case side1 => exact HO_0.out); rintro e w24 ⟨v193, rfl, ho0, hb⟩; refine ⟨_, rfl, ?_⟩; have n0_ := Aside0.mk (Kd.V_below (vA_ HO_0.out) hb); have n1_ := Aside0.mk (Kd.V_below (vA_ HO191.out) hb); have n2_ := Aside0.mk (Kd.V_lower (Kd.V_mono (ok' := fun k_ => (P0_ k_ ∨ w.heap.size ≤ k_)) ho0 (fun k_ hk_ => Or.elim hk_ (fun hs_ => hs_) (fun hn_ => (.inr (Nat.le_trans (below_size bB_) hn_))))) (below_size bB_)); have n3_ := Aside0.mk (below_step bB_ hb); clear HO_0; clear HO191; clear HB; have HO_0 := n0_; have HO191 := n1_; have HO194 := n2_; have HB := n3_; clear n0_ n1_ n2_ n3_; (try clear hb); (try clear hb2); (try clear hk); (try clear hi); (try clear ho0)) | ((with_reducible refine gate_callee (f := 77) rfl ?_); refine goesL_ (some 41) rfl rfl Try.func77 (by kernel_rfl) rfl #[.slice A0 l0.length c0, .int .i64 a2] rfl mT_ ?_; (with_reducible refine (impl_versionState.calls (fun k_ => (P0_ k_ ∨ w.heap.size ≤ k_)) _ _ l0 a2 t195 _ ?side1 A18.out).mono ?_); (case side1 => exact HO_0.out); rintro e w25 ⟨v196, rfl, ho0, hb⟩; refine ⟨_, rfl, ?_⟩; have n0_ := Aside0.mk (Kd.V_below (vA_ HO_0.out) hb); have n1_ := Aside0.mk (Kd.V_below (vA_ HO191.out) hb); have n2_ := Aside0.mk (Kd.V_below (vA_ HO194.out) hb); have n3_ := Aside0.mk (Kd.V_lower (Kd.V_mono (ok' := fun k_ => (P0_ k_ ∨ w.heap.size ≤ k_)) ho0 (fun k_ hk_ => Or.elim hk_ (fun hs_ => hs_) (fun hn_ => (.inr (Nat.le_trans (below_size bB_) hn_))))) (below_size bB_)); have n4_ := Aside0.mk (below_step bB_ hb); clear HO_0; clear HO191; clear HO194; clear HB; have HO_0 := n0_; have HO191 := n1_; have HO194 := n2_; have HO197 := n3_; have HB := n4_; clear n0_ n1_ n2_ n3_ n4_; (try clear hb); (try clear hb2); (try clear hk); (try clear hi); (try clear ho0); obtain ⟨Ao26, co26, eo26⟩ := Kd.V_slice HO191.out; subst eo26; obtain ⟨Ao27, co27, eo27⟩ := Kd.V_slice HO194.out; subst eo27; obtain ⟨Ao28, co28, eo28⟩ := Kd.V_slice HO197.out; subst eo28) | ((with_reducible refine gate_callee (f := 25) rfl ?_); refine goesL_ (some 42) rfl rfl Try.func25 (by kernel_rfl) rfl #[.slice Ao26 t189.length co26, .slice Ao27 t192.length co27, .slice Ao28 t195.length co28] rfl mT_ ?_; (with_reducible refine (impl_MergeStates.calls kj5 (fun k_ => (P0_ k_ ∨ w.heap.size ≤ k_)) _ _ t189 (fun k_ => (P0_ k_ ∨ w.heap.size ≤ k_)) _ _ t192 (fun k_ => (P0_ k_ ∨ w.heap.size ≤ k_)) _ _ t195 t198 t201 _ ?side1 ?side2 ?side3 A19.out).mono ?_); (case side1 => exact HO191.out); (case side2 => exact HO194.out); (case side3 => exact HO197.out); rintro e w29 ⟨v199, rfl, ho0, hb⟩; refine ⟨_, rfl, ?_⟩; have n0_ := Aside0.mk (Kd.V_elder' (vA_ HO_0.out) (Kd.R_base ho0) hb); have n1_ := Aside0.mk (Kd.V_elder' (vA_ HO191.out) (Kd.R_base ho0) hb); have n2_ := Aside0.mk (Kd.V_elder' (vA_ HO194.out) (Kd.R_base ho0) hb); have n3_ := Aside0.mk (Kd.V_elder' (vA_ HO197.out) (Kd.R_base ho0) hb); have n4_ := Aside0.mk (Kd.R_lower (Kd.R_newM (M := fun k_ => (w.heap.size ≤ k_)) (Kd.R_mono (ok' := fun k_ => True) ho0 (fun _ hk_ => trivial)) (below_size bB_) (fun k_ h_ => h_)) (below_size bB_)); have n5_ := Aside0.mk (below_step bB_ hb); clear HO_0; clear HO191; clear HO194; clear HO197; clear HB; have HO_0 := n0_; have HO191 := n1_; have HO194 := n2_; have HO197 := n3_; have HO200 := n4_; have HB := n5_; clear n0_ n1_ n2_ n3_ n4_ n5_; (try clear hb); (try clear hb2); (try clear hk); (try clear hi); (try clear ho0); obtain ⟨Ao30, co30, eo30⟩ := Kd.R_slice HO200.out; subst eo30) | ((with_reducible refine gate_callee (f := 79) rfl ?_); refine goesL_ (some 52) rfl rfl Try.func79 (by kernel_rfl) rfl #[.slice A0 l0.length c0, .int .i64 a1, .string a3, .slice Ao30 t198.length co30] rfl mT_ ?_; (with_reducible refine (impl_withVersion.calls kj5 (fun k_ => ((P0_ k_ ∨ w.heap.size ≤ k_) ∧ some k_ ≠ (.slice Ao30 t198.length co30 : Value).ownBlock)) _ _ l0 a1 a3 (fun k_ => some k_ = (.slice Ao30 t198.length co30 : Value).ownBlock) _ _ t198 t202 t205 _ ?side1 ?side2 A21.out).mono ?_); (case side1 => exact HO_0.out); (case side2 => exact Kd.R_V (Kd.R_tight rfl (HO200.out))); rintro e w31 ⟨v203, rfl, ho0, hb⟩; refine ⟨_, rfl, ?_⟩; have n0_ := Aside0.mk (Kd.V_elder' (vA_ HO_0.out) (Kd.N_base ho0) hb); have n1_ := Aside0.mk (Kd.V_elder' (vA_ HO191.out) (Kd.N_base ho0) hb); have n2_ := Aside0.mk (Kd.V_elder' (vA_ HO194.out) (Kd.N_base ho0) hb); have n3_ := Aside0.mk (Kd.V_elder' (vA_ HO197.out) (Kd.N_base ho0) hb); have n4_ := Aside0.mk (Kd.R_below (rA_ HO200.out) hb); have n5_ := Aside0.mk (Kd.N_lower (Kd.N_mono (ok' := fun k_ => (P0_ k_ ∨ w.heap.size ≤ k_)) ho0 (fun k_ hk_ => Or.elim hk_ (fun hs_ => Or.elim hs_ (fun hs_ => hs_.1) (fun hs_ => (.inr (((HO200.out).1 k_ hs_.symm).1)))) (fun hn_ => (.inr (Nat.le_trans (below_size bB_) hn_))))) (below_size bB_)); have n6_ := Aside0.mk (below_step bB_ hb); clear HO_0; clear HO191; clear HO194; clear HO197; clear HO200; clear HB; have HO_0 := n0_; have HO191 := n1_; have HO194 := n2_; have HO197 := n3_; have HO200 := n4_; have HO204 := n5_; have HB := n6_; clear n0_ n1_ n2_ n3_ n4_ n5_ n6_; (try clear hb); (try clear hb2); (try clear hk); (try clear hi); (try clear ho0)))
      go_ret2
      exact ⟨_, er_, nA_ HO204.out, bB_⟩
     ·
      rw [if_neg c20] at H
      have c20b0 : (t201 == 0) = false := beq_eq_false_iff_ne.mpr c20
      have c20b1 : (t201 != 0) = true := bne_iff_ne.mpr c20
      simp only [Option.some.injEq, Prod.mk.injEq] at H
      obtain ⟨rfl, rfl⟩ := H
      go_wp2_with (first | ((with_reducible refine gate_callee (f := 78) rfl ?_); refine goesL_ (some 34) rfl rfl Try.func78 (by kernel_rfl) rfl #[.slice A0 l0.length c0, .int .i64 a1, .int .i64 a2] rfl mT_ ?_; (with_reducible refine (impl_commonAncestor.calls kj5 _ _ l0 a1 a2 t188 _ ?side1 ?side2 A15.out).mono ?_); (case side1 => repeat (first | exact (Kd.V_reads' HO_0.out).2.2 | (with_reducible refine Kd.C_alloc ?_ _) | (with_reducible refine Kd.C_drewN ?_ _) | (with_reducible refine Kd.C_drew ?_))); (case side2 => exact (Kd.V_reads' HO_0.out).2.1); rintro e w32 ⟨rfl, hb⟩; refine ⟨_, rfl, ?_⟩; have n0_ := Aside0.mk (Kd.V_below (vA_ HO_0.out) hb); have n1_ := Aside0.mk (below_step bB_ hb); clear HO_0; clear HB; have HO_0 := n0_; have HB := n1_; clear n0_ n1_; (try clear hb); (try clear hb2); (try clear hk); (try clear hi)) | ((with_reducible refine gate_callee (f := 77) rfl ?_); refine goesL_ (some 35) rfl rfl Try.func77 (by kernel_rfl) rfl #[.slice A0 l0.length c0, .int .i64 t188] rfl mT_ ?_; (with_reducible refine (impl_versionState.calls (fun k_ => (P0_ k_ ∨ w.heap.size ≤ k_)) _ _ l0 t188 t189 _ ?side1 A16.out).mono ?_); (case side1 => exact HO_0.out); rintro e w33 ⟨v190, rfl, ho0, hb⟩; refine ⟨_, rfl, ?_⟩; have n0_ := Aside0.mk (Kd.V_below (vA_ HO_0.out) hb); have n1_ := Aside0.mk (Kd.V_lower (Kd.V_mono (ok' := fun k_ => (P0_ k_ ∨ w.heap.size ≤ k_)) ho0 (fun k_ hk_ => Or.elim hk_ (fun hs_ => hs_) (fun hn_ => (.inr (Nat.le_trans (below_size bB_) hn_))))) (below_size bB_)); have n2_ := Aside0.mk (below_step bB_ hb); clear HO_0; clear HB; have HO_0 := n0_; have HO191 := n1_; have HB := n2_; clear n0_ n1_ n2_; (try clear hb); (try clear hb2); (try clear hk); (try clear hi); (try clear ho0)) | ((with_reducible refine gate_callee (f := 77) rfl ?_); refine goesL_ (some 38) rfl rfl Try.func77 (by kernel_rfl) rfl #[.slice A0 l0.length c0, .int .i64 a1] rfl mT_ ?_; (with_reducible refine (impl_versionState.calls (fun k_ => (P0_ k_ ∨ w.heap.size ≤ k_)) _ _ l0 a1 t192 _ ?side1 A17.out).mono ?_); (case side1 => exact HO_0.out); rintro e w34 ⟨v193, rfl, ho0, hb⟩; refine ⟨_, rfl, ?_⟩; have n0_ := Aside0.mk (Kd.V_below (vA_ HO_0.out) hb); have n1_ := Aside0.mk (Kd.V_below (vA_ HO191.out) hb); have n2_ := Aside0.mk (Kd.V_lower (Kd.V_mono (ok' := fun k_ => (P0_ k_ ∨ w.heap.size ≤ k_)) ho0 (fun k_ hk_ => Or.elim hk_ (fun hs_ => hs_) (fun hn_ => (.inr (Nat.le_trans (below_size bB_) hn_))))) (below_size bB_)); have n3_ := Aside0.mk (below_step bB_ hb); clear HO_0; clear HO191; clear HB; have HO_0 := n0_; have HO191 := n1_; have HO194 := n2_; have HB := n3_; clear n0_ n1_ n2_ n3_; (try clear hb); (try clear hb2); (try clear hk); (try clear hi); (try clear ho0)) | ((with_reducible refine gate_callee (f := 77) rfl ?_); refine goesL_ (some 41) rfl rfl Try.func77 (by kernel_rfl) rfl #[.slice A0 l0.length c0, .int .i64 a2] rfl mT_ ?_; (with_reducible refine (impl_versionState.calls (fun k_ => (P0_ k_ ∨ w.heap.size ≤ k_)) _ _ l0 a2 t195 _ ?side1 A18.out).mono ?_); (case side1 => exact HO_0.out); rintro e w35 ⟨v196, rfl, ho0, hb⟩; refine ⟨_, rfl, ?_⟩; have n0_ := Aside0.mk (Kd.V_below (vA_ HO_0.out) hb); have n1_ := Aside0.mk (Kd.V_below (vA_ HO191.out) hb); have n2_ := Aside0.mk (Kd.V_below (vA_ HO194.out) hb); have n3_ := Aside0.mk (Kd.V_lower (Kd.V_mono (ok' := fun k_ => (P0_ k_ ∨ w.heap.size ≤ k_)) ho0 (fun k_ hk_ => Or.elim hk_ (fun hs_ => hs_) (fun hn_ => (.inr (Nat.le_trans (below_size bB_) hn_))))) (below_size bB_)); have n4_ := Aside0.mk (below_step bB_ hb); clear HO_0; clear HO191; clear HO194; clear HB; have HO_0 := n0_; have HO191 := n1_; have HO194 := n2_; have HO197 := n3_; have HB := n4_; clear n0_ n1_ n2_ n3_ n4_; (try clear hb); (try clear hb2); (try clear hk); (try clear hi); (try clear ho0); obtain ⟨Ao36, co36, eo36⟩ := Kd.V_slice HO191.out; subst eo36; obtain ⟨Ao37, co37, eo37⟩ := Kd.V_slice HO194.out; subst eo37; obtain ⟨Ao38, co38, eo38⟩ := Kd.V_slice HO197.out; subst eo38) | ((with_reducible refine gate_callee (f := 25) rfl ?_); refine goesL_ (some 42) rfl rfl Try.func25 (by kernel_rfl) rfl #[.slice Ao36 t189.length co36, .slice Ao37 t192.length co37, .slice Ao38 t195.length co38] rfl mT_ ?_; (with_reducible refine (impl_MergeStates.calls kj5 (fun k_ => (P0_ k_ ∨ w.heap.size ≤ k_)) _ _ t189 (fun k_ => (P0_ k_ ∨ w.heap.size ≤ k_)) _ _ t192 (fun k_ => (P0_ k_ ∨ w.heap.size ≤ k_)) _ _ t195 t198 t201 _ ?side1 ?side2 ?side3 A19.out).mono ?_); (case side1 => exact HO191.out); (case side2 => exact HO194.out); (case side3 => exact HO197.out); rintro e w39 ⟨v199, rfl, ho0, hb⟩; refine ⟨_, rfl, ?_⟩; have n0_ := Aside0.mk (Kd.V_elder' (vA_ HO_0.out) (Kd.R_base ho0) hb); have n1_ := Aside0.mk (Kd.V_elder' (vA_ HO191.out) (Kd.R_base ho0) hb); have n2_ := Aside0.mk (Kd.V_elder' (vA_ HO194.out) (Kd.R_base ho0) hb); have n3_ := Aside0.mk (Kd.V_elder' (vA_ HO197.out) (Kd.R_base ho0) hb); have n4_ := Aside0.mk (Kd.R_lower (Kd.R_newM (M := fun k_ => (w.heap.size ≤ k_)) (Kd.R_mono (ok' := fun k_ => True) ho0 (fun _ hk_ => trivial)) (below_size bB_) (fun k_ h_ => h_)) (below_size bB_)); have n5_ := Aside0.mk (below_step bB_ hb); clear HO_0; clear HO191; clear HO194; clear HO197; clear HB; have HO_0 := n0_; have HO191 := n1_; have HO194 := n2_; have HO197 := n3_; have HO200 := n4_; have HB := n5_; clear n0_ n1_ n2_ n3_ n4_ n5_; (try clear hb); (try clear hb2); (try clear hk); (try clear hi); (try clear ho0)))
      go_ret2
      exact ⟨_, er_, by first | exact Kd.S_nil _ _ _ _ _ | exact Kd.N_nil _ _ _ _ _ | exact Kd.V_nil _ _ _ _ _ | exact Kd.Q_nil _ _ _ _ _ | exact Kd.R_nil _ _ _ _ _, bB_⟩
    ·
     rw [if_neg c14] at H
     have c14b0 : (t186 == 0) = false := beq_eq_false_iff_ne.mpr c14
     have c14b1 : (t186 != 0) = true := bne_iff_ne.mpr c14
     simp only [Option.some.injEq, Prod.mk.injEq] at H
     obtain ⟨rfl, rfl⟩ := H
     go_wp2
     go_ret2
     exact ⟨_, er_, by first | exact Kd.S_nil _ _ _ _ _ | exact Kd.N_nil _ _ _ _ _ | exact Kd.V_nil _ _ _ _ _ | exact Kd.Q_nil _ _ _ _ _ | exact Kd.R_nil _ _ _ _ _, bB_⟩

/-! ### laws_r8Long: function 33 -/
def laws_r8Long.f (l0 : List Int) (l1 : List Int) : Option (Bool) := if (l0.length : Int) > 1048576 then (some true) else (some (decide ((l1.length : Int) > 1048576)))
set_option maxHeartbeats 8000000 in
set_option maxRecDepth 100000 in
theorem laws_r8Long.calls (A0 : Option Addr) (c0 : Nat) (l0 : List Int) (A1 : Option Addr) (c1 : Nat) (l1 : List Int) (r : Bool) (w : World) (hr0 : Kd.C (Kd.int .u8) w A0 l0.length l0) (hc0 : l0.length ≤ c0) (hr1 : Kd.C (Kd.int .u8) w A1 l1.length l1) (hc1 : l1.length ≤ c1) (h : laws_r8Long.f l0 l1 = some r) :
  Calls Try.prog 33 #[.slice A0 l0.length c0, .slice A1 l1.length c1] w fun e w' => e = .returned (.bool r) ∧ Drawn0 w w' := by
 have HR0 := Aside0.mk hr0
 have HC0 := Aside0.mk hc0
 clear hr0 hc0
 have HR1 := Aside0.mk hr1
 have HC1 := Aside0.mk hc1
 clear hr1 hc1
 have H : (if (l0.length : Int) > 1048576 then (some true) else (some (decide ((l1.length : Int) > 1048576)))) = some r := h
 clear h
 by_cases c3 : (l0.length : Int) > 1048576
 ·
  rw [if_pos c3] at H
  have c3b0 : decide (1048576 < (l0.length : Int)) = true := decide_eq_true c3
  have c3b1 : decide (1048576 < l0.length) = true := decide_eq_true (by omega)
  clear c3
  obtain rfl := Option.some.inj H
  go_enter Try.func33, Try.ntmps33
  go_wp2
  go_ret
  exact ⟨rs_, dr_⟩
 ·
  rw [if_neg c3] at H
  have c3b0 : decide (1048576 < (l0.length : Int)) = false := decide_eq_false c3
  have c3b1 : decide (1048576 < l0.length) = false := decide_eq_false (by omega)
  clear c3
  obtain rfl := Option.some.inj H
  go_enter Try.func33, Try.ntmps33
  go_wp2
  go_ret
  exact ⟨rs_, dr_⟩

/-- A state of type 135 at block g of W; what its slices lead to came in by w0. -/
def IsS135 (w0 W : World) (g : Nat) (f0 : List Int) (f1 : Int) (f2 : Int) : Prop := ∃ A0 c0, W.heap[g]? = some (.cells #[.slice A0 f0.length c0, .int .i64 f1, .int .u64 f2] 135 (0, 0)) ∧ w0.heap.size ≤ g ∧ Kd.C (Kd.int .u8) w0 A0 f0.length f0
theorem IsS135.grown {w0 W : World} {g : Nat} {f0 : List Int} {f1 : Int} {f2 : Int} {W1 : World} {row : Option Nat} (h : IsS135 w0 W g f0 f1 f2) (hw : W.grownBy W1 row) (hne : some g ≠ row) : IsS135 w0 W1 g f0 f1 f2 := by
 obtain ⟨A0, c0, hb, hg, hr0⟩ := h
 exact ⟨A0, c0, blk_grown hb hw hne, hg, hr0⟩
theorem IsS135.own_neN {w0 W : World} {g : Nat} {f0 : List Int} {f1 : Int} {f2 : Int} {α : Type} {d : Kd α} {e : Nat} {base : Nat} {ok : Nat → Prop} {v : Value} {xs : List α} (h : IsS135 w0 W g f0 f1 f2) (ho : Kd.N d e W base ok v xs) (ht : e ≠ 135) : some g ≠ v.ownBlock := by
 obtain ⟨A0, c0, hb, hg, hr0⟩ := h
 exact Kd.N_ne ho hb ht
theorem IsS135.fresh {w0 W : World} {g : Nat} {f0 : List Int} {f1 : Int} {f2 : Int} (h : IsS135 w0 W g f0 f1 f2) : ∀ k, W.heap.size ≤ k → k ≠ g := by
 obtain ⟨A0, c0, hb, hg, hr0⟩ := h
 exact Kd.freshB hb
theorem IsS135.kept {w0 W : World} {g : Nat} {f0 : List Int} {f1 : Int} {f2 : Int} {W1 : World} {S : Nat → Prop} (h : IsS135 w0 W g f0 f1 f2) (hk : Kept W W1 S) (hne : ¬ S g) : IsS135 w0 W1 g f0 f1 f2 := by
 obtain ⟨A0, c0, hb, hg, hr0⟩ := h
 exact ⟨A0, c0, blk_kept hb hk hne, hg, hr0⟩
theorem IsS135.below {w0 W : World} {g : Nat} {f0 : List Int} {f1 : Int} {f2 : Int} {W1 : World} (h : IsS135 w0 W g f0 f1 f2) (hw : Below W.heap.size W W1) : IsS135 w0 W1 g f0 f1 f2 := h.grown (grown_of_below hw none) (by simp)
theorem IsS135.alloc {w0 W : World} {g : Nat} {f0 : List Int} {f1 : Int} {f2 : Int} (h : IsS135 w0 W g f0 f1 f2) (o : Obj) : IsS135 w0 (W.alloc o) g f0 f1 f2 := h.below (below_alloc (Below.refl _ _) o)
theorem IsS135.drewN {w0 W : World} {g : Nat} {f0 : List Int} {f1 : Int} {f2 : Int} (h : IsS135 w0 W g f0 f1 f2) (m : Nat) : IsS135 w0 (W.drewN m) g f0 f1 f2 := h
theorem IsS135.drew {w0 W : World} {g : Nat} {f0 : List Int} {f1 : Int} {f2 : Int} (h : IsS135 w0 W g f0 f1 f2) : IsS135 w0 W.drew g f0 f1 f2 := h
theorem IsS135.at_ {w0 W : World} {g : Nat} {f0 : List Int} {f1 : Int} {f2 : Int} {w' : World} {m : Nat} (hq : W.drewN m = w') (h : IsS135 w0 W g f0 f1 f2) : IsS135 w0 w' g f0 f1 f2 := by subst hq; exact IsS135.drewN h m
theorem IsS135.apart {w0 W : World} {g : Nat} {f0 : List Int} {f1 : Int} {f2 : Int} {α : Type} {d : Kd α} {e : Nat} {base : Nat} {ok : Nat → Prop} {v : Value} {xs : List α} (h : IsS135 w0 W g f0 f1 f2) (ho : d.R e W base ok v xs) (ht : ∀ q, q ∈ e :: d.E → q ≠ 135) : d.R e W base (fun k => ok k ∧ k ≠ g) v xs := by
 obtain ⟨A0, c0, hb, hg, hr0⟩ := h
 exact Kd.R_types ho hb ht
theorem IsS135.own_ne {w0 W : World} {g : Nat} {f0 : List Int} {f1 : Int} {f2 : Int} {α : Type} {d : Kd α} {e : Nat} {base : Nat} {ok : Nat → Prop} {v : Value} {xs : List α} (h : IsS135 w0 W g f0 f1 f2) (ho : d.R e W base ok v xs) (ht : e ≠ 135) : some g ≠ v.ownBlock := by
 obtain ⟨A0, c0, hb, hg, hr0⟩ := h
 exact Kd.R_ne ho hb ht
theorem IsS135.apartQ {w0 W : World} {g : Nat} {f0 : List Int} {f1 : Int} {f2 : Int} {α : Type} {d : Kd α} {e : Nat} {base : Nat} {ok : Nat → Prop} {v : Value} {xs : List α} (h : IsS135 w0 W g f0 f1 f2) (ho : d.Q e W base ok v xs) (ht : ∀ q, q ∈ e :: d.E → q ≠ 135) : d.Q e W base (fun k => ok k ∧ k ≠ g) v xs := by
 obtain ⟨A0, c0, hb, hg, hr0⟩ := h
 exact Kd.Q_types ho hb ht
theorem IsS135.own_neQ {w0 W : World} {g : Nat} {f0 : List Int} {f1 : Int} {f2 : Int} {α : Type} {d : Kd α} {e : Nat} {base : Nat} {ok : Nat → Prop} {v : Value} {xs : List α} (h : IsS135 w0 W g f0 f1 f2) (ho : d.Q e W base ok v xs) (ht : e ≠ 135) : some g ≠ v.ownBlock := by
 obtain ⟨A0, c0, hb, hg, hr0⟩ := h
 exact Kd.Q_ne ho hb ht
theorem IsS135.apartS {w0 W : World} {g : Nat} {f0 : List Int} {f1 : Int} {f2 : Int} {α : Type} {d : Kd α} {e : Nat} {base : Nat} {ok : Nat → Prop} {v : Value} {xs : List α} (h : IsS135 w0 W g f0 f1 f2) (ho : d.S e W base ok v xs) (ht : ∀ q, q ∈ e :: d.E → q ≠ 135) : d.S e W base (fun k => ok k ∧ k ≠ g) v xs := by
 obtain ⟨A0, c0, hb, hg, hr0⟩ := h
 exact Kd.S_types ho hb ht
theorem IsS135.own_neS {w0 W : World} {g : Nat} {f0 : List Int} {f1 : Int} {f2 : Int} {α : Type} {d : Kd α} {e : Nat} {base : Nat} {ok : Nat → Prop} {v : Value} {xs : List α} (h : IsS135 w0 W g f0 f1 f2) (ho : d.S e W base ok v xs) (ht : e ≠ 135) : some g ≠ v.ownBlock := by
 obtain ⟨A0, c0, hb, hg, hr0⟩ := h
 exact Kd.S_ne ho hb ht
theorem IsS135.lt {w0 W : World} {g : Nat} {f0 : List Int} {f1 : Int} {f2 : Int} (h : IsS135 w0 W g f0 f1 f2) : g < W.heap.size := by
 obtain ⟨A0, c0, hb, hg, hr0⟩ := h
 exact blk_lt hb
theorem IsS135.ge {w0 W : World} {g : Nat} {f0 : List Int} {f1 : Int} {f2 : Int} (h : IsS135 w0 W g f0 f1 f2) : w0.heap.size ≤ g := by
 obtain ⟨A0, c0, hb, hg, hr0⟩ := h
 exact hg
theorem IsS135.ne_blk {w0 W : World} {g : Nat} {f0 : List Int} {f1 : Int} {f2 : Int} {a : Nat} {cs : Array Value} {t : TypeId} {fr : Nat × Nat} (h : IsS135 w0 W g f0 f1 f2) (hb2 : W.heap[a]? = some (.cells cs t fr)) (ht : t ≠ 135) : g ≠ a := by
 obtain ⟨A0, c0, hb, hg, hr0⟩ := h
 rintro rfl
 rw [hb] at hb2
 injection hb2 with hb2
 injection hb2 with _ ht2
 exact ht ht2.symm
theorem IsS135.far {w0 W : World} {g : Nat} {f0 : List Int} {f1 : Int} {f2 : Int} {p : Addr} (h : IsS135 w0 W g f0 f1 f2) (hne : g ≠ p.block) (u : Value) : IsS135 w0 (W.setCell p u) g f0 f1 f2 := by
 obtain ⟨A0, c0, hb, hg, hr0⟩ := h
 exact ⟨A0, c0, blk_far hb hne u, hg, hr0⟩
theorem cellS135_0 {W : World} {g : Nat} {A0 : Option Addr} {c0 : Nat} {f0 : List Int} {f1 : Int} {f2 : Int} (h : W.heap[g]? = some (.cells #[.slice A0 f0.length c0, .int .i64 f1, .int .u64 f2] 135 (0, 0))) : W.cell? ⟨g, 0, none⟩ = some (.slice A0 f0.length c0) := (blk_cell h 0).trans rfl
theorem cellS135_1 {W : World} {g : Nat} {A0 : Option Addr} {c0 : Nat} {f0 : List Int} {f1 : Int} {f2 : Int} (h : W.heap[g]? = some (.cells #[.slice A0 f0.length c0, .int .i64 f1, .int .u64 f2] 135 (0, 0))) : W.cell? ⟨g, 1, none⟩ = some (.int .i64 f1) := (blk_cell h 1).trans rfl
theorem IsS135.set_1 {w0 W : World} {g : Nat} {f0 : List Int} {f1 : Int} {f2 : Int} (h : IsS135 w0 W g f0 f1 f2) (x : Int) : IsS135 w0 (W.setCell ⟨g, 1, none⟩ (.int .i64 x)) g f0 x f2 := by
 obtain ⟨A0, c0, hb, hg, hr0⟩ := h
 exact ⟨A0, c0, by simpa using blk_set hb 1 (.int .i64 x), hg, hr0⟩
theorem cellS135_2 {W : World} {g : Nat} {A0 : Option Addr} {c0 : Nat} {f0 : List Int} {f1 : Int} {f2 : Int} (h : W.heap[g]? = some (.cells #[.slice A0 f0.length c0, .int .i64 f1, .int .u64 f2] 135 (0, 0))) : W.cell? ⟨g, 2, none⟩ = some (.int .u64 f2) := (blk_cell h 2).trans rfl
theorem IsS135.set_2 {w0 W : World} {g : Nat} {f0 : List Int} {f1 : Int} {f2 : Int} (h : IsS135 w0 W g f0 f1 f2) (x : Int) : IsS135 w0 (W.setCell ⟨g, 2, none⟩ (.int .u64 x)) g f0 f1 x := by
 obtain ⟨A0, c0, hb, hg, hr0⟩ := h
 exact ⟨A0, c0, by simpa using blk_set hb 2 (.int .u64 x), hg, hr0⟩
theorem IsS135.new (w0 W : World) (A0 : Option Addr) (c0 : Nat) (f0 : List Int) (f1 : Int) (f2 : Int) (hB : Below w0.heap.size w0 W) (hr0 : Kd.C (Kd.int .u8) w0 A0 f0.length f0) : IsS135 w0 (W.alloc (.cells #[.slice A0 f0.length c0, .int .i64 f1, .int .u64 f2] 135)) W.heap.size f0 f1 f2 := ⟨A0, c0, by simpa using heap_alloc_new W _, hB.size, hr0⟩

/-! ### spec_l00From: function 81 -/
def spec_l00From.f (l0 : List Int) : Option (List Int × Int × Int) := some (l0, 0, 0)
set_option maxHeartbeats 8000000 in
set_option maxRecDepth 100000 in
theorem spec_l00From.calls (A0 : Option Addr) (c0 : Nat) (l0 : List Int) (r1 : List Int) (r2 : Int) (r3 : Int) (w0 w : World) (hB : Below w0.heap.size w0 w) (hr0 : Kd.C (Kd.int .u8) w0 A0 l0.length l0) (hc0 : l0.length ≤ c0) (h : spec_l00From.f l0 = some (r1, r2, r3)) :
  Calls Try.prog 81 #[.slice A0 l0.length c0] w fun e w' => ∃ g_ : Nat, e = .returned (.pointer (some ⟨g_, 0, none⟩)) ∧ IsS135 w0 w' g_ r1 r2 r3 ∧ Below w0.heap.size w0 w' ∧ Below w.heap.size w w' := by
 have hu135 := Try.underlying135
 have HR0 := Aside0.mk hr0
 have HC0 := Aside0.mk hc0
 clear hr0 hc0
 have HBW := Aside0.mk (Below.refl w.heap.size w)
 have HW0 := Aside0.mk hB.size
 have HB := Aside0.mk hB
 clear hB
 have H : (some (l0, 0, 0)) = some (r1, r2, r3) := h
 clear h
 simp only [Option.some.injEq, Prod.mk.injEq] at H
 obtain ⟨rfl, rfl, rfl⟩ := H
 go_enter Try.func81, Try.ntmps81
 go_wp2_with (first | ((with_reducible refine gate_dst (N := 5) rfl ?_); refine box_event ?hg (N := 5) ?hd (cs := #[.slice A0 l0.length c0, .int .i64 0, .int .u64 0]) (t := 135) ?hr ?_; (case hd => rfl); (case hg => rfl); (case hr => first | (go_simp; done) | (go_simp; rfl)); intro gb206 hg w2 hbox hb; have n0_ := Aside0.mk (below_step HBW.out hb); have n1_ := Aside0.mk (below_step bB_ hb); have n2_ := Aside0.mk (hbox); have n3_ := Aside0.mk ((by rw [hg]; exact (below_size (by repeat (first | (with_reducible first | exact HBW.out | apply below_alloc | apply pw_below_drewN | apply below_drew1) | exact HBW.out))) : w.heap.size ≤ gb206)); have n4_ := Aside0.mk ((Nat.le_trans HW0.out (by rw [hg]; exact (below_size (by repeat (first | (with_reducible first | exact HBW.out | apply below_alloc | apply pw_below_drewN | apply below_drew1) | exact HBW.out))) : w.heap.size ≤ gb206) : w0.heap.size ≤ gb206)); clear HBW; clear HB; have HBW := n0_; have HB := n1_; have BK206 := n2_; have GW206 := n3_; have GE206 := n4_; clear n0_ n1_ n2_ n3_ n4_; clear hb hbox hg))
 go_ret
 exact ⟨_, rfl, (show IsS135 w0 _ gb206 l0 0 0 from ⟨_, _, bK_ BK206.out, GE206.out, HR0.out⟩), bC_ GE206.out, by repeat (first | (with_reducible first | exact HBW.out | apply below_alloc | apply pw_below_drewN | apply below_drew1 | refine below_set ?_ GW206.out) | exact HBW.out)⟩

/-! ### spec_l00Src_next: function 123 -/
def spec_l00Src_next.f (s0_0 : List Int) (s0_1 : Int) (s0_2 : Int) : Option (Int × Int × Int) := if s0_1 < (s0_0.length : Int) then (if 0 ≤ s0_1 then (if (wrap64 (s0_1 + 1)) ≤ (s0_0.length : Int) then (some (wrap64 (rd s0_0 s0_1), wrap64 (s0_1 + 1), IntKind.u64.wrap ((IntKind.u64.wrap ((IntKind.u64.wrap (s0_2 * 6364136223846793005)) + (IntKind.u64.wrap (wrap64 (rd s0_0 s0_1))))) + 1442695040888963407))) else (some (wrap64 (Go.bits .and .u64 ((IntKind.u64.wrap ((IntKind.u64.wrap ((IntKind.u64.wrap (s0_2 * 6364136223846793005)) + (IntKind.u64.wrap (wrap64 (rd s0_0 s0_1))))) + 1442695040888963407)) / 1099511627776) 255), wrap64 (s0_1 + 1), IntKind.u64.wrap ((IntKind.u64.wrap ((IntKind.u64.wrap (s0_2 * 6364136223846793005)) + (IntKind.u64.wrap (wrap64 (rd s0_0 s0_1))))) + 1442695040888963407)))) else (none)) else (if (wrap64 (s0_1 + 1)) ≤ (s0_0.length : Int) then (some (0, wrap64 (s0_1 + 1), IntKind.u64.wrap ((IntKind.u64.wrap ((IntKind.u64.wrap (s0_2 * 6364136223846793005)) + 0)) + 1442695040888963407))) else (some (wrap64 (Go.bits .and .u64 ((IntKind.u64.wrap ((IntKind.u64.wrap ((IntKind.u64.wrap (s0_2 * 6364136223846793005)) + 0)) + 1442695040888963407)) / 1099511627776) 255), wrap64 (s0_1 + 1), IntKind.u64.wrap ((IntKind.u64.wrap ((IntKind.u64.wrap (s0_2 * 6364136223846793005)) + 0)) + 1442695040888963407))))
set_option maxHeartbeats 8000000 in
set_option maxRecDepth 100000 in
theorem spec_l00Src_next.calls (g : Nat) (s0_0 : List Int) (s0_1 : Int) (s0_2 : Int) (r1 : Int) (r2 : Int) (r3 : Int) (w0 w : World) (hI : IsS135 w0 w g s0_0 s0_1 s0_2) (hB : Below w0.heap.size w0 w) (h : spec_l00Src_next.f s0_0 s0_1 s0_2 = some (r1, r2, r3)) :
  Calls Try.prog 123 #[.pointer (some ⟨g, 0, none⟩)] w fun e w' => e = .returned (.int .i64 r1) ∧ IsS135 w0 w' g s0_0 r2 r3 ∧ Below w0.heap.size w0 w' ∧ KeepBut w w' g none := by
 have HI0 := Aside0.mk hI
 have HK := Aside0.mk (KeepBut.refl w g none)
 have HL := Aside0.mk hB.size
 clear hI
 have HW0 := Aside0.mk hB.size
 have HB := Aside0.mk hB
 clear hB
 have H : (if s0_1 < (s0_0.length : Int) then (if 0 ≤ s0_1 then (if (wrap64 (s0_1 + 1)) ≤ (s0_0.length : Int) then (some (wrap64 (rd s0_0 s0_1), wrap64 (s0_1 + 1), IntKind.u64.wrap ((IntKind.u64.wrap ((IntKind.u64.wrap (s0_2 * 6364136223846793005)) + (IntKind.u64.wrap (wrap64 (rd s0_0 s0_1))))) + 1442695040888963407))) else (some (wrap64 (Go.bits .and .u64 ((IntKind.u64.wrap ((IntKind.u64.wrap ((IntKind.u64.wrap (s0_2 * 6364136223846793005)) + (IntKind.u64.wrap (wrap64 (rd s0_0 s0_1))))) + 1442695040888963407)) / 1099511627776) 255), wrap64 (s0_1 + 1), IntKind.u64.wrap ((IntKind.u64.wrap ((IntKind.u64.wrap (s0_2 * 6364136223846793005)) + (IntKind.u64.wrap (wrap64 (rd s0_0 s0_1))))) + 1442695040888963407)))) else (none)) else (if (wrap64 (s0_1 + 1)) ≤ (s0_0.length : Int) then (some (0, wrap64 (s0_1 + 1), IntKind.u64.wrap ((IntKind.u64.wrap ((IntKind.u64.wrap (s0_2 * 6364136223846793005)) + 0)) + 1442695040888963407))) else (some (wrap64 (Go.bits .and .u64 ((IntKind.u64.wrap ((IntKind.u64.wrap ((IntKind.u64.wrap (s0_2 * 6364136223846793005)) + 0)) + 1442695040888963407)) / 1099511627776) 255), wrap64 (s0_1 + 1), IntKind.u64.wrap ((IntKind.u64.wrap ((IntKind.u64.wrap (s0_2 * 6364136223846793005)) + 0)) + 1442695040888963407))))) = some (r1, r2, r3) := h
 clear h
 by_cases c2 : s0_1 < (s0_0.length : Int)
 ·
  rw [if_pos c2] at H
  have c2b0 : decide (s0_1 < (s0_0.length : Int)) = true := decide_eq_true c2
  clear c2
  by_cases c3 : 0 ≤ s0_1
  ·
   rw [if_pos c3] at H
   have c3b0 : decide (0 ≤ s0_1) = true := decide_eq_true c3
   clear c3
   by_cases c4 : (wrap64 (s0_1 + 1)) ≤ (s0_0.length : Int)
   ·
    rw [if_pos c4] at H
    have c4b0 : decide ((wrap64 (s0_1 + 1)) ≤ (s0_0.length : Int)) = true := decide_eq_true c4
    clear c4
    simp only [Option.some.injEq, Prod.mk.injEq] at H
    obtain ⟨rfl, rfl, rfl⟩ := H
    obtain ⟨ASz5_0, cSz5_0, HGz5, hgz5, HSz5_0⟩ := HI0.out
    have hcz5_0 := cellS135_0 HGz5
    have hcz5_1 := cellS135_1 HGz5
    have hcz5_2 := cellS135_2 HGz5
    have hfz5_1 := blk_frozen HGz5 1
    have hfz5_2 := blk_frozen HGz5 2
    clear HGz5 hgz5
    have p207 : 0 ≤ (s0_1 : Int) := of_decide_eq_true as_
    have q207 : s0_1 < (s0_0.length : Int) := of_decide_eq_true as_
    obtain ⟨ad207, e207, hx207_0⟩ := Kd.at_int HSz5_0 s0_1 p207 q207
    cases e207
    replace hx207_0 := pw_cell_below HB.out hx207_0
    replace p207 := eq_true p207
    replace q207 := eq_true q207
    go_enter Try.func123, Try.ntmps123
    go_wp2
    repeat (go_quiet (fail); try go_wp2)
    go_ret
    exact ⟨er_, by (try simp only [Int.add_zero]); repeat (first | (with_reducible first | exact HI0.out | apply IsS135.alloc | apply IsS135.drewN | apply IsS135.drew | apply IsS135.set_1 | apply IsS135.set_2) | exact HI0.out), by repeat (first | (with_reducible first | exact HB.out | apply below_alloc | apply pw_below_drewN | apply below_drew1 | refine below_set ?_ (IsS135.ge HI0.out)) | exact HB.out), by repeat (first | (with_reducible first | exact HK.out | apply KeepBut.set_ | apply keep_drewN | apply keep_drew | apply keep_alloc) | exact HK.out)⟩
   ·
    rw [if_neg c4] at H
    have c4b0 : decide ((wrap64 (s0_1 + 1)) ≤ (s0_0.length : Int)) = false := decide_eq_false c4
    clear c4
    simp only [Option.some.injEq, Prod.mk.injEq] at H
    obtain ⟨rfl, rfl, rfl⟩ := H
    obtain ⟨ASz6_0, cSz6_0, HGz6, hgz6, HSz6_0⟩ := HI0.out
    have hcz6_0 := cellS135_0 HGz6
    have hcz6_1 := cellS135_1 HGz6
    have hcz6_2 := cellS135_2 HGz6
    have hfz6_1 := blk_frozen HGz6 1
    have hfz6_2 := blk_frozen HGz6 2
    clear HGz6 hgz6
    have p207 : 0 ≤ (s0_1 : Int) := of_decide_eq_true as_
    have q207 : s0_1 < (s0_0.length : Int) := of_decide_eq_true as_
    obtain ⟨ad207, e207, hx207_0⟩ := Kd.at_int HSz6_0 s0_1 p207 q207
    cases e207
    replace hx207_0 := pw_cell_below HB.out hx207_0
    replace p207 := eq_true p207
    replace q207 := eq_true q207
    go_enter Try.func123, Try.ntmps123
    go_wp2
    repeat (go_quiet (fail); try go_wp2)
    go_ret
    exact ⟨er_, by (try simp only [Int.add_zero]); repeat (first | (with_reducible first | exact HI0.out | apply IsS135.alloc | apply IsS135.drewN | apply IsS135.drew | apply IsS135.set_1 | apply IsS135.set_2) | exact HI0.out), by repeat (first | (with_reducible first | exact HB.out | apply below_alloc | apply pw_below_drewN | apply below_drew1 | refine below_set ?_ (IsS135.ge HI0.out)) | exact HB.out), by repeat (first | (with_reducible first | exact HK.out | apply KeepBut.set_ | apply keep_drewN | apply keep_drew | apply keep_alloc) | exact HK.out)⟩
  ·
   rw [if_neg c3] at H
   exact absurd H (by simp)
 ·
  rw [if_neg c2] at H
  have c2b0 : decide (s0_1 < (s0_0.length : Int)) = false := decide_eq_false c2
  clear c2
  by_cases c7 : (wrap64 (s0_1 + 1)) ≤ (s0_0.length : Int)
  ·
   rw [if_pos c7] at H
   have c7b0 : decide ((wrap64 (s0_1 + 1)) ≤ (s0_0.length : Int)) = true := decide_eq_true c7
   clear c7
   simp only [Option.some.injEq, Prod.mk.injEq] at H
   obtain ⟨rfl, rfl, rfl⟩ := H
   obtain ⟨ASz8_0, cSz8_0, HGz8, hgz8, HSz8_0⟩ := HI0.out
   have hcz8_0 := cellS135_0 HGz8
   have hcz8_1 := cellS135_1 HGz8
   have hcz8_2 := cellS135_2 HGz8
   have hfz8_1 := blk_frozen HGz8 1
   have hfz8_2 := blk_frozen HGz8 2
   clear HGz8 hgz8
   go_enter Try.func123, Try.ntmps123
   go_wp2
   repeat (go_quiet (fail); try go_wp2)
   go_ret
   exact ⟨er_, by (try simp only [Int.add_zero]); repeat (first | (with_reducible first | exact HI0.out | apply IsS135.alloc | apply IsS135.drewN | apply IsS135.drew | apply IsS135.set_1 | apply IsS135.set_2) | exact HI0.out), by repeat (first | (with_reducible first | exact HB.out | apply below_alloc | apply pw_below_drewN | apply below_drew1 | refine below_set ?_ (IsS135.ge HI0.out)) | exact HB.out), by repeat (first | (with_reducible first | exact HK.out | apply KeepBut.set_ | apply keep_drewN | apply keep_drew | apply keep_alloc) | exact HK.out)⟩
  ·
   rw [if_neg c7] at H
   have c7b0 : decide ((wrap64 (s0_1 + 1)) ≤ (s0_0.length : Int)) = false := decide_eq_false c7
   clear c7
   simp only [Option.some.injEq, Prod.mk.injEq] at H
   obtain ⟨rfl, rfl, rfl⟩ := H
   obtain ⟨ASz9_0, cSz9_0, HGz9, hgz9, HSz9_0⟩ := HI0.out
   have hcz9_0 := cellS135_0 HGz9
   have hcz9_1 := cellS135_1 HGz9
   have hcz9_2 := cellS135_2 HGz9
   have hfz9_1 := blk_frozen HGz9 1
   have hfz9_2 := blk_frozen HGz9 2
   clear HGz9 hgz9
   go_enter Try.func123, Try.ntmps123
   go_wp2
   repeat (go_quiet (fail); try go_wp2)
   go_ret
   exact ⟨er_, by (try simp only [Int.add_zero]); repeat (first | (with_reducible first | exact HI0.out | apply IsS135.alloc | apply IsS135.drewN | apply IsS135.drew | apply IsS135.set_1 | apply IsS135.set_2) | exact HI0.out), by repeat (first | (with_reducible first | exact HB.out | apply below_alloc | apply pw_below_drewN | apply below_drew1 | refine below_set ?_ (IsS135.ge HI0.out)) | exact HB.out), by repeat (first | (with_reducible first | exact HK.out | apply KeepBut.set_ | apply keep_drewN | apply keep_drew | apply keep_alloc) | exact HK.out)⟩

end Go.Proofs.Ytenjhbkpcelidaa.PFnMerges
