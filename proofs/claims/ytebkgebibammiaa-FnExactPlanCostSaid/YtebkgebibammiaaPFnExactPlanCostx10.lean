-- PRINTED by print.py (a twelfth state) out of the translation. Not trusted: Lean checks it.
import Derived.Test.YtebkgebibammiaaPFnExactPlanCostx0
import Derived.Test.YtebkgebibammiaaPFnExactPlanCostx8
import Derived.Test.YtebkgebibammiaaPFnExactPlanCostx9
namespace Go.Proofs.Ytebkgebibammiaa.PFnExactPlanCost
open Go.RowKit Go.Proofs.YtebkgebibammiaaW.PrintWords Go.Proofs.YtebkgebibammiaaW.PrintLast Go.Proofs.YtebkgebibammiaaW.PrintMore
attribute [local go_sem] max2_int min2_int max_two min_two max_three min_three max_four min_four   -- for this text's walks alone
set_option linter.unusedVariables false
set_option linter.unusedSimpArgs false

/-! ### impl_allWithin: function 113 -/
def GivesB (P : Program) (g : Nat) (lb : Array Value) (w0 : World) (x : Value) (b : Bool) : Prop :=
 ∀ W, Below w0.heap.size w0 W → Calls P g (#[x] ++ lb) W fun e w' => e = .returned (.bool b) ∧ Below w0.heap.size w0 w'
def idxF {α : Type} (p : α → Bool) : List α → Nat → Int
 | [], _ => -1
 | x :: xs, n => if p x then n else idxF p xs (n + 1)
theorem idxF_drop_hit {α : Type} (p : α → Bool) (d : α) : ∀ (l : List α) (k n : Nat), k < l.length → (∀ j, j < k → p (l.getD j d) = false) → p (l.getD k d) = true → idxF p l n = ((n + k : Nat) : Int)
 | [], k, n, h, _, _ => absurd h (by simp)
 | x :: xs, 0, n, h, h1, h2 => by simp at h2; simp [idxF, h2]
 | x :: xs, k + 1, n, h, h1, h2 => by
  have h0 := h1 0 (by omega)
  simp at h0
  simp only [idxF, h0]
  have := idxF_drop_hit p d xs k (n + 1) (by simpa using h) (fun j hj => by have := h1 (j + 1) (by omega); simpa using this) (by simpa using h2)
  simp only [Bool.false_eq_true, if_false, this]
  congr 1; omega
theorem idxF_miss {α : Type} (p : α → Bool) (d : α) : ∀ (l : List α) (n : Nat), (∀ j, j < l.length → p (l.getD j d) = false) → idxF p l n = -1
 | [], n, _ => rfl
 | x :: xs, n, h1 => by
  have h0 := h1 0 (by simp)
  simp at h0
  simp only [idxF, h0]
  have := idxF_miss p d xs (n + 1) (fun j hj => by have := h1 (j + 1) (by simpa using hj); simpa using this)
  simpa using this
theorem idxF_any {α : Type} (p : α → Bool) : ∀ (l : List α) (n : Nat), decide (0 ≤ idxF p l n) = l.any p
 | [], n => by simp [idxF]
 | x :: xs, n => by
  unfold idxF
  by_cases h : p x = true
  ·
   simp [h]
  ·
   simp only [Bool.not_eq_true] at h
   simp only [h, Bool.false_eq_true, if_false, List.any_cons, Bool.false_or]
   exact idxF_any p xs (n + 1)

set_option maxHeartbeats 2000000 in
theorem slices_IndexFunc_i64 (p : Int → Bool) (g : Nat) (lb : Array Value) (eg : ∀ args w, (callFunc g args).run Try.prog w = .ok (.enter g args) w)
  (A : Option Addr) (c : Nat) (l : List Int) (w : World) (hr : Kd.C (Kd.int .i64) w A l.length l) (hbig : l.length < 9223372036854775807)
  (hp : ∀ x, x ∈ l → GivesB Try.prog g lb w (.int .i64 x) (p x)) :
  Calls Try.prog 170 #[.slice A l.length c, .func (.func g) #[] lb] w fun e w' => e = .returned (.int .i64 (idxF p l 0)) ∧ Below w.heap.size w w' := by
 have HR := Aside0.mk hr
 have HP := Aside0.mk hp
 clear hr hp
 go_enter Try.func170, Try.ntmps170
 go_wp2
 go_loopg [5, 8] l.length (fun gg _ s8 wr => ∃ kk : Nat, kk ≤ l.length ∧ l.length - kk ≤ gg ∧ s8 = .int .i64 kk ∧ Aside0 (Below w.heap.size w wr) ∧ Aside0 (∀ j, j < kk → p (l.getD j 0) = false))
 case atStart => exact ⟨0, Nat.zero_le _, by omega, rfl, ⟨Below.refl _ w⟩, ⟨fun j hj => absurd hj (Nat.not_lt_zero _)⟩⟩
 case round =>
  obtain ⟨kk, hkk, hg, rfl, BW, A0⟩ := hrel
  by_cases hlt : kk < l.length
  ·
   have hltz : (kk : Int) < (l.length : Int) := by omega
   have HR1 := Aside0.mk (Kd.C_below HR.out BW.out)
   obtain ⟨ad, rfl, hx⟩ := Kd.at_int HR1.out (kk : Int) (by omega) hltz
   rw [Int.toNat_natCast] at hx
   have hmem : rd l (kk : Int) ∈ l := by
    unfold rd
    rw [Int.toNat_natCast, List.getD_eq_getElem?_getD, List.getElem?_eq_getElem hlt]
    exact List.getElem_mem _
   have hcall := HP.out _ hmem wr BW.out
   have ey : rd l (kk : Int) = l.getD kk 0 := by unfold rd; rw [Int.toNat_natCast]
   generalize rd l (kk : Int) = y at hx hcall ey
   have B := Aside0.mk ey
   clear ey
   cases hq : p y with
   | true =>
    rw [hq] at hcall
    go_wp2_with (go_at_fn g; refine hcall.mono ?_; rintro e w' ⟨rfl, hb'⟩)
    go_ret
    refine ⟨?_, hb'⟩
    rw [idxF_drop_hit p 0 l kk 0 hlt A0.out (by rw [← B.out]; exact hq), Nat.zero_add]
    rfl
   | false =>
    rw [hq] at hcall
    go_wp2_with (go_at_fn g; refine hcall.mono ?_; rintro e w' ⟨rfl, hb'⟩)
    go_roundg (l.length - (kk + 1))
    case measure => omega
    case rel =>
     refine ⟨kk + 1, by omega, by omega, by go_num, ⟨hb'⟩, ⟨fun j hj => ?_⟩⟩
     by_cases e : j = kk
     ·
      subst e
      rw [← B.out]; exact hq
     ·
      exact A0.out j (by omega)
  ·
   have hltz : ¬ (kk : Int) < (l.length : Int) := by omega
   have : kk = l.length := by omega
   subst this
   go_wp2
   go_ret
   refine ⟨?_, BW.out⟩
   rw [idxF_miss p 0 l 0 A0.out]
   rfl

set_option maxHeartbeats 2000000 in
theorem slices_ContainsFunc_i64 (p : Int → Bool) (g : Nat) (lb : Array Value) (eg : ∀ args w, (callFunc g args).run Try.prog w = .ok (.enter g args) w)
  (A : Option Addr) (c : Nat) (l : List Int) (w : World) (hr : Kd.C (Kd.int .i64) w A l.length l) (hbig : l.length < 9223372036854775807)
  (hp : ∀ x, x ∈ l → GivesB Try.prog g lb w (.int .i64 x) (p x)) :
  Calls Try.prog 141 #[.slice A l.length c, .func (.func g) #[] lb] w fun e w' => e = .returned (.bool (decide (0 ≤ idxF p l 0))) ∧ Below w.heap.size w w' := by
 have HR := Aside0.mk hr
 have HP := Aside0.mk hp
 clear hr hp
 go_enter Try.func141, Try.ntmps141
 go_wp2_with (go_at_call 170; refine (slices_IndexFunc_i64 p g lb eg A c l _ HR.out hbig HP.out).mono ?_; rintro e w' ⟨rfl, hb'⟩)
 go_ret
 exact ⟨rfl, hb'⟩

theorem allWithin_1 (w : World) (B C : Nat) (lo hi : Int) (hB : B < w.heap.size) (hC : C < w.heap.size)
  (hb : w.cell? ⟨B, 0, none⟩ = some (.int .i64 lo)) (hc : w.cell? ⟨C, 0, none⟩ = some (.int .i64 hi)) (x : Int) :
  GivesB Try.prog 142 #[.pointer (some ⟨B, 0, none⟩), .pointer (some ⟨C, 0, none⟩)] w (.int .i64 x) (!inB lo hi x) := fun W hbel => by
 have hb' : W.cell? ⟨B, 0, none⟩ = some (.int .i64 lo) := (hbel.cell (p := ⟨B, 0, none⟩) hB).trans hb
 have hc' : W.cell? ⟨C, 0, none⟩ = some (.int .i64 hi) := (hbel.cell (p := ⟨C, 0, none⟩) hC).trans hc
 go_enter Try.func142, Try.ntmps142
 go_wp2_with (go_at_call 104; refine (within_all _ _ _ _).mono ?_; rintro e w' ⟨rfl, rfl⟩)
 go_ret
 exact ⟨rfl, hbel⟩
def impl_allWithin.f (l0 : List Int) (a1 : Int) (a2 : Int) : Option Bool :=
 if l0.length < 9223372036854775807 then some (l0.all (inB a1 a2)) else none
theorem impl_allWithin.calls (A0 : Option Addr) (c0 : Nat) (l0 : List Int) (a1 : Int) (a2 : Int) (r : Bool) (w : World) (hr0 : Kd.C (Kd.int .i64) w A0 l0.length l0) (hc0 : l0.length ≤ c0) (h : impl_allWithin.f l0 a1 a2 = some r) :
  Calls Try.prog 113 #[.slice A0 l0.length c0, .int .i64 a1, .int .i64 a2] w fun e w' => e = .returned (.bool r) ∧ Below w.heap.size w w' := by
 unfold impl_allWithin.f at h
 split at h
 ·
  rename_i hlen
  have hrr : r = !decide (0 ≤ idxF (fun x => !inB a1 a2 x) l0 0) := by
   rw [idxF_any]
   rw [← Option.some.inj h, List.not_any_eq_all_not]
   simp
  have HR := Aside0.mk hr0
  have HRR := Aside0.mk hrr
  clear h hr0 hc0 hrr
  have hC := fun (W : World) (hbel : Below w.heap.size w W) (hB : w.heap.size < W.heap.size) (hC : w.heap.size + 1 < W.heap.size) (hb : W.cell? ⟨w.heap.size, 0, none⟩ = some (.int .i64 a1)) (hc : W.cell? ⟨w.heap.size + 1, 0, none⟩ = some (.int .i64 a2)) =>
   slices_ContainsFunc_i64 (fun x => !inB a1 a2 x) 142 #[.pointer (some ⟨w.heap.size, 0, none⟩), .pointer (some ⟨w.heap.size + 1, 0, none⟩)] (enters_of Try.func142 (by kernel_rfl) rfl) A0 c0 l0 W (Kd.C_below HR.out hbel) hlen (fun x _ => allWithin_1 W _ _ a1 a2 hB hC hb hc x)
  go_enter Try.func113, Try.ntmps113
  go_wp2_with (go_at_call 141; refine (hC _ (((Below.refl _ w).alloc (Nat.le_refl _) _).alloc (by simp) _) (by simp; omega) (by simp) (by simp) (by simp)).mono ?_; rintro e w' ⟨rfl, hb⟩)
  go_ret
  exact ⟨by rw [HRR.out]; rfl, (((Below.refl _ w).alloc (Nat.le_refl _) _).alloc (by simp) _).trans (hb.mono (by simp; omega))⟩
 ·
  cases h

/-! ### impl_demandsCode: function 60 -/
def impl_demandsCode.f (k : Nat) (l0 : List (S77)) (l1 : List Int) : Option (Int) := (impl_ValidUnits.f k l0).bind fun t250 => (if t250 = true then (if (l1.length : Int) < 1 then (some 7) else (if (l1.length : Int) > 12 then (some 7) else ((impl_allWithin.f l1 0 400000).bind fun t251 => (if t251 = true then (some 0) else (some 7))))) else (some 1))
theorem impl_demandsCode.mono : ∀ a0 a1 k, LeO (impl_demandsCode.f k a0 a1) (impl_demandsCode.f (k + 1) a0 a1) := by
 intro a0 a1 k
 unfold impl_demandsCode.f
 repeat' first
   | (with_reducible exact impl_ValidUnits.mono _ _)
   | (with_reducible exact LeO.refl _)
   | (with_reducible exact LeO.none _)
   | (with_reducible refine LeO.ite ?_ ?_)
   | (with_reducible refine LeO.bind ?_ (fun _ => ?_))
   | exact impl_ValidUnits.mono _ _
   | exact LeO.none _
   | refine LeO.ite ?_ ?_
   | refine LeO.bind ?_ (fun _ => ?_)
set_option maxHeartbeats 8000000 in
set_option maxRecDepth 100000 in
theorem impl_demandsCode.calls (k : Nat) (A0 : Option Addr) (c0 : Nat) (l0 : List (S77)) (A1 : Option Addr) (c1 : Nat) (l1 : List Int) (r : Int) (w : World) (hr0 : Kd.C k77 w A0 l0.length l0) (hc0 : l0.length ≤ c0) (hr1 : Kd.C (Kd.int .i64) w A1 l1.length l1) (hc1 : l1.length ≤ c1) (h : impl_demandsCode.f k l0 l1 = some r) :
  Calls Try.prog 60 #[.slice A0 l0.length c0, .slice A1 l1.length c1] w fun e w' => e = .returned (.int .i64 r) ∧ Below w.heap.size w w' := by
 have HR0 := Aside0.mk hr0
 have HC0 := Aside0.mk hc0
 clear hr0 hc0
 have HR1 := Aside0.mk hr1
 have HC1 := Aside0.mk hc1
 clear hr1 hc1
 have HB := Aside0.mk (Below.refl w.heap.size w)
 have H : ((impl_ValidUnits.f k l0).bind fun t250 => (if t250 = true then (if (l1.length : Int) < 1 then (some 7) else (if (l1.length : Int) > 12 then (some 7) else ((impl_allWithin.f l1 0 400000).bind fun t251 => (if t251 = true then (some 0) else (some 7))))) else (some 1))) = some r := h
 clear h
 replace H := Option.bind_eq_some_iff.mp H
 obtain ⟨t250, A30, H⟩ := H
 replace H : (if t250 = true then (if (l1.length : Int) < 1 then (some 7) else (if (l1.length : Int) > 12 then (some 7) else ((impl_allWithin.f l1 0 400000).bind fun t251 => (if t251 = true then (some 0) else (some 7))))) else (some 1)) = some r := H
 have A3 := Aside0.mk A30
 clear A30
 by_cases c4 : t250 = true
 ·
  subst c4
  have H1 : (if (l1.length : Int) < 1 then (some 7) else (if (l1.length : Int) > 12 then (some 7) else ((impl_allWithin.f l1 0 400000).bind fun t251 => (if t251 = true then (some 0) else (some 7))))) = some r := by rw [if_pos rfl] at H; exact H
  clear H
  have H := H1
  clear H1
  by_cases c5 : (l1.length : Int) < 1
  ·
   rw [if_pos c5] at H
   have c5b0 : decide ((l1.length : Int) < 1) = true := decide_eq_true c5
   have c5b1 : decide (l1.length < 1) = true := decide_eq_true (by omega)
   clear c5
   obtain rfl := Option.some.inj H
   go_enter Try.func60, Try.ntmps60
   go_wp2_with (first | ((with_reducible refine gate_callee (f := 67) rfl ?_); refine goesL_ (some 7) rfl rfl Try.func67 (by kernel_rfl) rfl #[.slice A0 l0.length c0] rfl (by (try simp only [List.map_toArray, List.map_cons, List.map_nil]); first | done | rfl | (simp only [List.length_drop, List.length_take]; rfl)) ?_; (with_reducible refine (impl_ValidUnits.calls k _ _ l0 true _ ?side1 ?side2 A3.out).mono ?_); (case side1 => repeat (first | exact HR0.out | (with_reducible refine Kd.C_alloc ?_ _) | (with_reducible refine Kd.C_drewN ?_ _) | (with_reducible refine Kd.C_drew ?_))); (case side2 => exact HC0.out); rintro e w6 ⟨rfl, hb⟩; refine ⟨_, rfl, ?_⟩; have n0_ := Aside0.mk (below_step (by repeat (first | (with_reducible first | exact HB.out | apply below_alloc | apply pw_below_drewN | apply below_drew1) | exact HB.out)) hb); clear HB; have HB := n0_; clear n0_; (try clear hb); (try clear hb2); (try clear hk); (try clear hi)))
   go_ret
   exact ⟨by first | rfl | (simp [errW_none, errW_some] <;> rfl) | (simp [*, errW_none, errW_some] <;> rfl), by repeat (first | (with_reducible first | exact HB.out | apply below_alloc | apply pw_below_drewN | apply below_drew1) | exact HB.out)⟩
  ·
   rw [if_neg c5] at H
   have c5b0 : decide ((l1.length : Int) < 1) = false := decide_eq_false c5
   have c5b1 : decide (l1.length < 1) = false := decide_eq_false (by omega)
   clear c5
   by_cases c7 : (l1.length : Int) > 12
   ·
    rw [if_pos c7] at H
    have c7b0 : decide (12 < (l1.length : Int)) = true := decide_eq_true c7
    have c7b1 : decide (12 < l1.length) = true := decide_eq_true (by omega)
    clear c7
    obtain rfl := Option.some.inj H
    go_enter Try.func60, Try.ntmps60
    go_wp2_with (first | ((with_reducible refine gate_callee (f := 67) rfl ?_); refine goesL_ (some 7) rfl rfl Try.func67 (by kernel_rfl) rfl #[.slice A0 l0.length c0] rfl (by (try simp only [List.map_toArray, List.map_cons, List.map_nil]); first | done | rfl | (simp only [List.length_drop, List.length_take]; rfl)) ?_; (with_reducible refine (impl_ValidUnits.calls k _ _ l0 true _ ?side1 ?side2 A3.out).mono ?_); (case side1 => repeat (first | exact HR0.out | (with_reducible refine Kd.C_alloc ?_ _) | (with_reducible refine Kd.C_drewN ?_ _) | (with_reducible refine Kd.C_drew ?_))); (case side2 => exact HC0.out); rintro e w8 ⟨rfl, hb⟩; refine ⟨_, rfl, ?_⟩; have n0_ := Aside0.mk (below_step (by repeat (first | (with_reducible first | exact HB.out | apply below_alloc | apply pw_below_drewN | apply below_drew1) | exact HB.out)) hb); clear HB; have HB := n0_; clear n0_; (try clear hb); (try clear hb2); (try clear hk); (try clear hi)))
    go_ret
    exact ⟨by first | rfl | (simp [errW_none, errW_some] <;> rfl) | (simp [*, errW_none, errW_some] <;> rfl), by repeat (first | (with_reducible first | exact HB.out | apply below_alloc | apply pw_below_drewN | apply below_drew1) | exact HB.out)⟩
   ·
    rw [if_neg c7] at H
    have c7b0 : decide (12 < (l1.length : Int)) = false := decide_eq_false c7
    have c7b1 : decide (12 < l1.length) = false := decide_eq_false (by omega)
    clear c7
    replace H := Option.bind_eq_some_iff.mp H
    obtain ⟨t251, A90, H⟩ := H
    replace H : (if t251 = true then (some 0) else (some 7)) = some r := H
    have A9 := Aside0.mk A90
    clear A90
    by_cases c10 : t251 = true
    ·
     subst c10
     have H1 : (some 0) = some r := by rw [if_pos rfl] at H; exact H
     clear H
     have H := H1
     clear H1
     obtain rfl := Option.some.inj H
     go_enter Try.func60, Try.ntmps60
     go_wp2_with (first | ((with_reducible refine gate_callee (f := 67) rfl ?_); refine goesL_ (some 7) rfl rfl Try.func67 (by kernel_rfl) rfl #[.slice A0 l0.length c0] rfl (by (try simp only [List.map_toArray, List.map_cons, List.map_nil]); first | done | rfl | (simp only [List.length_drop, List.length_take]; rfl)) ?_; (with_reducible refine (impl_ValidUnits.calls k _ _ l0 true _ ?side1 ?side2 A3.out).mono ?_); (case side1 => repeat (first | exact HR0.out | (with_reducible refine Kd.C_alloc ?_ _) | (with_reducible refine Kd.C_drewN ?_ _) | (with_reducible refine Kd.C_drew ?_))); (case side2 => exact HC0.out); rintro e w11 ⟨rfl, hb⟩; refine ⟨_, rfl, ?_⟩; have n0_ := Aside0.mk (below_step (by repeat (first | (with_reducible first | exact HB.out | apply below_alloc | apply pw_below_drewN | apply below_drew1) | exact HB.out)) hb); clear HB; have HB := n0_; clear n0_; (try clear hb); (try clear hb2); (try clear hk); (try clear hi)) | (go_at_call 113; (with_reducible refine (impl_allWithin.calls _ _ l1 0 400000 true _ ?side1 ?side2 A9.out).mono ?_); (case side1 => repeat (first | exact (Kd.C_below HR1.out HB.out) | (with_reducible refine Kd.C_alloc ?_ _) | (with_reducible refine Kd.C_drewN ?_ _) | (with_reducible refine Kd.C_drew ?_))); (case side2 => exact HC1.out); rintro e w12 ⟨rfl, hb⟩; have n0_ := Aside0.mk (below_step (by repeat (first | (with_reducible first | exact HB.out | apply below_alloc | apply pw_below_drewN | apply below_drew1) | exact HB.out)) hb); clear HB; have HB := n0_; clear n0_; (try clear hb); (try clear hb2); (try clear hk); (try clear hi)))
     go_ret
     exact ⟨by first | rfl | (simp [errW_none, errW_some] <;> rfl) | (simp [*, errW_none, errW_some] <;> rfl), by repeat (first | (with_reducible first | exact HB.out | apply below_alloc | apply pw_below_drewN | apply below_drew1) | exact HB.out)⟩
    ·
     replace c10 := Bool.eq_false_iff.mpr c10
     subst c10
     have H1 : (some 7) = some r := by rw [if_neg (show ¬ (false = true) by decide)] at H; exact H
     clear H
     have H := H1
     clear H1
     obtain rfl := Option.some.inj H
     go_enter Try.func60, Try.ntmps60
     go_wp2_with (first | ((with_reducible refine gate_callee (f := 67) rfl ?_); refine goesL_ (some 7) rfl rfl Try.func67 (by kernel_rfl) rfl #[.slice A0 l0.length c0] rfl (by (try simp only [List.map_toArray, List.map_cons, List.map_nil]); first | done | rfl | (simp only [List.length_drop, List.length_take]; rfl)) ?_; (with_reducible refine (impl_ValidUnits.calls k _ _ l0 true _ ?side1 ?side2 A3.out).mono ?_); (case side1 => repeat (first | exact HR0.out | (with_reducible refine Kd.C_alloc ?_ _) | (with_reducible refine Kd.C_drewN ?_ _) | (with_reducible refine Kd.C_drew ?_))); (case side2 => exact HC0.out); rintro e w13 ⟨rfl, hb⟩; refine ⟨_, rfl, ?_⟩; have n0_ := Aside0.mk (below_step (by repeat (first | (with_reducible first | exact HB.out | apply below_alloc | apply pw_below_drewN | apply below_drew1) | exact HB.out)) hb); clear HB; have HB := n0_; clear n0_; (try clear hb); (try clear hb2); (try clear hk); (try clear hi)) | (go_at_call 113; (with_reducible refine (impl_allWithin.calls _ _ l1 0 400000 false _ ?side1 ?side2 A9.out).mono ?_); (case side1 => repeat (first | exact (Kd.C_below HR1.out HB.out) | (with_reducible refine Kd.C_alloc ?_ _) | (with_reducible refine Kd.C_drewN ?_ _) | (with_reducible refine Kd.C_drew ?_))); (case side2 => exact HC1.out); rintro e w14 ⟨rfl, hb⟩; have n0_ := Aside0.mk (below_step (by repeat (first | (with_reducible first | exact HB.out | apply below_alloc | apply pw_below_drewN | apply below_drew1) | exact HB.out)) hb); clear HB; have HB := n0_; clear n0_; (try clear hb); (try clear hb2); (try clear hk); (try clear hi)))
     go_ret
     exact ⟨by first | rfl | (simp [errW_none, errW_some] <;> rfl) | (simp [*, errW_none, errW_some] <;> rfl), by repeat (first | (with_reducible first | exact HB.out | apply below_alloc | apply pw_below_drewN | apply below_drew1) | exact HB.out)⟩
 ·
  replace c4 := Bool.eq_false_iff.mpr c4
  subst c4
  have H1 : (some 1) = some r := by rw [if_neg (show ¬ (false = true) by decide)] at H; exact H
  clear H
  have H := H1
  clear H1
  obtain rfl := Option.some.inj H
  go_enter Try.func60, Try.ntmps60
  go_wp2_with (first | ((with_reducible refine gate_callee (f := 67) rfl ?_); refine goesL_ (some 7) rfl rfl Try.func67 (by kernel_rfl) rfl #[.slice A0 l0.length c0] rfl (by (try simp only [List.map_toArray, List.map_cons, List.map_nil]); first | done | rfl | (simp only [List.length_drop, List.length_take]; rfl)) ?_; (with_reducible refine (impl_ValidUnits.calls k _ _ l0 false _ ?side1 ?side2 A3.out).mono ?_); (case side1 => repeat (first | exact HR0.out | (with_reducible refine Kd.C_alloc ?_ _) | (with_reducible refine Kd.C_drewN ?_ _) | (with_reducible refine Kd.C_drew ?_))); (case side2 => exact HC0.out); rintro e w15 ⟨rfl, hb⟩; refine ⟨_, rfl, ?_⟩; have n0_ := Aside0.mk (below_step (by repeat (first | (with_reducible first | exact HB.out | apply below_alloc | apply pw_below_drewN | apply below_drew1) | exact HB.out)) hb); clear HB; have HB := n0_; clear n0_; (try clear hb); (try clear hb2); (try clear hk); (try clear hi)))
  go_ret
  exact ⟨by first | rfl | (simp [errW_none, errW_some] <;> rfl) | (simp [*, errW_none, errW_some] <;> rfl), by repeat (first | (with_reducible first | exact HB.out | apply below_alloc | apply pw_below_drewN | apply below_drew1) | exact HB.out)⟩

/-! ### impl_statesCode: function 101 -/
theorem bcell_ {W w1 : World} (hb : Below W.heap.size W w1) : (∀ b o, b < W.heap.size → w1.cell? ⟨b, o, none⟩ = W.cell? ⟨b, o, none⟩) ∧ (∀ b o, b < W.heap.size → w1.frozen? ⟨b, o, none⟩ = W.frozen? ⟨b, o, none⟩) :=
 ⟨fun b o h => hb.cell (p := ⟨b, o, none⟩) h, fun b o h => hb.frozen (p := ⟨b, o, none⟩) h⟩

/-- What a predicate that is handed over says of a value, in every world in which what was there stays. -/
def Gives2 (P : Program) (g : Nat) (lb : Array Value) (w0 : World) (x : Value) (b : Bool) : Prop :=
 ∀ W, Below w0.heap.size w0 W → Calls P g (#[x] ++ lb) W fun e w' => e = .returned (.bool b) ∧ Below W.heap.size W w'
theorem Gives2.later {P : Program} {g : Nat} {lb : Array Value} {w0 W : World} {x : Value} {b : Bool} (h : Gives2 P g lb w0 x b) (hb : Below w0.heap.size w0 W) : Gives2 P g lb W x b :=
 fun W2 h2 => h W2 (hb.trans (h2.mono hb.size))

/-- What a predicate on rows says of a row. -/
def GivesRow {α : Type} (P : Program) (d : Kd α) (g : Nat) (lb : Array Value) (w0 : World) (x : List α) (b : Bool) : Prop :=
 ∀ W, Below w0.heap.size w0 W → ∀ (A : Option Addr) (c : Nat), x.length ≤ c → Kd.C d W A x.length x → Calls P g (#[.slice A x.length c] ++ lb) W fun e w' => e = .returned (.bool b) ∧ Below W.heap.size W w'
set_option maxHeartbeats 2000000 in
theorem slices_IndexFunc_rowsB (p : List Bool → Bool) (g : Nat) (lb : Array Value) (eg : ∀ args w, (callFunc g args).run Try.prog w = .ok (.enter g args) w)
  (A : Option Addr) (c : Nat) (l : List (List Bool)) (w : World) (hr : Kd.C (Kd.slice 4 Kd.bool) w A l.length l) (hbig : l.length < 9223372036854775807)
  (hp : ∀ x, x ∈ l → GivesRow Try.prog Kd.bool g lb w x (p x)) :
  Calls Try.prog 168 #[.slice A l.length c, .func (.func g) #[] lb] w fun e w' => e = .returned (.int .i64 (idxF p l 0)) ∧ Below w.heap.size w w' := by
 have HR := Aside0.mk hr
 have HP := Aside0.mk hp
 clear hr hp
 go_enter Try.func168, Try.ntmps168
 go_wp2
 go_loopg [5, 8] l.length (fun gg _ s8 wr => ∃ kk : Nat, kk ≤ l.length ∧ l.length - kk ≤ gg ∧ s8 = .int .i64 kk ∧ Aside0 (Below w.heap.size w wr) ∧ Aside0 (∀ j, j < kk → p (l.getD j []) = false))
 case atStart => exact ⟨0, Nat.zero_le _, by omega, rfl, ⟨Below.refl _ w⟩, ⟨fun j hj => absurd hj (Nat.not_lt_zero _)⟩⟩
 case round =>
  obtain ⟨kk, hkk, hg, rfl, BW, A0⟩ := hrel
  by_cases hlt : kk < l.length
  ·
   have hltz : (kk : Int) < (l.length : Int) := by omega
   obtain ⟨ad, cs, rfl, hcl, hK, hcc⟩ := Kd.C_get (Kd.C_below HR.out BW.out) [] (kk : Int) (by omega) hltz
   obtain ⟨Ai, ci, rfl, hci, hCi⟩ := hK
   have hx := hcc 0 _ rfl
   simp only [Int.toNat_natCast] at hx hci hCi
   have hx1 : wr.cell? (ad.add kk) = some (.slice Ai (l.getD kk []).length ci) := by
    have e : kk * (Kd.slice 4 Kd.bool).sz + 0 = kk := by show kk * 1 + 0 = kk; omega
    rw [e] at hx
    exact hx
   clear hx hcc hcl
   have hmem : l.getD kk [] ∈ l := by
    rw [List.getD_eq_getElem?_getD, List.getElem?_eq_getElem hlt]
    exact List.getElem_mem _
   have hcall := HP.out _ hmem wr BW.out Ai ci hci hCi
   obtain ⟨y, ey⟩ : ∃ y, y = l.getD kk [] := ⟨_, rfl⟩
   rw [← ey] at hx1 hcall
   have B := Aside0.mk ey
   clear ey hmem hci hCi
   cases hq : p y with
   | true =>
    rw [hq] at hcall
    have HQ := Aside0.mk hq
    clear hq
    go_wp2_with (go_at_fn g; refine hcall.mono ?_; rintro e w' ⟨rfl, hb'⟩)
    go_ret
    refine ⟨?_, BW.out.trans (hb'.mono BW.out.size)⟩
    rw [idxF_drop_hit p [] l kk 0 hlt A0.out (by rw [← B.out]; exact HQ.out), Nat.zero_add]
    rfl
   | false =>
    rw [hq] at hcall
    have HQ := Aside0.mk hq
    clear hq
    go_wp2_with (go_at_fn g; refine hcall.mono ?_; rintro e w' ⟨rfl, hb'⟩)
    go_roundg (l.length - (kk + 1))
    case measure => omega
    case rel =>
     refine ⟨kk + 1, by omega, by omega, by go_num, ⟨BW.out.trans (hb'.mono BW.out.size)⟩, ⟨fun j hj => ?_⟩⟩
     by_cases e : j = kk
     ·
      subst e
      rw [← B.out]; exact HQ.out
     ·
      exact A0.out j (by omega)
  ·
   have hltz : ¬ (kk : Int) < (l.length : Int) := by omega
   have : kk = l.length := by omega
   subst this
   go_wp2
   go_ret
   refine ⟨?_, BW.out⟩
   rw [idxF_miss p [] l 0 A0.out]
   rfl
set_option maxHeartbeats 2000000 in
theorem slices_ContainsFunc_rowsB (p : List Bool → Bool) (g : Nat) (lb : Array Value) (eg : ∀ args w, (callFunc g args).run Try.prog w = .ok (.enter g args) w)
  (A : Option Addr) (c : Nat) (l : List (List Bool)) (w : World) (hr : Kd.C (Kd.slice 4 Kd.bool) w A l.length l) (hbig : l.length < 9223372036854775807)
  (hp : ∀ x, x ∈ l → GivesRow Try.prog Kd.bool g lb w x (p x)) :
  Calls Try.prog 133 #[.slice A l.length c, .func (.func g) #[] lb] w fun e w' => e = .returned (.bool (l.any p)) ∧ Below w.heap.size w w' := by
 rw [← idxF_any p l 0]
 have HR := Aside0.mk hr
 have HP := Aside0.mk hp
 clear hr hp
 go_enter Try.func133, Try.ntmps133
 go_wp2_with (go_at_call 168; refine (slices_IndexFunc_rowsB p g lb eg A c l _ HR.out hbig HP.out).mono ?_; rintro e w' ⟨rfl, hb'⟩)
 go_ret
 exact ⟨rfl, hb'⟩

def impl_statesCode.f (k : Nat) (l0 : List S77) (l1 : List (List Bool)) : Option Int :=
 if l1.length ≤ 1048576 then (impl_ValidUnits.f k l0).bind fun t => some (if t = true then (if l1.length < 1 then 7 else if l1.length > 12 then 7 else if l1.any (fun x => x.length != l0.length) = true then 7 else 0) else 1) else none
theorem impl_statesCode.mono : ∀ a0 a1 k, LeO (impl_statesCode.f k a0 a1) (impl_statesCode.f (k + 1) a0 a1) := by
 intro a0 a1 k
 unfold impl_statesCode.f
 exact LeO.ite (LeO.bind (impl_ValidUnits.mono _ _) (fun _ => LeO.refl _)) (LeO.none _)
theorem statesCode_1 (w : World) (B : Nat) (A0 : Option Addr) (n c0 : Nat) (hB : B < w.heap.size) (hb : w.cell? ⟨B, 0, none⟩ = some (.slice A0 n c0)) (x : List Bool) :
  GivesRow Try.prog Kd.bool 134 #[.pointer (some ⟨B, 0, none⟩)] w x (x.length != n) := fun W hbel A c _ _ => by
 have hb' : W.cell? ⟨B, 0, none⟩ = some (.slice A0 n c0) := (hbel.cell (p := ⟨B, 0, none⟩) hB).trans hb
 by_cases hx : x.length = n
 ·
  go_enter Try.func134, Try.ntmps134
  go_wp2
  go_ret
  exact ⟨by simp [hx], Below.refl _ _⟩
 ·
  have hz : ¬ (x.length : Int) = (n : Int) := by omega
  go_enter Try.func134, Try.ntmps134
  go_wp2
  go_ret
  have e1 : ((x.length : Int) != (n : Int)) = true := bne_iff_ne.mpr hz
  have e2 : (x.length != n) = true := bne_iff_ne.mpr hx
  exact ⟨by show Ending.returned (.bool ((x.length : Int) != (n : Int))) = _; rw [e1, e2], Below.refl _ _⟩
set_option maxHeartbeats 4000000 in
theorem impl_statesCode.calls (k : Nat) (A0 : Option Addr) (c0 : Nat) (l0 : List S77) (A1 : Option Addr) (c1 : Nat) (l1 : List (List Bool)) (r : Int) (w : World) (hr0 : Kd.C k77 w A0 l0.length l0) (hc0 : l0.length ≤ c0) (hr1 : Kd.C (Kd.slice 4 Kd.bool) w A1 l1.length l1) (hc1 : l1.length ≤ c1) (h : impl_statesCode.f k l0 l1 = some r) :
  Calls Try.prog 101 #[.slice A0 l0.length c0, .slice A1 l1.length c1] w fun e w' => e = .returned (.int .i64 r) ∧ Below w.heap.size w w' := by
 unfold impl_statesCode.f at h
 split at h
 ·
  rename_i hlen
  obtain ⟨t, ht, h⟩ := Option.bind_eq_some_iff.mp h
  obtain rfl := Option.some.inj h
  have HR0 := Aside0.mk hr0
  have HC0 := Aside0.mk hc0
  have HR1 := Aside0.mk hr1
  have HT := Aside0.mk ht
  clear h hr0 hc0 hr1 hc1 ht
  cases t with
  | false =>
   simp only [Bool.false_eq_true, if_false]
   go_enter Try.func101, Try.ntmps101
   go_wp2_with (go_at_call 67; refine (impl_ValidUnits.calls k A0 c0 l0 false _ (Kd.C_alloc HR0.out _) HC0.out HT.out).mono ?_; rintro e w1 ⟨rfl, hb⟩)
   go_ret
   exact ⟨rfl, ((Below.refl _ w).alloc (Nat.le_refl _) _).trans (hb.mono (by simp))⟩
  | true =>
   simp only [if_true]
   by_cases h1 : l1.length < 1
   ·
    have h1z : (l1.length : Int) < 1 := by omega
    rw [if_pos h1]
    go_enter Try.func101, Try.ntmps101
    go_wp2_with (go_at_call 67; refine (impl_ValidUnits.calls k A0 c0 l0 true _ (Kd.C_alloc HR0.out _) HC0.out HT.out).mono ?_; rintro e w1 ⟨rfl, hb⟩)
    go_ret
    exact ⟨rfl, ((Below.refl _ w).alloc (Nat.le_refl _) _).trans (hb.mono (by simp))⟩
   ·
    have h1z : ¬ (l1.length : Int) < 1 := by omega
    rw [if_neg h1]
    by_cases h2 : l1.length > 12
    ·
     have h2z : (12 : Int) < (l1.length : Int) := by omega
     rw [if_pos h2]
     go_enter Try.func101, Try.ntmps101
     go_wp2_with (go_at_call 67; refine (impl_ValidUnits.calls k A0 c0 l0 true _ (Kd.C_alloc HR0.out _) HC0.out HT.out).mono ?_; rintro e w1 ⟨rfl, hb⟩)
     go_ret
     exact ⟨rfl, ((Below.refl _ w).alloc (Nat.le_refl _) _).trans (hb.mono (by simp))⟩
    ·
     have h2z : ¬ (12 : Int) < (l1.length : Int) := by omega
     rw [if_neg h2]
     have hC := fun (W : World) (hbel : Below w.heap.size w W) (hB : w.heap.size < W.heap.size) (hb : W.cell? ⟨w.heap.size, 0, none⟩ = some (.slice A0 l0.length c0)) =>
      slices_ContainsFunc_rowsB (fun x => x.length != l0.length) 134 #[.pointer (some ⟨w.heap.size, 0, none⟩)] (enters_of Try.func134 (by kernel_rfl) rfl) A1 c1 l1 W (Kd.C_below HR1.out hbel) (by omega) (fun x _ => statesCode_1 W _ A0 l0.length c0 hB hb x)
     cases hq : l1.any (fun x => x.length != l0.length) with
     | true =>
      rw [hq] at hC
      simp only [if_true]
      clear hq
      go_enter Try.func101, Try.ntmps101
      go_wp2_with (first | (go_at_call 67; refine (impl_ValidUnits.calls k A0 c0 l0 true _ (Kd.C_alloc HR0.out _) HC0.out HT.out).mono ?_; rintro e w1 ⟨rfl, hb⟩; have HB1 := Aside0.mk (((Below.refl _ w).alloc (Nat.le_refl _) _).trans (hb.mono (by simp))); have HZ := Aside0.mk (show w.heap.size < w1.heap.size by have := hb.size; simp at this; omega); have hx0 := (bcell_ hb).1 w.heap.size 0 (by simp); simp at hx0; clear hb) | (go_at_call 133; refine (hC _ HB1.out HZ.out hx0).mono ?_; rintro e w2 ⟨rfl, hb2⟩))
      go_ret
      exact ⟨rfl, HB1.out.trans (hb2.mono HB1.out.size)⟩
     | false =>
      rw [hq] at hC
      simp only [Bool.false_eq_true, if_false]
      clear hq
      go_enter Try.func101, Try.ntmps101
      go_wp2_with (first | (go_at_call 67; refine (impl_ValidUnits.calls k A0 c0 l0 true _ (Kd.C_alloc HR0.out _) HC0.out HT.out).mono ?_; rintro e w1 ⟨rfl, hb⟩; have HB1 := Aside0.mk (((Below.refl _ w).alloc (Nat.le_refl _) _).trans (hb.mono (by simp))); have HZ := Aside0.mk (show w.heap.size < w1.heap.size by have := hb.size; simp at this; omega); have hx0 := (bcell_ hb).1 w.heap.size 0 (by simp); simp at hx0; clear hb) | (go_at_call 133; refine (hC _ HB1.out HZ.out hx0).mono ?_; rintro e w2 ⟨rfl, hb2⟩))
      go_ret
      exact ⟨rfl, HB1.out.trans (hb2.mono HB1.out.size)⟩
 ·
  cases h

/-! ### impl_planCode: function 93 -/
def impl_planCode.f (k : Nat) (l0 : List (S77)) (l1 : List (List Bool)) (l2 : List Int) : Option (Int) := (impl_statesCode.f k l0 l1).bind fun t252 => ((impl_demandsCode.f k l0 l2).bind fun t253 => (if (mx t252 t253) = 0 then (if (l1.length : Int) = (l2.length : Int) then (some (mx t252 t253)) else (some 7)) else (some (mx t252 t253))))
theorem impl_planCode.mono : ∀ a0 a1 a2 k, LeO (impl_planCode.f k a0 a1 a2) (impl_planCode.f (k + 1) a0 a1 a2) := by
 intro a0 a1 a2 k
 unfold impl_planCode.f
 repeat' first
   | (with_reducible exact impl_demandsCode.mono _ _ _)
   | (with_reducible exact impl_statesCode.mono _ _ _)
   | (with_reducible exact LeO.refl _)
   | (with_reducible exact LeO.none _)
   | (with_reducible refine LeO.ite ?_ ?_)
   | (with_reducible refine LeO.bind ?_ (fun _ => ?_))
   | exact impl_demandsCode.mono _ _ _
   | exact impl_statesCode.mono _ _ _
   | exact LeO.none _
   | refine LeO.ite ?_ ?_
   | refine LeO.bind ?_ (fun _ => ?_)
set_option maxHeartbeats 8000000 in
set_option maxRecDepth 100000 in
theorem impl_planCode.calls (k : Nat) (A0 : Option Addr) (c0 : Nat) (l0 : List (S77)) (A1 : Option Addr) (c1 : Nat) (l1 : List (List Bool)) (A2 : Option Addr) (c2 : Nat) (l2 : List Int) (r : Int) (w : World) (hr0 : Kd.C k77 w A0 l0.length l0) (hc0 : l0.length ≤ c0) (hr1 : Kd.C (Kd.slice 4 Kd.bool) w A1 l1.length l1) (hc1 : l1.length ≤ c1) (hr2 : Kd.C (Kd.int .i64) w A2 l2.length l2) (hc2 : l2.length ≤ c2) (h : impl_planCode.f k l0 l1 l2 = some r) :
  Calls Try.prog 93 #[.slice A0 l0.length c0, .slice A1 l1.length c1, .slice A2 l2.length c2] w fun e w' => e = .returned (.int .i64 r) ∧ Below w.heap.size w w' := by
 have HR0 := Aside0.mk hr0
 have HC0 := Aside0.mk hc0
 clear hr0 hc0
 have HR1 := Aside0.mk hr1
 have HC1 := Aside0.mk hc1
 clear hr1 hc1
 have HR2 := Aside0.mk hr2
 have HC2 := Aside0.mk hc2
 clear hr2 hc2
 have HB := Aside0.mk (Below.refl w.heap.size w)
 have H : ((impl_statesCode.f k l0 l1).bind fun t252 => ((impl_demandsCode.f k l0 l2).bind fun t253 => (if (mx t252 t253) = 0 then (if (l1.length : Int) = (l2.length : Int) then (some (mx t252 t253)) else (some 7)) else (some (mx t252 t253))))) = some r := h
 clear h
 replace H := Option.bind_eq_some_iff.mp H
 obtain ⟨t252, A40, H⟩ := H
 replace H : ((impl_demandsCode.f k l0 l2).bind fun t253 => (if (mx t252 t253) = 0 then (if (l1.length : Int) = (l2.length : Int) then (some (mx t252 t253)) else (some 7)) else (some (mx t252 t253)))) = some r := H
 have A4 := Aside0.mk A40
 clear A40
 replace H := Option.bind_eq_some_iff.mp H
 obtain ⟨t253, A50, H⟩ := H
 replace H : (if (mx t252 t253) = 0 then (if (l1.length : Int) = (l2.length : Int) then (some (mx t252 t253)) else (some 7)) else (some (mx t252 t253))) = some r := H
 have A5 := Aside0.mk A50
 clear A50
 obtain ⟨ji6, hji6⟩ : ∃ j_ : Int, (mx t252 t253) = j_ := ⟨_, rfl⟩
 replace H : (if (ji6) = 0 then (if (l1.length : Int) = (l2.length : Int) then (some ji6) else (some 7)) else (some ji6)) = some r := by first | (rw [hji6] at H; exact H) | (simp only [hji6] at H ⊢; exact H)
 (try rw [hji6] at A4)
 (try rw [hji6] at A5)
 have hji6_ : (if t252 < t253 then t253 else t252) = ji6 := hji6
 by_cases c7 : (ji6) = 0
 ·
  rw [if_pos c7] at H
  have c7b0 : ((ji6) == 0) = true := beq_iff_eq.mpr c7
  have c7b1 : ((ji6) != 0) = false := bne_eq_false_iff_eq.mpr c7
  clear c7
  by_cases c8 : (l1.length : Int) = (l2.length : Int)
  ·
   rw [if_pos c8] at H
   have c8b0 : ((l1.length : Int) == (l2.length : Int)) = true := beq_iff_eq.mpr c8
   have c8b1 : ((l1.length : Int) != (l2.length : Int)) = false := bne_eq_false_iff_eq.mpr c8
   have c8b2 : (l1.length == l2.length) = true := by first | simpa using c8 | (simp at c8 ⊢; omega)
   clear c8
   obtain rfl := Option.some.inj H
   go_enter Try.func93, Try.ntmps93
   go_wp2_with (first | ((with_reducible refine gate_callee (f := 101) rfl ?_); refine goesL_ (some 10) rfl rfl Try.func101 (by kernel_rfl) rfl #[.slice A0 l0.length c0, .slice A1 l1.length c1] rfl (by (try simp only [List.map_toArray, List.map_cons, List.map_nil]); first | done | rfl | (simp only [List.length_drop, List.length_take]; rfl)) ?_; (with_reducible refine (impl_statesCode.calls k _ _ l0 _ _ l1 t252 _ ?side1 ?side2 ?side3 ?side4 A4.out).mono ?_); (case side1 => repeat (first | exact HR0.out | (with_reducible refine Kd.C_alloc ?_ _) | (with_reducible refine Kd.C_drewN ?_ _) | (with_reducible refine Kd.C_drew ?_))); (case side2 => exact HC0.out); (case side3 => repeat (first | exact HR1.out | (with_reducible refine Kd.C_alloc ?_ _) | (with_reducible refine Kd.C_drewN ?_ _) | (with_reducible refine Kd.C_drew ?_))); (case side4 => exact HC1.out); rintro e w9 ⟨rfl, hb⟩; refine ⟨_, rfl, ?_⟩; have n0_ := Aside0.mk (below_step (by repeat (first | (with_reducible first | exact HB.out | apply below_alloc | apply pw_below_drewN | apply below_drew1) | exact HB.out)) hb); clear HB; have HB := n0_; clear n0_; (try clear hb); (try clear hb2); (try clear hk); (try clear hi)) | ((with_reducible refine gate_callee (f := 60) rfl ?_); refine goesL_ (some 13) rfl rfl Try.func60 (by kernel_rfl) rfl #[.slice A0 l0.length c0, .slice A2 l2.length c2] rfl (by (try simp only [List.map_toArray, List.map_cons, List.map_nil]); first | done | rfl | (simp only [List.length_drop, List.length_take]; rfl)) ?_; (with_reducible refine (impl_demandsCode.calls k _ _ l0 _ _ l2 t253 _ ?side1 ?side2 ?side3 ?side4 A5.out).mono ?_); (case side1 => repeat (first | exact (Kd.C_below HR0.out HB.out) | (with_reducible refine Kd.C_alloc ?_ _) | (with_reducible refine Kd.C_drewN ?_ _) | (with_reducible refine Kd.C_drew ?_))); (case side2 => exact HC0.out); (case side3 => repeat (first | exact (Kd.C_below HR2.out HB.out) | (with_reducible refine Kd.C_alloc ?_ _) | (with_reducible refine Kd.C_drewN ?_ _) | (with_reducible refine Kd.C_drew ?_))); (case side4 => exact HC2.out); rintro e w10 ⟨rfl, hb⟩; refine ⟨_, rfl, ?_⟩; have n0_ := Aside0.mk (below_step (by repeat (first | (with_reducible first | exact HB.out | apply below_alloc | apply pw_below_drewN | apply below_drew1) | exact HB.out)) hb); clear HB; have HB := n0_; clear n0_; (try clear hb); (try clear hb2); (try clear hk); (try clear hi)))
   go_ret
   exact ⟨by first | rfl | (simp [errW_none, errW_some] <;> rfl) | (simp only [← hji6]; first | rfl | (simp [errW_none, errW_some] <;> rfl)) | (simp [*, errW_none, errW_some] <;> rfl), by repeat (first | (with_reducible first | exact HB.out | apply below_alloc | apply pw_below_drewN | apply below_drew1) | exact HB.out)⟩
  ·
   rw [if_neg c8] at H
   have c8b0 : ((l1.length : Int) == (l2.length : Int)) = false := beq_eq_false_iff_ne.mpr c8
   have c8b1 : ((l1.length : Int) != (l2.length : Int)) = true := bne_iff_ne.mpr c8
   have c8b2 : (l1.length == l2.length) = false := by first | simpa using c8 | (simp at c8 ⊢; omega)
   obtain rfl := Option.some.inj H
   go_enter Try.func93, Try.ntmps93
   go_wp2_with (first | ((with_reducible refine gate_callee (f := 101) rfl ?_); refine goesL_ (some 10) rfl rfl Try.func101 (by kernel_rfl) rfl #[.slice A0 l0.length c0, .slice A1 l1.length c1] rfl (by (try simp only [List.map_toArray, List.map_cons, List.map_nil]); first | done | rfl | (simp only [List.length_drop, List.length_take]; rfl)) ?_; (with_reducible refine (impl_statesCode.calls k _ _ l0 _ _ l1 t252 _ ?side1 ?side2 ?side3 ?side4 A4.out).mono ?_); (case side1 => repeat (first | exact HR0.out | (with_reducible refine Kd.C_alloc ?_ _) | (with_reducible refine Kd.C_drewN ?_ _) | (with_reducible refine Kd.C_drew ?_))); (case side2 => exact HC0.out); (case side3 => repeat (first | exact HR1.out | (with_reducible refine Kd.C_alloc ?_ _) | (with_reducible refine Kd.C_drewN ?_ _) | (with_reducible refine Kd.C_drew ?_))); (case side4 => exact HC1.out); rintro e w11 ⟨rfl, hb⟩; refine ⟨_, rfl, ?_⟩; have n0_ := Aside0.mk (below_step (by repeat (first | (with_reducible first | exact HB.out | apply below_alloc | apply pw_below_drewN | apply below_drew1) | exact HB.out)) hb); clear HB; have HB := n0_; clear n0_; (try clear hb); (try clear hb2); (try clear hk); (try clear hi)) | ((with_reducible refine gate_callee (f := 60) rfl ?_); refine goesL_ (some 13) rfl rfl Try.func60 (by kernel_rfl) rfl #[.slice A0 l0.length c0, .slice A2 l2.length c2] rfl (by (try simp only [List.map_toArray, List.map_cons, List.map_nil]); first | done | rfl | (simp only [List.length_drop, List.length_take]; rfl)) ?_; (with_reducible refine (impl_demandsCode.calls k _ _ l0 _ _ l2 t253 _ ?side1 ?side2 ?side3 ?side4 A5.out).mono ?_); (case side1 => repeat (first | exact (Kd.C_below HR0.out HB.out) | (with_reducible refine Kd.C_alloc ?_ _) | (with_reducible refine Kd.C_drewN ?_ _) | (with_reducible refine Kd.C_drew ?_))); (case side2 => exact HC0.out); (case side3 => repeat (first | exact (Kd.C_below HR2.out HB.out) | (with_reducible refine Kd.C_alloc ?_ _) | (with_reducible refine Kd.C_drewN ?_ _) | (with_reducible refine Kd.C_drew ?_))); (case side4 => exact HC2.out); rintro e w12 ⟨rfl, hb⟩; refine ⟨_, rfl, ?_⟩; have n0_ := Aside0.mk (below_step (by repeat (first | (with_reducible first | exact HB.out | apply below_alloc | apply pw_below_drewN | apply below_drew1) | exact HB.out)) hb); clear HB; have HB := n0_; clear n0_; (try clear hb); (try clear hb2); (try clear hk); (try clear hi)))
   go_ret
   exact ⟨by first | rfl | (simp [errW_none, errW_some] <;> rfl) | (simp only [← hji6]; first | rfl | (simp [errW_none, errW_some] <;> rfl)) | (simp [*, errW_none, errW_some] <;> rfl), by repeat (first | (with_reducible first | exact HB.out | apply below_alloc | apply pw_below_drewN | apply below_drew1) | exact HB.out)⟩
 ·
  rw [if_neg c7] at H
  have c7b0 : ((ji6) == 0) = false := beq_eq_false_iff_ne.mpr c7
  have c7b1 : ((ji6) != 0) = true := bne_iff_ne.mpr c7
  obtain rfl := Option.some.inj H
  go_enter Try.func93, Try.ntmps93
  go_wp2_with (first | ((with_reducible refine gate_callee (f := 101) rfl ?_); refine goesL_ (some 10) rfl rfl Try.func101 (by kernel_rfl) rfl #[.slice A0 l0.length c0, .slice A1 l1.length c1] rfl (by (try simp only [List.map_toArray, List.map_cons, List.map_nil]); first | done | rfl | (simp only [List.length_drop, List.length_take]; rfl)) ?_; (with_reducible refine (impl_statesCode.calls k _ _ l0 _ _ l1 t252 _ ?side1 ?side2 ?side3 ?side4 A4.out).mono ?_); (case side1 => repeat (first | exact HR0.out | (with_reducible refine Kd.C_alloc ?_ _) | (with_reducible refine Kd.C_drewN ?_ _) | (with_reducible refine Kd.C_drew ?_))); (case side2 => exact HC0.out); (case side3 => repeat (first | exact HR1.out | (with_reducible refine Kd.C_alloc ?_ _) | (with_reducible refine Kd.C_drewN ?_ _) | (with_reducible refine Kd.C_drew ?_))); (case side4 => exact HC1.out); rintro e w13 ⟨rfl, hb⟩; refine ⟨_, rfl, ?_⟩; have n0_ := Aside0.mk (below_step (by repeat (first | (with_reducible first | exact HB.out | apply below_alloc | apply pw_below_drewN | apply below_drew1) | exact HB.out)) hb); clear HB; have HB := n0_; clear n0_; (try clear hb); (try clear hb2); (try clear hk); (try clear hi)) | ((with_reducible refine gate_callee (f := 60) rfl ?_); refine goesL_ (some 13) rfl rfl Try.func60 (by kernel_rfl) rfl #[.slice A0 l0.length c0, .slice A2 l2.length c2] rfl (by (try simp only [List.map_toArray, List.map_cons, List.map_nil]); first | done | rfl | (simp only [List.length_drop, List.length_take]; rfl)) ?_; (with_reducible refine (impl_demandsCode.calls k _ _ l0 _ _ l2 t253 _ ?side1 ?side2 ?side3 ?side4 A5.out).mono ?_); (case side1 => repeat (first | exact (Kd.C_below HR0.out HB.out) | (with_reducible refine Kd.C_alloc ?_ _) | (with_reducible refine Kd.C_drewN ?_ _) | (with_reducible refine Kd.C_drew ?_))); (case side2 => exact HC0.out); (case side3 => repeat (first | exact (Kd.C_below HR2.out HB.out) | (with_reducible refine Kd.C_alloc ?_ _) | (with_reducible refine Kd.C_drewN ?_ _) | (with_reducible refine Kd.C_drew ?_))); (case side4 => exact HC2.out); rintro e w14 ⟨rfl, hb⟩; refine ⟨_, rfl, ?_⟩; have n0_ := Aside0.mk (below_step (by repeat (first | (with_reducible first | exact HB.out | apply below_alloc | apply pw_below_drewN | apply below_drew1) | exact HB.out)) hb); clear HB; have HB := n0_; clear n0_; (try clear hb); (try clear hb2); (try clear hk); (try clear hi)))
  go_ret
  exact ⟨by first | rfl | (simp [errW_none, errW_some] <;> rfl) | (simp only [← hji6]; first | rfl | (simp [errW_none, errW_some] <;> rfl)) | (simp [*, errW_none, errW_some] <;> rfl), by repeat (first | (with_reducible first | exact HB.out | apply below_alloc | apply pw_below_drewN | apply below_drew1) | exact HB.out)⟩

/-! ### impl_meritOrder: function 114 -/
def insRevG {α : Type} (lt : α → α → Bool) (x : α) : List α → List α
 | [] => [x]
 | y :: t => if lt x y then y :: insRevG lt x t else x :: y :: t
theorem insInner_list {α : Type} [Inhabited α] (lt : α → α → Bool) : ∀ (n : Nat) (A : List α) (x : α) (B : List α) (d : Array α), A.length = n → d.toList = A ++ x :: B → (Go.Sort.insInner lt 0 A.length d).toList = (insRevG lt x A.reverse).reverse ++ B := by
 intro n
 induction n with
 | zero =>
  intro A x B d hA hd
  obtain rfl := List.eq_nil_of_length_eq_zero hA
  rw [List.length_nil, Go.Sort.insInner, hd]
  rfl
 | succ n ih =>
  intro A x B d hA hd
  rcases List.eq_nil_or_concat A with rfl | ⟨A', y, rfl⟩
  ·
   simp at hA
  rw [List.concat_eq_append] at hA hd ⊢
  ·
   have hl : A'.length = n := by simpa using hA
   have hd2 : d = (A' ++ y :: x :: B).toArray := by
    apply Array.ext'
    rw [hd]
    simp
   subst hd2
   have e1 : (A' ++ y :: x :: B).toArray[A'.length + 1]! = x := by
    rw [getElem!_pos _ _ (by simp)]
    simp
   have e2 : (A' ++ y :: x :: B).toArray[A'.length]! = y := by
    rw [getElem!_pos _ _ (by simp)]
    simp
   rw [List.length_append, List.length_singleton, Go.Sort.insInner, e1, e2, List.reverse_append, List.reverse_singleton]
   show _ = (insRevG lt x (y :: A'.reverse)).reverse ++ B
   rw [insRevG]
   cases hlt : lt x y with
   | true =>
    have hs : (Go.Sort.swp (A' ++ y :: x :: B).toArray (A'.length + 1) A'.length).toList = A' ++ x :: y :: B := by
     unfold Go.Sort.swp
     rw [e1, e2]
     simp
    rw [if_pos (by simp), if_pos rfl, ih A' x (y :: B) _ hl hs]
    simp
   | false =>
    rw [if_neg (by simp), if_neg (by decide)]
    simp
theorem insOuter_list {α : Type} [Inhabited α] (lt : α → α → Bool) : ∀ (R Q : List α) (d : Array α), d.toList = Q ++ R → (Go.Sort.insOuter lt 0 (Q.length + R.length) Q.length d).toList = (R.foldl (fun acc x => insRevG lt x acc) Q.reverse).reverse := by
 intro R
 induction R with
 | nil =>
  intro Q d hd
  rw [List.length_nil, Go.Sort.insOuter, if_neg (by omega), hd]
  simp
 | cons x R ih =>
  intro Q d hd
  rw [Go.Sort.insOuter, if_pos (by simp)]
  have h1 := insInner_list lt Q.length Q x R d rfl hd
  have hlen : ((insRevG lt x Q.reverse).reverse).length = Q.length + 1 := by
   have : ∀ l : List α, (insRevG lt x l).length = l.length + 1 := by
    intro l
    induction l with
    | nil => rfl
    | cons y t iht =>
     rw [insRevG]
     split
     ·
      rw [List.length_cons, iht, List.length_cons]
     ·
      rfl
   rw [List.length_reverse, this, List.length_reverse]
  have h2 := ih (insRevG lt x Q.reverse).reverse _ h1
  rw [hlen, List.reverse_reverse] at h2
  rw [List.length_cons, List.foldl_cons, ← h2]
  congr 2
  omega
theorem insertion_list {α : Type} [Inhabited α] (lt : α → α → Bool) (d : Array α) : (Go.Sort.insertionSort lt d 0 d.size).toList = (d.toList.foldl (fun acc x => insRevG lt x acc) []).reverse := by
 unfold Go.Sort.insertionSort
 cases hd : d.toList with
 | nil =>
  have : d.size = 0 := by rw [← Array.length_toList, hd]; rfl
  rw [Go.Sort.insOuter, if_neg (by omega), hd]
  rfl
 | cons x R =>
  have h := insOuter_list lt R [x] d hd
  have hs : d.size = 1 + R.length := by rw [← Array.length_toList, hd, List.length_cons]; omega
  rw [hs]
  exact h
def cmpI (a b : Int) : Int := if a < b then -1 else if b < a then 1 else 0
def insRev (p : Nat → Int) (x : Nat) : List Nat → List Nat
 | [] => [x]
 | y :: t => if p x < p y then y :: insRev p x t else x :: y :: t
def meritN (p : Nat → Int) (n : Nat) : List Nat := ((List.range n).foldl (fun acc i => insRev p i acc) []).reverse
theorem merit_sort (p : Nat → Int) (n : Nat) [Inhabited (Fin n)] : (Go.Sort.insertionSort (ltOf (fun x y : Fin n => cmpI (p x.val) (p y.val))) (List.finRange n).toArray 0 n).toList.map Fin.val = meritN p n := by
 have h := insertion_list (ltOf (fun x y : Fin n => cmpI (p x.val) (p y.val))) (List.finRange n).toArray
 rw [show (List.finRange n).toArray.size = n by simp] at h
 rw [h, List.map_reverse]
 unfold meritN
 congr 1
 have hr : List.range n = (List.finRange n).map Fin.val := by
  refine List.ext_getElem (by simp) fun i h1 h2 => ?_
  simp
 rw [hr]
 have hi : ∀ (x : Fin n) (l : List (Fin n)), (insRevG (ltOf (fun x y : Fin n => cmpI (p x.val) (p y.val))) x l).map Fin.val = insRev p x.val (l.map Fin.val) := by
  intro x l
  induction l with
  | nil => rfl
  | cons y t ih =>
   rw [insRevG, List.map_cons, insRev]
   have e : (ltOf (fun x y : Fin n => cmpI (p x.val) (p y.val)) x y = true) ↔ p x.val < p y.val := by
    unfold ltOf cmpI
    rw [decide_eq_true_eq]
    show (if p x.val < p y.val then (-1 : Int) else if p y.val < p x.val then 1 else 0) < 0 ↔ _
    split
    ·
     simp [*]
    ·
     split <;> simp [*]
   by_cases hlt : p x.val < p y.val
   ·
    rw [if_pos (e.2 hlt), if_pos hlt, List.map_cons, ih]
   ·
    rw [if_neg (fun h => hlt (e.1 h)), if_neg hlt]
    rfl
 have key : ∀ (R Q : List (Fin n)), (R.foldl (fun acc x => insRevG (ltOf (fun x y : Fin n => cmpI (p x.val) (p y.val))) x acc) Q).map Fin.val = (R.map Fin.val).foldl (fun acc i => insRev p i acc) (Q.map Fin.val) := by
  intro R
  induction R with
  | nil => intro Q; rfl
  | cons x R ih =>
   intro Q
   rw [List.foldl_cons, ih, hi, List.map_cons, List.foldl_cons]
 exact key _ []

theorem isnan_i64 (a : Int) (w : World) : Calls Try.prog 124 #[.int .i64 a] w fun e w' => e = .returned (.bool false) ∧ Drawn0 w w' := by
 go_enter Try.func124, Try.ntmps124
 go_wp2
 go_ret
 exact ⟨by first | rfl | simp, by repeat (first | exact Drawn0.refl _ | apply Drawn0.step)⟩
theorem cmp_i64 (a b : Int) (w : World) : Calls Try.prog 87 #[.int .i64 a, .int .i64 b] w fun e w' => e = .returned (.int .i64 (cmpI a b)) ∧ Drawn0 w w' := by
 by_cases h1 : a < b
 ·
  have h1b : decide (a < b) = true := decide_eq_true h1
  have e : cmpI a b = -1 := by unfold cmpI; rw [if_pos h1]
  rw [e]
  clear e
  go_enter Try.func87, Try.ntmps87
  go_wp2_with (go_at_call 124; refine (isnan_i64 _ _).mono ?_; rintro e w' ⟨rfl, ⟨nd, rfl⟩⟩)
  go_ret
  exact ⟨by first | rfl | simp, by repeat (first | exact Drawn0.refl _ | apply Drawn0.step)⟩
 ·
  have h1b : decide (a < b) = false := decide_eq_false h1
  by_cases h2 : b < a
  ·
   have h2b : decide (b < a) = true := decide_eq_true h2
   have h2c : decide (a > b) = true := decide_eq_true h2
   have e : cmpI a b = 1 := by unfold cmpI; rw [if_neg h1, if_pos h2]
   rw [e]
   clear e
   go_enter Try.func87, Try.ntmps87
   go_wp2_with (go_at_call 124; refine (isnan_i64 _ _).mono ?_; rintro e w' ⟨rfl, ⟨nd, rfl⟩⟩)
   go_ret
   exact ⟨by first | rfl | simp, by repeat (first | exact Drawn0.refl _ | apply Drawn0.step)⟩
  ·
   have h2b : decide (b < a) = false := decide_eq_false h2
   have h2c : decide (a > b) = false := decide_eq_false h2
   have e : cmpI a b = 0 := by unfold cmpI; rw [if_neg h1, if_neg h2]
   rw [e]
   clear e
   go_enter Try.func87, Try.ntmps87
   go_wp2_with (go_at_call 124; refine (isnan_i64 _ _).mono ?_; rintro e w' ⟨rfl, ⟨nd, rfl⟩⟩)
   go_ret
   exact ⟨by first | rfl | simp, by repeat (first | exact Drawn0.refl _ | apply Drawn0.step)⟩

theorem below_grown {w0 W : World} (h : Below w0.heap.size w0 W) (os : Array Obj) : Below w0.heap.size w0 (Go.Sort.grow W os) :=
 ⟨h.os, h.tape, h.output, Nat.le_trans h.size (by show W.heap.size ≤ (W.heap ++ os).size; rw [Array.size_append]; omega), fun k hk => by
  have h2 : k < W.heap.size := Nat.lt_of_lt_of_le hk h.size
  show (W.heap ++ os)[k]? = _
  rw [Array.getElem?_append_left h2]
  exact h.block k hk⟩
set_option maxHeartbeats 4000000 in
theorem stable_small {α : Type} [Inhabited α] (enc : α → Value) (hO : OneCell enc) (cf : α → α → Int) (g : Nat) (cb : Array Value) (blk off cap : Nat) (d : Array α) (W : World) (eg : ∀ args w, (callFunc g args).run Try.prog w = .ok (.enter g args) w) (hcmp : CmpReads Try.prog g cb enc cf blk off d.size W) (hH : Go.Sort.Holds enc W blk off d) (hsz : d.size < 20) :
  Calls Try.prog 143 #[.slice (some ⟨blk, off, none⟩) d.size cap, .func (.func g) #[] cb] W fun e w' => e = .returned (.tuple #[]) ∧ ∃ n, w' = (Go.Sort.putRow enc W blk off (Go.Sort.insertionSort (ltOf cf) d 0 d.size)).drewN n := by
 have hins := Try.insertionSortCmpFunc_one enc hO cf g cb blk off cap 0 d.size d W eg hcmp hH (Nat.zero_le _) (Nat.le_refl _) (by omega)
 generalize Go.Sort.putRow enc W blk off (Go.Sort.insertionSort (ltOf cf) d 0 d.size) = V at hins ⊢
 generalize d.size = n at *
 have HI := Aside0.mk hins
 have hz : ¬ (20 : Int) ≤ (n : Int) := by omega
 have hz2 : ¬ (20 : Int) < (n : Int) := by omega
 have hz2b : decide ((20 : Int) < (n : Int)) = false := decide_eq_false hz2
 have hz2c : decide (20 < n) = false := decide_eq_false (by omega)
 have hz2d : (20 < n) = False := eq_false (by omega)
 clear hins hcmp hH
 have hst : Calls Try.prog 171 #[.slice (some ⟨blk, off, none⟩) n cap, .int .i64 n, .func (.func g) #[] cb] W fun e w' => e = .returned (.tuple #[]) ∧ ∃ m, w' = V.drewN m := by
  go_enter Try.func171, Try.ntmps171
  go_wp2
  go_loopg [7, 8] 0 (fun gg s7 s8 wr => s7 = .int .i64 0 ∧ s8 = .int .i64 20 ∧ wr = W)
  case atStart => exact ⟨rfl, rfl, rfl⟩
  case round =>
   obtain ⟨rfl, rfl, rfl⟩ := hrel
   go_wp2_with (go_at_call 183; refine HI.out.mono ?_; rintro e w' ⟨rfl, m, rfl⟩)
   go_loopg [6, 7, 8, 9] 0 (fun gg s6 s7 s8 s9 wr => s6 = .int .i64 20 ∧ ∃ m, wr = V.drewN m)
   case atStart => exact ⟨rfl, _, rfl⟩
   case round =>
    obtain ⟨rfl, m2, rfl⟩ := hrel
    go_wp2
    go_end0
    exact ⟨rfl, _, rfl⟩
 have HS := Aside0.mk hst
 clear hst
 go_enter Try.func143, Try.ntmps143
 go_wp2_with (go_at_call 171; refine HS.out.mono ?_; rintro e w' ⟨rfl, m, rfl⟩)
 go_end0
 exact ⟨rfl, _, rfl⟩
theorem Kd_Stable_i64 (g : Nat) (cb : Array Value) (eg : ∀ args w, (callFunc g args).run Try.prog w = .ok (.enter g args) w) (p : Nat → Int) (n : Nat) (hn : 0 < n) (h16 : n ≤ 16) (w1 W : World) (v : Value) (hB : Below w1.heap.size w1 W) (hR : Kd.R (Kd.int .i64) 2 W w1.heap.size (fun _ => True) v ((List.range n).map fun i : Nat => (i : Int)))
  (hc : ∀ (x y : Nat), x < n → y < n → ∀ W', Below w1.heap.size w1 W' → Calls Try.prog g (#[.int .i64 x, .int .i64 y] ++ cb) W' fun e w' => e = .returned (.int .i64 (cmpI (p x) (p y))) ∧ ∃ q, w' = W'.drewN q) :
  Calls Try.prog 143 #[v, .func (.func g) #[] cb] W fun e w' => e = .returned (.tuple #[]) ∧ Kd.R (Kd.int .i64) 2 w' w1.heap.size (fun _ => True) v ((meritN p n).map fun i : Nat => (i : Int)) ∧ Below w1.heap.size w1 w' := by
 haveI : Inhabited (Fin n) := ⟨⟨0, hn⟩⟩
 obtain ⟨A1, c1, rfl⟩ := Kd.R_slice hR
 have hlen : ((List.range n).map fun i : Nat => (i : Int)).length = n := by simp
 rw [hlen] at hR
 have hown := Kd.own_of_R hR
 have henc : ∀ l : List (Fin n), encs (fun x : Int => Value.int .i64 x) ((l.map Fin.val).map fun i : Nat => (i : Int)) = l.map (fun i : Fin n => Value.int .i64 (i.val : Int)) := by
  intro l
  unfold encs
  rw [List.map_map, List.map_map]
  rfl
 have hr : List.range n = (List.finRange n).map Fin.val := by
  refine List.ext_getElem (by simp) fun i h1 h2 => ?_
  simp
 rw [hlen, hr, henc] at hown
 have hne : (Value.slice A1 n c1) ≠ .slice none 0 0 := by
  intro e
  injection e with _ e2 _
  omega
 obtain ⟨gb, cap, hv, hbg, hgl, hncap, hcm, hlz, hH⟩ := Lib.holds_of_ownsRow hown hne
 injection hv with hv1 _ hv3
 subst hv1
 subst hv3
 have hds : (List.finRange n).toArray.size = n := by simp
 have hcr : CmpReads Try.prog g cb (fun i : Fin n => Value.int .i64 (i.val : Int)) (fun x y => cmpI (p x.val) (p y.val)) gb 0 (List.finRange n).toArray.size W := by
  intro m os dk _ x y
  have hb2 : Below w1.heap.size w1 (sortWorld (fun i : Fin n => Value.int .i64 (i.val : Int)) W gb 0 m dk os) := below_grown (Lib.below_putRow hB hbg) os
  exact hc x.val y.val x.isLt y.isLt _ hb2
 have hs := stable_small (fun i : Fin n => Value.int .i64 (i.val : Int)) (fun _ => rfl) (fun x y => cmpI (p x.val) (p y.val)) g cb gb 0 c1 (List.finRange n).toArray W eg hcr hH (by omega)
 rw [hds] at hs
 have hlen0 : ((List.range n).map fun i : Nat => (i : Int)).length = n := by simp
 rw [hlen0]
 refine hs.mono ?_
 rintro e w' ⟨rfl, q, rfl⟩
 have hm := merit_sort p n
 have hsl : (Go.Sort.insertionSort (ltOf (fun x y : Fin n => cmpI (p x.val) (p y.val))) (List.finRange n).toArray 0 n).toList.length = n := by
  have h2 := congrArg List.length hm
  rw [List.length_map] at h2
  rw [h2]
  unfold meritN
  have hl : ∀ (R Q : List Nat), (R.foldl (fun acc i => insRev p i acc) Q).length = R.length + Q.length := by
   have h1 : ∀ (x : Nat) (l : List Nat), (insRev p x l).length = l.length + 1 := by
    intro x l
    induction l with
    | nil => rfl
    | cons y t ih =>
     rw [insRev]
     split
     ·
      rw [List.length_cons, ih, List.length_cons]
     ·
      rfl
   intro R
   induction R with
   | nil => intro Q; simp
   | cons x R ih => intro Q; rw [List.foldl_cons, ih, h1, List.length_cons]; omega
  rw [List.length_reverse, hl]
  simp
 have hc2 := Lib.ownsRow_putRow (q := 0) (k := n) (ys := (Go.Sort.insertionSort (ltOf (fun x y : Fin n => cmpI (p x.val) (p y.val))) (List.finRange n).toArray 0 n).toList) hown hsl (Nat.le_refl _)
 have hb3 : Below w1.heap.size w1 (Go.Sort.putRow (fun i : Fin n => Value.int .i64 (i.val : Int)) (Go.Sort.ahead W 0) gb 0 (Go.Sort.insertionSort (ltOf (fun x y : Fin n => cmpI (p x.val) (p y.val))) (List.finRange n).toArray 0 n)) := Lib.below_putRow hB hbg
 rw [List.take_of_length_le (by omega), Array.toArray_toList] at hc2
 refine ⟨rfl, Kd.R_drewN ?_ _, pw_below_drewN hb3 _⟩
 rw [← hm]
 refine Kd.R_of_own ?_ (fun _ _ => trivial)
 rw [henc, List.length_map, List.length_map, hsl]
 exact hc2

def meritI (l0 : List S77) : List Nat := meritN (fun i => (rd_T77 l0 (i : Int)).f3) l0.length
def impl_meritOrder.f (l0 : List S77) : Option (List Int) := if 0 < l0.length ∧ l0.length ≤ 16 then some ((meritI l0).map fun i : Nat => (i : Int)) else none
theorem merit_cmp (w1 : World) (B : Nat) (A0 : Option Addr) (c0 : Nat) (l0 : List S77) (hBl : B < w1.heap.size) (hb : w1.cell? ⟨B, 0, none⟩ = some (.slice A0 l0.length c0)) (hr : Kd.C k77 w1 A0 l0.length l0) (x y : Nat) (hx : x < l0.length) (hy : y < l0.length) (W : World) (hW : Below w1.heap.size w1 W) :
  Calls Try.prog 144 #[.int .i64 x, .int .i64 y, .pointer (some ⟨B, 0, none⟩)] W fun e w' => e = .returned (.int .i64 (cmpI (rd_T77 l0 (x : Int)).f3 (rd_T77 l0 (y : Int)).f3)) ∧ ∃ q, w' = W.drewN q := by
 have hb' : W.cell? ⟨B, 0, none⟩ = some (.slice A0 l0.length c0) := (hW.cell (p := ⟨B, 0, none⟩) hBl).trans hb
 have hr' := Kd.C_below hr hW
 have hxz : (x : Int) < (l0.length : Int) := by omega
 have hyz : (y : Int) < (l0.length : Int) := by omega
 obtain ⟨ad, rfl, x0, x1, x2, x3, x4, x5, x6⟩ := at_T77 hr' (x : Int) (by omega) hxz
 obtain ⟨ad2, e2, y0, y1, y2, y3, y4, y5, y6⟩ := at_T77 hr' (y : Int) (by omega) hyz
 obtain rfl : ad = ad2 := by injection e2
 rw [Int.toNat_natCast] at x3 y3
 clear x0 x1 x2 x4 x5 x6 y0 y1 y2 y4 y5 y6 hr hr' hb
 generalize (rd_T77 l0 (x : Int)).f3 = px at *
 generalize (rd_T77 l0 (y : Int)).f3 = py at *
 go_enter Try.func144, Try.ntmps144
 go_wp2_with (first | (go_at_call 87; refine (cmp_i64 _ _ _).mono ?_; rintro e w' ⟨rfl, ⟨nd, rfl⟩⟩; (try first | exact ⟨rfl, _, World.drewN_drewN _ _ _⟩ | exact ⟨rfl, _, Eq.trans (World.drewN_drewN _ _ _) (congrArg (World.drewN _) (Nat.add_assoc _ _ _))⟩)))
 repeat (go_quiet (first | (go_at_call 87; refine (cmp_i64 _ _ _).mono ?_; rintro e w' ⟨rfl, ⟨nd, rfl⟩⟩; (try first | exact ⟨rfl, _, World.drewN_drewN _ _ _⟩ | exact ⟨rfl, _, Eq.trans (World.drewN_drewN _ _ _) (congrArg (World.drewN _) (Nat.add_assoc _ _ _))⟩))); try go_wp2_with (first | (go_at_call 87; refine (cmp_i64 _ _ _).mono ?_; rintro e w' ⟨rfl, ⟨nd, rfl⟩⟩; (try first | exact ⟨rfl, _, World.drewN_drewN _ _ _⟩ | exact ⟨rfl, _, Eq.trans (World.drewN_drewN _ _ _) (congrArg (World.drewN _) (Nat.add_assoc _ _ _))⟩))))
 go_ret
 refine ⟨rfl, ?_⟩
 first | exact ⟨_, rfl⟩ | exact ⟨_, World.drewN_drewN _ _ _⟩ | (have h : Drawn0 W _ := (by repeat (first | exact Drawn0.refl _ | apply Drawn0.step)); exact h)
def fillL (n i : Nat) : List Int := ((List.range i).map fun j : Nat => (j : Int)) ++ List.replicate (n - i) 0
theorem fillL_len (n i : Nat) (h : i ≤ n) : (fillL n i).length = n := by simp [fillL]; omega
theorem fillL_set (n i : Nat) (h : i < n) : (fillL n i).set i (i : Int) = fillL n (i + 1) := by
 unfold fillL
 obtain ⟨m, hm⟩ : ∃ m, n - i = m + 1 := ⟨n - i - 1, by omega⟩
 rw [hm, show n - (i + 1) = m by omega, List.replicate_succ, List.set_append_right _ _ (by simp), List.range_succ]
 simp
set_option maxHeartbeats 8000000 in
set_option maxRecDepth 100000 in
theorem impl_meritOrder.calls (A0 : Option Addr) (c0 : Nat) (l0 : List S77) (r : List Int) (w : World) (hr0 : Kd.C k77 w A0 l0.length l0) (hc0 : l0.length ≤ c0) (h : impl_meritOrder.f l0 = some r) :
  Calls Try.prog 114 #[.slice A0 l0.length c0] w fun e w' => ∃ v0_ : Value, e = .returned (v0_) ∧ Kd.R (Kd.int .i64) 2 w' w.heap.size (fun _ => True) v0_ r ∧ Below w.heap.size w w' := by
 unfold impl_meritOrder.f at h
 split at h
 ·
  rename_i hl
  have HV := Aside0.mk (Option.some.inj h)
  have HR0 := Aside0.mk hr0
  clear h hc0 hr0
  obtain ⟨n, hn⟩ : ∃ n, n = l0.length := ⟨_, rfl⟩
  have hn0 : 0 ≤ (n : Int) := by omega
  have hn1 : 0 < n := by omega
  have hn2 : n ≤ 16 := by omega
  clear hl
  rw [← hn]
  have HN := Aside0.mk hn
  clear hn
  have HZ : Aside0 (List.replicate (n : Int).toNat (0 : Int) = fillL n 0) := ⟨by simp [fillL]⟩
  go_enter Try.func114, Try.ntmps114
  go_wp2_with (first | ((with_reducible refine gate_dst (N := 1) rfl ?_); refine box_event ?hg (N := 1) ?hd (cs := #[.slice A0 n c0]) (t := 27) ?hr ?_; (case hd => rfl); (case hg => rfl); (case hr => first | (go_simp; done) | (go_simp; rfl)); intro B hg w1 hbox hb; have BX := Aside0.mk hbox; have BG := Aside0.mk hg; have B1 := Aside0.mk hb; have hcz := (blk_cell hbox 0).trans (show (#[Value.slice A0 n c0] : Array Value)[0]? = some (.slice A0 n c0) from rfl); clear hbox hg hb) | ((with_reducible refine gate_dst (N := 7) rfl ?_); refine Kd.R_make (Kd.int .i64) _ 2 rfl (N := 7) rfl 23 _ _ rfl (n : Int) rfl rfl Try.underlying23 (.int .i64 0) 8 info2 rfl (by decide) (by omega) 0 (ok := fun _ => True) (okp := fun _ => True) rfl (fun _ hk => hk) trivial (by omega) (by omega) (Below.refl _ _) (Nat.le_refl _) ?_; intro v4 w4 ho5 hb hg_ hnew_; clear hg_ hnew_; rw [HZ.out] at ho5; obtain ⟨go, co, eo, g1_, g2_, g3_, g4_⟩ := Kd.R_form ho5 (by rw [fillL_len _ _ (Nat.zero_le _)]; omega); rw [fillL_len n 0 (Nat.zero_le _)] at eo; subst eo; have HO0 := Aside0.mk ho5; have HB := Aside0.mk hb; clear hb ho5 g1_ g2_ g3_ g4_))
  go_loopg [4, 10] n (fun gg s4 s10 wr => ∃ i : Nat, i ≤ n ∧ n - i ≤ gg ∧ s10 = .int .i64 i ∧ Aside0 (Kd.R (Kd.int .i64) 2 wr w1.heap.size (fun _ => True) (.slice (some ⟨go, 0, none⟩) n co) (fillL n i)) ∧ Aside0 (Below w1.heap.size w1 wr))
  case atStart => exact ⟨0, by omega, by omega, rfl, HO0, HB⟩
  case round =>
   clear HO0 HB
   obtain ⟨i, hi, hg, rfl, HN1, BW⟩ := hrel
   by_cases hlt : i < n
   ·
    have hltz : (i : Int) < (n : Int) := by omega
    have hfl := fillL_len n i hi
    obtain ⟨go9, co9, eo9, gb9, gl9, cl9, HG9⟩ := Kd.R_form HN1.out (by omega)
    have eg9 : go = go9 := by injection eo9 with ea _ _; injection ea with ea; injection ea
    subst eg9
    obtain ⟨hx9_0, hf9_0⟩ := Kd.R_celln 0 HN1.out (i : Int) (by omega) (by omega)
    have HP10 := Kd.R_putg HN1.out (i : Int) (i : Int)
    simp only [Int.toNat_natCast] at hx9_0 hf9_0 HP10
    have GB9 := Aside0.mk gb9
    have HS := Aside0.mk (fillL_set n i hlt)
    clear gb9 gl9 cl9 HG9 eo9 hfl
    have hi0 : 0 ≤ (i : Int) := by omega
    go_wp2_with (first | ((with_reducible refine gate_store (t := 2) (p := 16) rfl ?_); refine store_event (t := 2) (p := 16) (v := ?vo_w11) (w1 := (wr.setCell ⟨go, i, none⟩ (.int .i64 (i : Int)))) ?hg ?ho ?hn ?hr ?_; (case ho => rfl); (case hg => rfl); (case hn => rfl); (case hr => first | (go_simp; done) | (go_simp; rfl)); intro w11 hw; have hp_ : Kd.R (Kd.int .i64) 2 w11 w1.heap.size (fun _ => True) (.slice (some ⟨go, 0, none⟩) n co) (fillL n (i + 1)) := (by rw [hw, ← HS.out]; exact HP10.1); have HN2 := Aside0.mk hp_; have BW2 := Aside0.mk ((by rw [hw]; exact below_set (BW.out) GB9.out : Below w1.heap.size w1 w11)); clear HP10 hp_ hw HN1 BW))
    go_roundg (n - (i + 1))
    case measure => omega
    case rel => exact ⟨i + 1, by omega, by omega, by go_num, HN2, BW2⟩
   ·
    have hi4 : i = n := by omega
    subst hi4
    have hfe : fillL i i = (List.range i).map fun j : Nat => (j : Int) := by simp [fillL]
    rw [hfe] at HN1
    have hst := fun (W : World) (hB : Below w1.heap.size w1 W) (hR : Kd.R (Kd.int .i64) 2 W w1.heap.size (fun _ => True) (.slice (some ⟨go, 0, none⟩) i co) ((List.range i).map fun j : Nat => (j : Int))) => Kd_Stable_i64 144 #[.pointer (some ⟨B, 0, none⟩)] (enters_of Try.func144 (by kernel_rfl) rfl) (fun j => (rd_T77 l0 (j : Int)).f3) i hn1 hn2 w1 W (.slice (some ⟨go, 0, none⟩) i co) hB hR
     (fun x y hx hy W' hW' => merit_cmp w1 B A0 c0 l0 (blk_lt BX.out) (by rw [← HN.out]; exact hcz) (Kd.C_below HR0.out B1.out) x y (by rw [← HN.out]; exact hx) (by rw [← HN.out]; exact hy) W' hW')
    have HS := Aside0.mk hst
    clear hst hfe
    go_wp2_with (go_at_call 143; refine (HS.out _ BW.out HN1.out).mono ?_; rintro e w5 ⟨rfl, hR5, hB5⟩; have HR5 := Aside0.mk hR5; have HB5 := Aside0.mk hB5; clear hR5 hB5)
    go_ret
    refine ⟨_, rfl, ?_, B1.out.trans (HB5.out.mono B1.out.size)⟩
    rw [← HV.out]
    unfold meritI
    rw [← HN.out]
    exact Kd.R_lower HR5.out B1.out.size
 ·
  cases h

end Go.Proofs.Ytebkgebibammiaa.PFnExactPlanCost
