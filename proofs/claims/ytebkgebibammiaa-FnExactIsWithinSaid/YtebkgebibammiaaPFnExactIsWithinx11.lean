-- PRINTED by print.py (a twelfth state) out of the translation. Not trusted: Lean checks it.
import Derived.Test.YtebkgebibammiaaPFnExactIsWithinx0
import Derived.Test.YtebkgebibammiaaPFnExactIsWithinx8
import Derived.Test.YtebkgebibammiaaPFnExactIsWithinx10
namespace Go.Proofs.Ytebkgebibammiaa.PFnExactIsWithin
open Go.RowKit Go.Proofs.YtebkgebibammiaaW.PrintWords Go.Proofs.YtebkgebibammiaaW.PrintLast Go.Proofs.YtebkgebibammiaaW.PrintMore
attribute [local go_sem] max2_int min2_int max_two min_two max_three min_three max_four min_four   -- for this text's walks alone
set_option linter.unusedVariables false
set_option linter.unusedSimpArgs false

/-! ### impl_allWithin: function 113 -/
def GivesB (P : Program) (g : Nat) (lb : Array Value) (w0 : World) (x : Value) (b : Bool) : Prop :=
 ∀ W, Below w0.heap.size w0 W → Calls P g (#[x] ++ lb) W fun e w' => e = .returned (.bool b) ∧ Below w0.heap.size w0 w'
def idxF {α : Type} (p : α → Bool) : List α → Nat → Int
 | [], _ => -1
 | x :: xs, n => if p x then n else idxF p xs (n + 1)
theorem idxF_drop_hit {α : Type} (p : α → Bool) (d : α) : ∀ (l : List α) (k n : Nat), k < l.length → (∀ j, j < k → p (l.getD j d) = false) → p (l.getD k d) = true → idxF p l n = ((n + k : Nat) : Int)
 | [], k, n, h, _, _ => absurd h (by simp)
 | x :: xs, 0, n, h, h1, h2 => by simp at h2; simp [idxF, h2]
 | x :: xs, k + 1, n, h, h1, h2 => by
  have h0 := h1 0 (by omega)
  simp at h0
  simp only [idxF, h0]
  have := idxF_drop_hit p d xs k (n + 1) (by simpa using h) (fun j hj => by have := h1 (j + 1) (by omega); simpa using this) (by simpa using h2)
  simp only [Bool.false_eq_true, if_false, this]
  congr 1; omega
theorem idxF_miss {α : Type} (p : α → Bool) (d : α) : ∀ (l : List α) (n : Nat), (∀ j, j < l.length → p (l.getD j d) = false) → idxF p l n = -1
 | [], n, _ => rfl
 | x :: xs, n, h1 => by
  have h0 := h1 0 (by simp)
  simp at h0
  simp only [idxF, h0]
  have := idxF_miss p d xs (n + 1) (fun j hj => by have := h1 (j + 1) (by simpa using hj); simpa using this)
  simpa using this
theorem idxF_any {α : Type} (p : α → Bool) : ∀ (l : List α) (n : Nat), decide (0 ≤ idxF p l n) = l.any p
 | [], n => by simp [idxF]
 | x :: xs, n => by
  unfold idxF
  by_cases h : p x = true
  ·
   simp [h]
  ·
   simp only [Bool.not_eq_true] at h
   simp only [h, Bool.false_eq_true, if_false, List.any_cons, Bool.false_or]
   exact idxF_any p xs (n + 1)

set_option maxHeartbeats 2000000 in
theorem slices_IndexFunc_i64 (p : Int → Bool) (g : Nat) (lb : Array Value) (eg : ∀ args w, (callFunc g args).run Try.prog w = .ok (.enter g args) w)
  (A : Option Addr) (c : Nat) (l : List Int) (w : World) (hr : Kd.C (Kd.int .i64) w A l.length l) (hbig : l.length < 9223372036854775807)
  (hp : ∀ x, x ∈ l → GivesB Try.prog g lb w (.int .i64 x) (p x)) :
  Calls Try.prog 170 #[.slice A l.length c, .func (.func g) #[] lb] w fun e w' => e = .returned (.int .i64 (idxF p l 0)) ∧ Below w.heap.size w w' := by
 have HR := Aside0.mk hr
 have HP := Aside0.mk hp
 clear hr hp
 go_enter Try.func170, Try.ntmps170
 go_wp2
 go_loopg [5, 8] l.length (fun gg _ s8 wr => ∃ kk : Nat, kk ≤ l.length ∧ l.length - kk ≤ gg ∧ s8 = .int .i64 kk ∧ Aside0 (Below w.heap.size w wr) ∧ Aside0 (∀ j, j < kk → p (l.getD j 0) = false))
 case atStart => exact ⟨0, Nat.zero_le _, by omega, rfl, ⟨Below.refl _ w⟩, ⟨fun j hj => absurd hj (Nat.not_lt_zero _)⟩⟩
 case round =>
  obtain ⟨kk, hkk, hg, rfl, BW, A0⟩ := hrel
  by_cases hlt : kk < l.length
  ·
   have hltz : (kk : Int) < (l.length : Int) := by omega
   have HR1 := Aside0.mk (Kd.C_below HR.out BW.out)
   obtain ⟨ad, rfl, hx⟩ := Kd.at_int HR1.out (kk : Int) (by omega) hltz
   rw [Int.toNat_natCast] at hx
   have hmem : rd l (kk : Int) ∈ l := by
    unfold rd
    rw [Int.toNat_natCast, List.getD_eq_getElem?_getD, List.getElem?_eq_getElem hlt]
    exact List.getElem_mem _
   have hcall := HP.out _ hmem wr BW.out
   have ey : rd l (kk : Int) = l.getD kk 0 := by unfold rd; rw [Int.toNat_natCast]
   generalize rd l (kk : Int) = y at hx hcall ey
   have B := Aside0.mk ey
   clear ey
   cases hq : p y with
   | true =>
    rw [hq] at hcall
    go_wp2_with (go_at_fn g; refine hcall.mono ?_; rintro e w' ⟨rfl, hb'⟩)
    go_ret
    refine ⟨?_, hb'⟩
    rw [idxF_drop_hit p 0 l kk 0 hlt A0.out (by rw [← B.out]; exact hq), Nat.zero_add]
    rfl
   | false =>
    rw [hq] at hcall
    go_wp2_with (go_at_fn g; refine hcall.mono ?_; rintro e w' ⟨rfl, hb'⟩)
    go_roundg (l.length - (kk + 1))
    case measure => omega
    case rel =>
     refine ⟨kk + 1, by omega, by omega, by go_num, ⟨hb'⟩, ⟨fun j hj => ?_⟩⟩
     by_cases e : j = kk
     ·
      subst e
      rw [← B.out]; exact hq
     ·
      exact A0.out j (by omega)
  ·
   have hltz : ¬ (kk : Int) < (l.length : Int) := by omega
   have : kk = l.length := by omega
   subst this
   go_wp2
   go_ret
   refine ⟨?_, BW.out⟩
   rw [idxF_miss p 0 l 0 A0.out]
   rfl

set_option maxHeartbeats 2000000 in
theorem slices_ContainsFunc_i64 (p : Int → Bool) (g : Nat) (lb : Array Value) (eg : ∀ args w, (callFunc g args).run Try.prog w = .ok (.enter g args) w)
  (A : Option Addr) (c : Nat) (l : List Int) (w : World) (hr : Kd.C (Kd.int .i64) w A l.length l) (hbig : l.length < 9223372036854775807)
  (hp : ∀ x, x ∈ l → GivesB Try.prog g lb w (.int .i64 x) (p x)) :
  Calls Try.prog 141 #[.slice A l.length c, .func (.func g) #[] lb] w fun e w' => e = .returned (.bool (decide (0 ≤ idxF p l 0))) ∧ Below w.heap.size w w' := by
 have HR := Aside0.mk hr
 have HP := Aside0.mk hp
 clear hr hp
 go_enter Try.func141, Try.ntmps141
 go_wp2_with (go_at_call 170; refine (slices_IndexFunc_i64 p g lb eg A c l _ HR.out hbig HP.out).mono ?_; rintro e w' ⟨rfl, hb'⟩)
 go_ret
 exact ⟨rfl, hb'⟩

theorem allWithin_1 (w : World) (B C : Nat) (lo hi : Int) (hB : B < w.heap.size) (hC : C < w.heap.size)
  (hb : w.cell? ⟨B, 0, none⟩ = some (.int .i64 lo)) (hc : w.cell? ⟨C, 0, none⟩ = some (.int .i64 hi)) (x : Int) :
  GivesB Try.prog 142 #[.pointer (some ⟨B, 0, none⟩), .pointer (some ⟨C, 0, none⟩)] w (.int .i64 x) (!inB lo hi x) := fun W hbel => by
 have hb' : W.cell? ⟨B, 0, none⟩ = some (.int .i64 lo) := (hbel.cell (p := ⟨B, 0, none⟩) hB).trans hb
 have hc' : W.cell? ⟨C, 0, none⟩ = some (.int .i64 hi) := (hbel.cell (p := ⟨C, 0, none⟩) hC).trans hc
 go_enter Try.func142, Try.ntmps142
 go_wp2_with (go_at_call 104; refine (within_all _ _ _ _).mono ?_; rintro e w' ⟨rfl, rfl⟩)
 go_ret
 exact ⟨rfl, hbel⟩
def impl_allWithin.f (l0 : List Int) (a1 : Int) (a2 : Int) : Option Bool :=
 if l0.length < 9223372036854775807 then some (l0.all (inB a1 a2)) else none
theorem impl_allWithin.calls (A0 : Option Addr) (c0 : Nat) (l0 : List Int) (a1 : Int) (a2 : Int) (r : Bool) (w : World) (hr0 : Kd.C (Kd.int .i64) w A0 l0.length l0) (hc0 : l0.length ≤ c0) (h : impl_allWithin.f l0 a1 a2 = some r) :
  Calls Try.prog 113 #[.slice A0 l0.length c0, .int .i64 a1, .int .i64 a2] w fun e w' => e = .returned (.bool r) ∧ Below w.heap.size w w' := by
 unfold impl_allWithin.f at h
 split at h
 ·
  rename_i hlen
  have hrr : r = !decide (0 ≤ idxF (fun x => !inB a1 a2 x) l0 0) := by
   rw [idxF_any]
   rw [← Option.some.inj h, List.not_any_eq_all_not]
   simp
  have HR := Aside0.mk hr0
  have HRR := Aside0.mk hrr
  clear h hr0 hc0 hrr
  have hC := fun (W : World) (hbel : Below w.heap.size w W) (hB : w.heap.size < W.heap.size) (hC : w.heap.size + 1 < W.heap.size) (hb : W.cell? ⟨w.heap.size, 0, none⟩ = some (.int .i64 a1)) (hc : W.cell? ⟨w.heap.size + 1, 0, none⟩ = some (.int .i64 a2)) =>
   slices_ContainsFunc_i64 (fun x => !inB a1 a2 x) 142 #[.pointer (some ⟨w.heap.size, 0, none⟩), .pointer (some ⟨w.heap.size + 1, 0, none⟩)] (enters_of Try.func142 (by kernel_rfl) rfl) A0 c0 l0 W (Kd.C_below HR.out hbel) hlen (fun x _ => allWithin_1 W _ _ a1 a2 hB hC hb hc x)
  go_enter Try.func113, Try.ntmps113
  go_wp2_with (go_at_call 141; refine (hC _ (((Below.refl _ w).alloc (Nat.le_refl _) _).alloc (by simp) _) (by simp; omega) (by simp) (by simp) (by simp)).mono ?_; rintro e w' ⟨rfl, hb⟩)
  go_ret
  exact ⟨by rw [HRR.out]; rfl, (((Below.refl _ w).alloc (Nat.le_refl _) _).alloc (by simp) _).trans (hb.mono (by simp; omega))⟩
 ·
  cases h

/-! ### impl_demandsCode: function 60 -/
def impl_demandsCode.f (k : Nat) (l0 : List (S77)) (l1 : List Int) : Option (Int) := (impl_ValidUnits.f k l0).bind fun t275 => (if t275 = true then (if (l1.length : Int) < 1 then (some 7) else (if (l1.length : Int) > 12 then (some 7) else ((impl_allWithin.f l1 0 400000).bind fun t276 => (if t276 = true then (some 0) else (some 7))))) else (some 1))
theorem impl_demandsCode.mono : ∀ a0 a1 k, LeO (impl_demandsCode.f k a0 a1) (impl_demandsCode.f (k + 1) a0 a1) := by
 intro a0 a1 k
 unfold impl_demandsCode.f
 repeat' first
   | (with_reducible exact impl_ValidUnits.mono _ _)
   | (with_reducible exact LeO.refl _)
   | (with_reducible exact LeO.none _)
   | (with_reducible refine LeO.ite ?_ ?_)
   | (with_reducible refine LeO.bind ?_ (fun _ => ?_))
   | exact impl_ValidUnits.mono _ _
   | exact LeO.none _
   | refine LeO.ite ?_ ?_
   | refine LeO.bind ?_ (fun _ => ?_)
set_option maxHeartbeats 8000000 in
set_option maxRecDepth 100000 in
theorem impl_demandsCode.calls (k : Nat) (A0 : Option Addr) (c0 : Nat) (l0 : List (S77)) (A1 : Option Addr) (c1 : Nat) (l1 : List Int) (r : Int) (w : World) (hr0 : Kd.C k77 w A0 l0.length l0) (hc0 : l0.length ≤ c0) (hr1 : Kd.C (Kd.int .i64) w A1 l1.length l1) (hc1 : l1.length ≤ c1) (h : impl_demandsCode.f k l0 l1 = some r) :
  Calls Try.prog 60 #[.slice A0 l0.length c0, .slice A1 l1.length c1] w fun e w' => e = .returned (.int .i64 r) ∧ Below w.heap.size w w' := by
 have HR0 := Aside0.mk hr0
 have HC0 := Aside0.mk hc0
 clear hr0 hc0
 have HR1 := Aside0.mk hr1
 have HC1 := Aside0.mk hc1
 clear hr1 hc1
 have HB := Aside0.mk (Below.refl w.heap.size w)
 have H : ((impl_ValidUnits.f k l0).bind fun t275 => (if t275 = true then (if (l1.length : Int) < 1 then (some 7) else (if (l1.length : Int) > 12 then (some 7) else ((impl_allWithin.f l1 0 400000).bind fun t276 => (if t276 = true then (some 0) else (some 7))))) else (some 1))) = some r := h
 clear h
 replace H := Option.bind_eq_some_iff.mp H
 obtain ⟨t275, A30, H⟩ := H
 replace H : (if t275 = true then (if (l1.length : Int) < 1 then (some 7) else (if (l1.length : Int) > 12 then (some 7) else ((impl_allWithin.f l1 0 400000).bind fun t276 => (if t276 = true then (some 0) else (some 7))))) else (some 1)) = some r := H
 have A3 := Aside0.mk A30
 clear A30
 by_cases c4 : t275 = true
 ·
  subst c4
  have H1 : (if (l1.length : Int) < 1 then (some 7) else (if (l1.length : Int) > 12 then (some 7) else ((impl_allWithin.f l1 0 400000).bind fun t276 => (if t276 = true then (some 0) else (some 7))))) = some r := by rw [if_pos rfl] at H; exact H
  clear H
  have H := H1
  clear H1
  by_cases c5 : (l1.length : Int) < 1
  ·
   rw [if_pos c5] at H
   have c5b0 : decide ((l1.length : Int) < 1) = true := decide_eq_true c5
   have c5b1 : decide (l1.length < 1) = true := decide_eq_true (by omega)
   clear c5
   obtain rfl := Option.some.inj H
   go_enter Try.func60, Try.ntmps60
   go_wp2_with (first | ((with_reducible refine gate_callee (f := 67) rfl ?_); refine goesL_ (some 7) rfl rfl Try.func67 (by kernel_rfl) rfl #[.slice A0 l0.length c0] rfl mT_ ?_; (with_reducible refine (impl_ValidUnits.calls k _ _ l0 true _ ?side1 ?side2 A3.out).mono ?_); (case side1 => exact cA_ HR0.out); (case side2 => exact HC0.out); rintro e w6 ⟨rfl, hb⟩; refine ⟨_, rfl, ?_⟩; have n0_ := Aside0.mk (below_step bB_ hb); clear HB; have HB := n0_; clear n0_; (try clear hb); (try clear hb2); (try clear hk); (try clear hi)))
   go_ret
   exact ⟨er_, bB_⟩
  ·
   rw [if_neg c5] at H
   have c5b0 : decide ((l1.length : Int) < 1) = false := decide_eq_false c5
   have c5b1 : decide (l1.length < 1) = false := decide_eq_false (by omega)
   clear c5
   by_cases c7 : (l1.length : Int) > 12
   ·
    rw [if_pos c7] at H
    have c7b0 : decide (12 < (l1.length : Int)) = true := decide_eq_true c7
    have c7b1 : decide (12 < l1.length) = true := decide_eq_true (by omega)
    clear c7
    obtain rfl := Option.some.inj H
    go_enter Try.func60, Try.ntmps60
    go_wp2_with (first | ((with_reducible refine gate_callee (f := 67) rfl ?_); refine goesL_ (some 7) rfl rfl Try.func67 (by kernel_rfl) rfl #[.slice A0 l0.length c0] rfl mT_ ?_; (with_reducible refine (impl_ValidUnits.calls k _ _ l0 true _ ?side1 ?side2 A3.out).mono ?_); (case side1 => exact cA_ HR0.out); (case side2 => exact HC0.out); rintro e w8 ⟨rfl, hb⟩; refine ⟨_, rfl, ?_⟩; have n0_ := Aside0.mk (below_step bB_ hb); clear HB; have HB := n0_; clear n0_; (try clear hb); (try clear hb2); (try clear hk); (try clear hi)))
    go_ret
    exact ⟨er_, bB_⟩
   ·
    rw [if_neg c7] at H
    have c7b0 : decide (12 < (l1.length : Int)) = false := decide_eq_false c7
    have c7b1 : decide (12 < l1.length) = false := decide_eq_false (by omega)
    clear c7
    replace H := Option.bind_eq_some_iff.mp H
    obtain ⟨t276, A90, H⟩ := H
    replace H : (if t276 = true then (some 0) else (some 7)) = some r := H
    have A9 := Aside0.mk A90
    clear A90
    by_cases c10 : t276 = true
    ·
     subst c10
     have H1 : (some 0) = some r := by rw [if_pos rfl] at H; exact H
     clear H
     have H := H1
     clear H1
     obtain rfl := Option.some.inj H
     go_enter Try.func60, Try.ntmps60
     go_wp2_with (first | ((with_reducible refine gate_callee (f := 67) rfl ?_); refine goesL_ (some 7) rfl rfl Try.func67 (by kernel_rfl) rfl #[.slice A0 l0.length c0] rfl mT_ ?_; (with_reducible refine (impl_ValidUnits.calls k _ _ l0 true _ ?side1 ?side2 A3.out).mono ?_); (case side1 => exact cA_ HR0.out); (case side2 => exact HC0.out); rintro e w11 ⟨rfl, hb⟩; refine ⟨_, rfl, ?_⟩; have n0_ := Aside0.mk (below_step bB_ hb); clear HB; have HB := n0_; clear n0_; (try clear hb); (try clear hb2); (try clear hk); (try clear hi)) | (go_at_call 113; (with_reducible refine (impl_allWithin.calls _ _ l1 0 400000 true _ ?side1 ?side2 A9.out).mono ?_); (case side1 => exact cA_ (Kd.C_below HR1.out HB.out)); (case side2 => exact HC1.out); rintro e w12 ⟨rfl, hb⟩; have n0_ := Aside0.mk (below_step bB_ hb); clear HB; have HB := n0_; clear n0_; (try clear hb); (try clear hb2); (try clear hk); (try clear hi)))
     go_ret
     exact ⟨er_, bB_⟩
    ·
     replace c10 := Bool.eq_false_iff.mpr c10
     subst c10
     have H1 : (some 7) = some r := by rw [if_neg (show ¬ (false = true) by decide)] at H; exact H
     clear H
     have H := H1
     clear H1
     obtain rfl := Option.some.inj H
     go_enter Try.func60, Try.ntmps60
     go_wp2_with (first | ((with_reducible refine gate_callee (f := 67) rfl ?_); refine goesL_ (some 7) rfl rfl Try.func67 (by kernel_rfl) rfl #[.slice A0 l0.length c0] rfl mT_ ?_; (with_reducible refine (impl_ValidUnits.calls k _ _ l0 true _ ?side1 ?side2 A3.out).mono ?_); (case side1 => exact cA_ HR0.out); (case side2 => exact HC0.out); rintro e w13 ⟨rfl, hb⟩; refine ⟨_, rfl, ?_⟩; have n0_ := Aside0.mk (below_step bB_ hb); clear HB; have HB := n0_; clear n0_; (try clear hb); (try clear hb2); (try clear hk); (try clear hi)) | (go_at_call 113; (with_reducible refine (impl_allWithin.calls _ _ l1 0 400000 false _ ?side1 ?side2 A9.out).mono ?_); (case side1 => exact cA_ (Kd.C_below HR1.out HB.out)); (case side2 => exact HC1.out); rintro e w14 ⟨rfl, hb⟩; have n0_ := Aside0.mk (below_step bB_ hb); clear HB; have HB := n0_; clear n0_; (try clear hb); (try clear hb2); (try clear hk); (try clear hi)))
     go_ret
     exact ⟨er_, bB_⟩
 ·
  replace c4 := Bool.eq_false_iff.mpr c4
  subst c4
  have H1 : (some 1) = some r := by rw [if_neg (show ¬ (false = true) by decide)] at H; exact H
  clear H
  have H := H1
  clear H1
  obtain rfl := Option.some.inj H
  go_enter Try.func60, Try.ntmps60
  go_wp2_with (first | ((with_reducible refine gate_callee (f := 67) rfl ?_); refine goesL_ (some 7) rfl rfl Try.func67 (by kernel_rfl) rfl #[.slice A0 l0.length c0] rfl mT_ ?_; (with_reducible refine (impl_ValidUnits.calls k _ _ l0 false _ ?side1 ?side2 A3.out).mono ?_); (case side1 => exact cA_ HR0.out); (case side2 => exact HC0.out); rintro e w15 ⟨rfl, hb⟩; refine ⟨_, rfl, ?_⟩; have n0_ := Aside0.mk (below_step bB_ hb); clear HB; have HB := n0_; clear n0_; (try clear hb); (try clear hb2); (try clear hk); (try clear hi)))
  go_ret
  exact ⟨er_, bB_⟩

/-! ### impl_sumOf: function 78 -/
def impl_sumOf.l0 : Nat → Int → List Int → Int → Int → Option (Int)
 | 0, _, _, _, _ => none
 | k + 1, x3, x6, x7, x8 => if x8 < x7 then (if 0 ≤ x8 then (if x8 < (x6.length : Int) then (impl_sumOf.l0 k (wrap64 (x3 + (rd x6 x8))) x6 x7 (wrap64 (x8 + 1))) else (none)) else (none)) else (some x3)
def impl_sumOf.f (k : Nat) (l0 : List Int) : Option (Int) := impl_sumOf.l0 k 0 l0 (l0.length : Int) 0
theorem impl_sumOf.mono_l : ∀ k, (∀ y0 y1 y2 y3, LeO (impl_sumOf.l0 k y0 y1 y2 y3) (impl_sumOf.l0 (k + 1) y0 y1 y2 y3))
 | 0 => fun _ _ _ _ r h => by simp [impl_sumOf.l0] at h
 | k + 1 => by
  have ih0 := impl_sumOf.mono_l k
  ·
   intro y0 y1 y2 y3
   unfold impl_sumOf.l0
   repeat' first
   | (with_reducible exact ih0 _ _ _ _)
   | (with_reducible exact LeO.refl _)
   | (with_reducible exact LeO.none _)
   | (with_reducible refine LeO.ite ?_ ?_)
   | (with_reducible refine LeO.bind ?_ (fun _ => ?_))
   | exact ih0 _ _ _ _
   | exact LeO.none _
   | refine LeO.ite ?_ ?_
   | refine LeO.bind ?_ (fun _ => ?_)
theorem impl_sumOf.mono : ∀ a0 k, LeO (impl_sumOf.f k a0) (impl_sumOf.f (k + 1) a0) := by
 intro a0 k
 have ih0 := impl_sumOf.mono_l k
 unfold impl_sumOf.f
 repeat' first
   | (with_reducible exact ih0 _ _ _ _)
   | (with_reducible exact LeO.refl _)
   | (with_reducible exact LeO.none _)
   | (with_reducible refine LeO.ite ?_ ?_)
   | (with_reducible refine LeO.bind ?_ (fun _ => ?_))
   | exact ih0 _ _ _ _
   | exact LeO.none _
   | refine LeO.ite ?_ ?_
   | refine LeO.bind ?_ (fun _ => ?_)
set_option maxHeartbeats 8000000 in
set_option maxRecDepth 100000 in
theorem impl_sumOf.calls (k : Nat) (A0 : Option Addr) (c0 : Nat) (l0 : List Int) (r : Int) (w : World) (hr0 : Kd.C (Kd.int .i64) w A0 l0.length l0) (hc0 : l0.length ≤ c0) (h : impl_sumOf.f k l0 = some r) :
  Calls Try.prog 78 #[.slice A0 l0.length c0] w fun e w' => e = .returned (.int .i64 r) ∧ Drawn0 w w' := by
 have HR0 := Aside0.mk hr0
 have HC0 := Aside0.mk hc0
 clear hr0 hc0
 have H : (impl_sumOf.l0 k 0 l0 (l0.length : Int) 0) = some r := h
 clear h
 have H' := Aside0.mk H
 clear H
 go_enter Try.func78, Try.ntmps78
 go_wp2
 go_loopg [3, 8] k (fun kq v3 v8 w' => ∃ (x3_1 : Int) (x8_1 : Int), v3 = .int .i64 x3_1 ∧ v8 = .int .i64 x8_1 ∧ Aside0 (impl_sumOf.l0 kq x3_1 l0 (l0.length : Int) x8_1 = some r) ∧ Aside0 (kq ≤ k) ∧ Drawn0 w w')
 case atStart => exact ⟨(0), (0), rs_, rs_, H', ⟨Nat.le_refl _⟩, dr_⟩
 case round =>
  clear H'
  obtain ⟨x3_1, x8_1, rfl, rfl, HA, HK1, ⟨m1, rfl⟩⟩ := hrel
  cases gk with
  | zero => exact absurd HA.out (by simp [impl_sumOf.l0])
  | succ k1 =>
   have H := HA.out
   clear HA
   simp only [impl_sumOf.l0] at H
   by_cases c2 : x8_1 < (l0.length : Int)
   ·
    rw [if_pos c2] at H
    have c2b0 : decide (x8_1 < (l0.length : Int)) = true := decide_eq_true c2
    clear c2
    by_cases c3 : 0 ≤ x8_1
    ·
     rw [if_pos c3] at H
     have c3b0 : decide (0 ≤ x8_1) = true := decide_eq_true c3
     clear c3
     by_cases c4 : x8_1 < (l0.length : Int)
     ·
      rw [if_pos c4] at H
      have c4b0 : decide (x8_1 < (l0.length : Int)) = true := decide_eq_true c4
      clear c4
      have H' := Aside0.mk H
      clear H
      have p277 : 0 ≤ (x8_1 : Int) := of_decide_eq_true as_
      have q277 : x8_1 < (l0.length : Int) := of_decide_eq_true as_
      obtain ⟨ad277, e277, hx277_0⟩ := Kd.at_int HR0.out x8_1 p277 q277
      cases e277
      replace p277 := eq_true p277
      replace q277 := eq_true q277
      go_wp2
      go_roundg k1
      case measure => have := HK1.out; omega
      case rel => exact ⟨(wrap64 (x3_1 + (rd l0 x8_1))), (wrap64 (x8_1 + 1)), rs_, rs_, H', ⟨by have := HK1.out; omega⟩, dr_⟩
     ·
      rw [if_neg c4] at H
      exact absurd H (by simp)
    ·
     rw [if_neg c3] at H
     exact absurd H (by simp)
   ·
    rw [if_neg c2] at H
    have c2b0 : decide (x8_1 < (l0.length : Int)) = false := decide_eq_false c2
    clear c2
    obtain rfl := Option.some.inj H
    go_wp2
    go_ret
    exact ⟨rs_, dr_⟩

/-! ### impl_startBound: function 61 -/
def impl_startBound.l0 : Nat → Int → List (S77) → Int → Int → Option (Int)
 | 0, _, _, _, _ => none
 | k + 1, x5, x15, x16, x17 => if x17 < x16 then (if 0 ≤ x17 then (if x17 < (x15.length : Int) then (impl_startBound.l0 k (mn x5 ((rd_T77 x15 x17).f4)) x15 x16 (wrap64 (x17 + 1))) else (none)) else (none)) else (some x5)
def impl_startBound.f (k : Nat) (l0 : List (S77)) (l1 : List Int) : Option (Int) := (impl_sumOf.f k l1).bind fun t278 => (if t278 = 0 then (some 0) else (if 0 < (l0.length : Int) then (impl_startBound.l0 k ((rd_T77 l0 0).f4) l0 (l0.length : Int) 0) else (none)))
theorem impl_startBound.mono_l : ∀ k, (∀ y0 y1 y2 y3, LeO (impl_startBound.l0 k y0 y1 y2 y3) (impl_startBound.l0 (k + 1) y0 y1 y2 y3))
 | 0 => fun _ _ _ _ r h => by simp [impl_startBound.l0] at h
 | k + 1 => by
  have ih0 := impl_startBound.mono_l k
  ·
   intro y0 y1 y2 y3
   unfold impl_startBound.l0
   repeat' first
   | (with_reducible exact ih0 _ _ _ _)
   | (with_reducible exact impl_sumOf.mono _ _)
   | (with_reducible exact LeO.refl _)
   | (with_reducible exact LeO.none _)
   | (with_reducible refine LeO.ite ?_ ?_)
   | (with_reducible refine LeO.bind ?_ (fun _ => ?_))
   | exact ih0 _ _ _ _
   | exact impl_sumOf.mono _ _
   | exact LeO.none _
   | refine LeO.ite ?_ ?_
   | refine LeO.bind ?_ (fun _ => ?_)
theorem impl_startBound.mono : ∀ a0 a1 k, LeO (impl_startBound.f k a0 a1) (impl_startBound.f (k + 1) a0 a1) := by
 intro a0 a1 k
 have ih0 := impl_startBound.mono_l k
 unfold impl_startBound.f
 repeat' first
   | (with_reducible exact ih0 _ _ _ _)
   | (with_reducible exact impl_sumOf.mono _ _)
   | (with_reducible exact LeO.refl _)
   | (with_reducible exact LeO.none _)
   | (with_reducible refine LeO.ite ?_ ?_)
   | (with_reducible refine LeO.bind ?_ (fun _ => ?_))
   | exact ih0 _ _ _ _
   | exact impl_sumOf.mono _ _
   | exact LeO.none _
   | refine LeO.ite ?_ ?_
   | refine LeO.bind ?_ (fun _ => ?_)
set_option maxHeartbeats 8000000 in
set_option maxRecDepth 100000 in
theorem impl_startBound.calls (k : Nat) (A0 : Option Addr) (c0 : Nat) (l0 : List (S77)) (A1 : Option Addr) (c1 : Nat) (l1 : List Int) (r : Int) (w : World) (hr0 : Kd.C k77 w A0 l0.length l0) (hc0 : l0.length ≤ c0) (hr1 : Kd.C (Kd.int .i64) w A1 l1.length l1) (hc1 : l1.length ≤ c1) (h : impl_startBound.f k l0 l1 = some r) :
  Calls Try.prog 61 #[.slice A0 l0.length c0, .slice A1 l1.length c1] w fun e w' => e = .returned (.int .i64 r) ∧ Below w.heap.size w w' := by
 have hu77 := Try.underlying77
 have HR0 := Aside0.mk hr0
 have HC0 := Aside0.mk hc0
 clear hr0 hc0
 have HR1 := Aside0.mk hr1
 have HC1 := Aside0.mk hc1
 clear hr1 hc1
 have HB := Aside0.mk (Below.refl w.heap.size w)
 have H : ((impl_sumOf.f k l1).bind fun t278 => (if t278 = 0 then (some 0) else (if 0 < (l0.length : Int) then (impl_startBound.l0 k ((rd_T77 l0 0).f4) l0 (l0.length : Int) 0) else (none)))) = some r := h
 clear h
 replace H := Option.bind_eq_some_iff.mp H
 obtain ⟨t278, A30, H⟩ := H
 replace H : (if t278 = 0 then (some 0) else (if 0 < (l0.length : Int) then (impl_startBound.l0 k ((rd_T77 l0 0).f4) l0 (l0.length : Int) 0) else (none))) = some r := H
 have A3 := Aside0.mk A30
 clear A30
 by_cases c4 : t278 = 0
 ·
  rw [if_pos c4] at H
  have c4b0 : (t278 == 0) = true := beq_iff_eq.mpr c4
  have c4b1 : (t278 != 0) = false := bne_eq_false_iff_eq.mpr c4
  clear c4
  obtain rfl := Option.some.inj H
  go_enter Try.func61, Try.ntmps61
  go_wp2_with (first | ((with_reducible refine gate_callee (f := 78) rfl ?_); refine goesL_ (some 9) rfl rfl Try.func78 (by kernel_rfl) rfl #[.slice A1 l1.length c1] rfl mT_ ?_; (with_reducible refine (impl_sumOf.calls k _ _ l1 t278 _ ?side1 ?side2 A3.out).mono ?_); (case side1 => exact cA_ HR1.out); (case side2 => exact HC1.out); rintro e w' ⟨rfl, ⟨nd, rfl⟩⟩; refine ⟨_, rfl, ?_⟩))
  go_ret
  exact ⟨er_, bB_⟩
 ·
  rw [if_neg c4] at H
  have c4b0 : (t278 == 0) = false := beq_eq_false_iff_ne.mpr c4
  have c4b1 : (t278 != 0) = true := bne_iff_ne.mpr c4
  by_cases c5 : 0 < (l0.length : Int)
  ·
   rw [if_pos c5] at H
   have c5b0 : decide (0 < (l0.length : Int)) = true := decide_eq_true c5
   have c5b1 : decide (0 < l0.length) = true := decide_eq_true (by omega)
   clear c5
   have H' := Aside0.mk H
   clear H
   have p279 : 0 ≤ (0 : Int) := (by omega)
   have q279 : 0 < (l0.length : Int) := of_decide_eq_true as_
   obtain ⟨ad279, e279, hx279_0, hx279_1, hx279_2, hx279_3, hx279_4, hx279_5, hx279_6⟩ := at_T77 HR0.out 0 p279 q279
   cases e279
   have qi279 : (0 < l0.length) = True := eq_true (by omega)
   (try rw [show ((0 : Int)).toNat = 0 from rfl] at hx279_0)
   (try rw [show 0 * 7 = 0 from rfl] at hx279_0)
   (try rw [Addr.add_zero'] at hx279_0)
   (try rw [show ((0 : Int)).toNat = 0 from rfl] at hx279_1)
   (try rw [show 0 * 7 = 0 from rfl] at hx279_1)
   (try rw [Addr.add_zero'] at hx279_1)
   (try rw [show ((0 : Int)).toNat = 0 from rfl] at hx279_2)
   (try rw [show 0 * 7 = 0 from rfl] at hx279_2)
   (try rw [Addr.add_zero'] at hx279_2)
   (try rw [show ((0 : Int)).toNat = 0 from rfl] at hx279_3)
   (try rw [show 0 * 7 = 0 from rfl] at hx279_3)
   (try rw [Addr.add_zero'] at hx279_3)
   (try rw [show ((0 : Int)).toNat = 0 from rfl] at hx279_4)
   (try rw [show 0 * 7 = 0 from rfl] at hx279_4)
   (try rw [Addr.add_zero'] at hx279_4)
   (try rw [show ((0 : Int)).toNat = 0 from rfl] at hx279_5)
   (try rw [show 0 * 7 = 0 from rfl] at hx279_5)
   (try rw [Addr.add_zero'] at hx279_5)
   (try rw [show ((0 : Int)).toNat = 0 from rfl] at hx279_6)
   (try rw [show 0 * 7 = 0 from rfl] at hx279_6)
   (try rw [Addr.add_zero'] at hx279_6)
   replace p279 := eq_true p279
   replace q279 := eq_true q279
   go_enter Try.func61, Try.ntmps61
   go_wp2_with (first | ((with_reducible refine gate_callee (f := 78) rfl ?_); refine goesL_ (some 9) rfl rfl Try.func78 (by kernel_rfl) rfl #[.slice A1 l1.length c1] rfl mT_ ?_; (with_reducible refine (impl_sumOf.calls k _ _ l1 t278 _ ?side1 ?side2 A3.out).mono ?_); (case side1 => exact cA_ HR1.out); (case side2 => exact HC1.out); rintro e w' ⟨rfl, ⟨nd, rfl⟩⟩; refine ⟨_, rfl, ?_⟩))
   go_loopg [5, 17] k (fun kq v5 v17 w' => ∃ (x5_1 : Int) (x17_1 : Int), v5 = .int .i64 x5_1 ∧ v17 = .int .i64 x17_1 ∧ Aside0 (impl_startBound.l0 kq x5_1 l0 (l0.length : Int) x17_1 = some r) ∧ Aside0 (kq ≤ k) ∧ Aside0 (Below w.heap.size w w'))
   case atStart => exact ⟨((rd_T77 l0 0).f4), (0), rs_, rs_, H', ⟨Nat.le_refl _⟩, ⟨bB_⟩⟩
   case round =>
    clear H'
    try clear c1
    try clear p2
    try clear q2
    try clear hx2
    try clear qi2
    try clear c4
    try clear c4b0
    try clear c4b1
    try clear c5
    try clear c5b0
    try clear c5b1
    try clear hx279_0
    try clear hx279_1
    try clear hx279_2
    try clear hx279_3
    try clear hx279_4
    try clear hx279_5
    try clear hx279_6
    try clear p279
    try clear q279
    obtain ⟨x5_1, x17_1, rfl, rfl, HA, HK1, HB⟩ := hrel
    cases gk with
    | zero => exact absurd HA.out (by simp [impl_startBound.l0])
    | succ k1 =>
     have H := HA.out
     clear HA
     simp only [impl_startBound.l0] at H
     by_cases c6 : x17_1 < (l0.length : Int)
     ·
      rw [if_pos c6] at H
      have c6b0 : decide (x17_1 < (l0.length : Int)) = true := decide_eq_true c6
      clear c6
      by_cases c7 : 0 ≤ x17_1
      ·
       rw [if_pos c7] at H
       have c7b0 : decide (0 ≤ x17_1) = true := decide_eq_true c7
       clear c7
       by_cases c8 : x17_1 < (l0.length : Int)
       ·
        rw [if_pos c8] at H
        have c8b0 : decide (x17_1 < (l0.length : Int)) = true := decide_eq_true c8
        clear c8
        obtain ⟨ji9, hji9⟩ : ∃ j_ : Int, (mn x5_1 ((rd_T77 l0 x17_1).f4)) = j_ := ⟨_, rfl⟩
        replace H : (impl_startBound.l0 k1 ji9 l0 (l0.length : Int) (wrap64 (x17_1 + 1))) = some r := by first | (rw [hji9] at H; exact H) | (simp only [hji9] at H ⊢; exact H)
        have hji9_ : (if ((rd_T77 l0 x17_1).f4) < x5_1 then ((rd_T77 l0 x17_1).f4) else x5_1) = ji9 := hji9
        have H' := Aside0.mk H
        clear H
        have p280 : 0 ≤ (x17_1 : Int) := of_decide_eq_true as_
        have q280 : x17_1 < (l0.length : Int) := of_decide_eq_true as_
        obtain ⟨ad280, e280, hx280_0, hx280_1, hx280_2, hx280_3, hx280_4, hx280_5, hx280_6⟩ := at_T77 HR0.out x17_1 p280 q280
        obtain rfl : ad279 = ad280 := (by injection e280)
        replace hx280_0 := cl_ HB hx280_0
        replace hx280_1 := cl_ HB hx280_1
        replace hx280_2 := cl_ HB hx280_2
        replace hx280_3 := cl_ HB hx280_3
        replace hx280_4 := cl_ HB hx280_4
        replace hx280_5 := cl_ HB hx280_5
        replace hx280_6 := cl_ HB hx280_6
        replace p280 := eq_true p280
        replace q280 := eq_true q280
        go_wp2_with (first | ((with_reducible refine gate_dst (N := 7) rfl ?_); refine box_event ?hg (N := 7) ?hd (cs := #[.string (⟨#[]⟩ : ByteArray), .int .i64 0, .int .i64 0, .int .i64 0, .int .i64 0, .int .i64 0, .int .i64 0]) (t := 77) ?hr ?_; (case hd => rfl); (case hg => rfl); (case hr => first | (go_simp; done) | (go_simp; rfl)); intro gb281 hg w10 hbox hb; have n0_ := Aside0.mk (below_step bB_ hb); have n1_ := Aside0.mk (hbox); have n2_ := Aside0.mk ((by rw [hg]; exact (below_size bB_) : w.heap.size ≤ gb281)); have n3_ := Aside0.mk ((by rw [hg]; exact (below_size bB_) : w.heap.size ≤ gb281)); clear HB; have HB := n0_; have BK281 := n1_; have GW281 := n2_; have GE281 := n3_; clear n0_ n1_ n2_ n3_; clear hb hbox hg; have hcz11_0 : w10.cell? ⟨gb281, 0, none⟩ = some (.string (⟨#[]⟩ : ByteArray)) := (blk_cell BK281.out 0).trans rfl; have hcz11_1 : w10.cell? ⟨gb281, 1, none⟩ = some (.int .i64 0) := (blk_cell BK281.out 1).trans rfl; have hcz11_2 : w10.cell? ⟨gb281, 2, none⟩ = some (.int .i64 0) := (blk_cell BK281.out 2).trans rfl; have hcz11_3 : w10.cell? ⟨gb281, 3, none⟩ = some (.int .i64 0) := (blk_cell BK281.out 3).trans rfl; have hcz11_4 : w10.cell? ⟨gb281, 4, none⟩ = some (.int .i64 0) := (blk_cell BK281.out 4).trans rfl; have hcz11_5 : w10.cell? ⟨gb281, 5, none⟩ = some (.int .i64 0) := (blk_cell BK281.out 5).trans rfl; have hcz11_6 : w10.cell? ⟨gb281, 6, none⟩ = some (.int .i64 0) := (blk_cell BK281.out 6).trans rfl; have hfz11_0 := blk_frozen BK281.out 0; have hfz11_1 := blk_frozen BK281.out 1; have hfz11_2 := blk_frozen BK281.out 2; have hfz11_3 := blk_frozen BK281.out 3; have hfz11_4 := blk_frozen BK281.out 4; have hfz11_5 := blk_frozen BK281.out 5; have hfz11_6 := blk_frozen BK281.out 6))
        go_roundg k1
        case measure => have := HK1.out; omega
        case rel => exact ⟨(ji9), (wrap64 (x17_1 + 1)), (by first | rfl | (simp; done) | (simp only [← hji9] <;> (first | rfl | simp)) | (simp [*]; done)), rs_, H', ⟨by have := HK1.out; omega⟩, ⟨bC_ GE281.out⟩⟩
       ·
        rw [if_neg c8] at H
        exact absurd H (by simp)
      ·
       rw [if_neg c7] at H
       exact absurd H (by simp)
     ·
      rw [if_neg c6] at H
      have c6b0 : decide (x17_1 < (l0.length : Int)) = false := decide_eq_false c6
      clear c6
      obtain rfl := Option.some.inj H
      go_wp2
      go_ret
      exact ⟨er_, bB_⟩
  ·
   rw [if_neg c5] at H
   exact absurd H (by simp)

/-! ### impl_meritOrder: function 114 -/
def insRevG {α : Type} (lt : α → α → Bool) (x : α) : List α → List α
 | [] => [x]
 | y :: t => if lt x y then y :: insRevG lt x t else x :: y :: t
theorem insInner_list {α : Type} [Inhabited α] (lt : α → α → Bool) : ∀ (n : Nat) (A : List α) (x : α) (B : List α) (d : Array α), A.length = n → d.toList = A ++ x :: B → (Go.Sort.insInner lt 0 A.length d).toList = (insRevG lt x A.reverse).reverse ++ B := by
 intro n
 induction n with
 | zero =>
  intro A x B d hA hd
  obtain rfl := List.eq_nil_of_length_eq_zero hA
  rw [List.length_nil, Go.Sort.insInner, hd]
  rfl
 | succ n ih =>
  intro A x B d hA hd
  rcases List.eq_nil_or_concat A with rfl | ⟨A', y, rfl⟩
  ·
   simp at hA
  rw [List.concat_eq_append] at hA hd ⊢
  ·
   have hl : A'.length = n := by simpa using hA
   have hd2 : d = (A' ++ y :: x :: B).toArray := by
    apply Array.ext'
    rw [hd]
    simp
   subst hd2
   have e1 : (A' ++ y :: x :: B).toArray[A'.length + 1]! = x := by
    rw [getElem!_pos _ _ (by simp)]
    simp
   have e2 : (A' ++ y :: x :: B).toArray[A'.length]! = y := by
    rw [getElem!_pos _ _ (by simp)]
    simp
   rw [List.length_append, List.length_singleton, Go.Sort.insInner, e1, e2, List.reverse_append, List.reverse_singleton]
   show _ = (insRevG lt x (y :: A'.reverse)).reverse ++ B
   rw [insRevG]
   cases hlt : lt x y with
   | true =>
    have hs : (Go.Sort.swp (A' ++ y :: x :: B).toArray (A'.length + 1) A'.length).toList = A' ++ x :: y :: B := by
     unfold Go.Sort.swp
     rw [e1, e2]
     simp
    rw [if_pos (by simp), if_pos rfl, ih A' x (y :: B) _ hl hs]
    simp
   | false =>
    rw [if_neg (by simp), if_neg (by decide)]
    simp
theorem insOuter_list {α : Type} [Inhabited α] (lt : α → α → Bool) : ∀ (R Q : List α) (d : Array α), d.toList = Q ++ R → (Go.Sort.insOuter lt 0 (Q.length + R.length) Q.length d).toList = (R.foldl (fun acc x => insRevG lt x acc) Q.reverse).reverse := by
 intro R
 induction R with
 | nil =>
  intro Q d hd
  rw [List.length_nil, Go.Sort.insOuter, if_neg (by omega), hd]
  simp
 | cons x R ih =>
  intro Q d hd
  rw [Go.Sort.insOuter, if_pos (by simp)]
  have h1 := insInner_list lt Q.length Q x R d rfl hd
  have hlen : ((insRevG lt x Q.reverse).reverse).length = Q.length + 1 := by
   have : ∀ l : List α, (insRevG lt x l).length = l.length + 1 := by
    intro l
    induction l with
    | nil => rfl
    | cons y t iht =>
     rw [insRevG]
     split
     ·
      rw [List.length_cons, iht, List.length_cons]
     ·
      rfl
   rw [List.length_reverse, this, List.length_reverse]
  have h2 := ih (insRevG lt x Q.reverse).reverse _ h1
  rw [hlen, List.reverse_reverse] at h2
  rw [List.length_cons, List.foldl_cons, ← h2]
  congr 2
  omega
theorem insertion_list {α : Type} [Inhabited α] (lt : α → α → Bool) (d : Array α) : (Go.Sort.insertionSort lt d 0 d.size).toList = (d.toList.foldl (fun acc x => insRevG lt x acc) []).reverse := by
 unfold Go.Sort.insertionSort
 cases hd : d.toList with
 | nil =>
  have : d.size = 0 := by rw [← Array.length_toList, hd]; rfl
  rw [Go.Sort.insOuter, if_neg (by omega), hd]
  rfl
 | cons x R =>
  have h := insOuter_list lt R [x] d hd
  have hs : d.size = 1 + R.length := by rw [← Array.length_toList, hd, List.length_cons]; omega
  rw [hs]
  exact h
def cmpI (a b : Int) : Int := if a < b then -1 else if b < a then 1 else 0
def insRev (p : Nat → Int) (x : Nat) : List Nat → List Nat
 | [] => [x]
 | y :: t => if p x < p y then y :: insRev p x t else x :: y :: t
def meritN (p : Nat → Int) (n : Nat) : List Nat := ((List.range n).foldl (fun acc i => insRev p i acc) []).reverse
theorem merit_sort (p : Nat → Int) (n : Nat) [Inhabited (Fin n)] : (Go.Sort.insertionSort (ltOf (fun x y : Fin n => cmpI (p x.val) (p y.val))) (List.finRange n).toArray 0 n).toList.map Fin.val = meritN p n := by
 have h := insertion_list (ltOf (fun x y : Fin n => cmpI (p x.val) (p y.val))) (List.finRange n).toArray
 rw [show (List.finRange n).toArray.size = n by simp] at h
 rw [h, List.map_reverse]
 unfold meritN
 congr 1
 have hr : List.range n = (List.finRange n).map Fin.val := by
  refine List.ext_getElem (by simp) fun i h1 h2 => ?_
  simp
 rw [hr]
 have hi : ∀ (x : Fin n) (l : List (Fin n)), (insRevG (ltOf (fun x y : Fin n => cmpI (p x.val) (p y.val))) x l).map Fin.val = insRev p x.val (l.map Fin.val) := by
  intro x l
  induction l with
  | nil => rfl
  | cons y t ih =>
   rw [insRevG, List.map_cons, insRev]
   have e : (ltOf (fun x y : Fin n => cmpI (p x.val) (p y.val)) x y = true) ↔ p x.val < p y.val := by
    unfold ltOf cmpI
    rw [decide_eq_true_eq]
    show (if p x.val < p y.val then (-1 : Int) else if p y.val < p x.val then 1 else 0) < 0 ↔ _
    split
    ·
     simp [*]
    ·
     split <;> simp [*]
   by_cases hlt : p x.val < p y.val
   ·
    rw [if_pos (e.2 hlt), if_pos hlt, List.map_cons, ih]
   ·
    rw [if_neg (fun h => hlt (e.1 h)), if_neg hlt]
    rfl
 have key : ∀ (R Q : List (Fin n)), (R.foldl (fun acc x => insRevG (ltOf (fun x y : Fin n => cmpI (p x.val) (p y.val))) x acc) Q).map Fin.val = (R.map Fin.val).foldl (fun acc i => insRev p i acc) (Q.map Fin.val) := by
  intro R
  induction R with
  | nil => intro Q; rfl
  | cons x R ih =>
   intro Q
   rw [List.foldl_cons, ih, hi, List.map_cons, List.foldl_cons]
 exact key _ []

theorem isnan_i64 (a : Int) (w : World) : Calls Try.prog 124 #[.int .i64 a] w fun e w' => e = .returned (.bool false) ∧ Drawn0 w w' := by
 go_enter Try.func124, Try.ntmps124
 go_wp2
 go_ret
 exact ⟨by first | rfl | simp, dr_⟩
theorem cmp_i64 (a b : Int) (w : World) : Calls Try.prog 87 #[.int .i64 a, .int .i64 b] w fun e w' => e = .returned (.int .i64 (cmpI a b)) ∧ Drawn0 w w' := by
 by_cases h1 : a < b
 ·
  have h1b : decide (a < b) = true := decide_eq_true h1
  have e : cmpI a b = -1 := by unfold cmpI; rw [if_pos h1]
  rw [e]
  clear e
  go_enter Try.func87, Try.ntmps87
  go_wp2_with (go_at_call 124; refine (isnan_i64 _ _).mono ?_; rintro e w' ⟨rfl, ⟨nd, rfl⟩⟩)
  go_ret
  exact ⟨by first | rfl | simp, dr_⟩
 ·
  have h1b : decide (a < b) = false := decide_eq_false h1
  by_cases h2 : b < a
  ·
   have h2b : decide (b < a) = true := decide_eq_true h2
   have h2c : decide (a > b) = true := decide_eq_true h2
   have e : cmpI a b = 1 := by unfold cmpI; rw [if_neg h1, if_pos h2]
   rw [e]
   clear e
   go_enter Try.func87, Try.ntmps87
   go_wp2_with (go_at_call 124; refine (isnan_i64 _ _).mono ?_; rintro e w' ⟨rfl, ⟨nd, rfl⟩⟩)
   go_ret
   exact ⟨by first | rfl | simp, dr_⟩
  ·
   have h2b : decide (b < a) = false := decide_eq_false h2
   have h2c : decide (a > b) = false := decide_eq_false h2
   have e : cmpI a b = 0 := by unfold cmpI; rw [if_neg h1, if_neg h2]
   rw [e]
   clear e
   go_enter Try.func87, Try.ntmps87
   go_wp2_with (go_at_call 124; refine (isnan_i64 _ _).mono ?_; rintro e w' ⟨rfl, ⟨nd, rfl⟩⟩)
   go_ret
   exact ⟨by first | rfl | simp, dr_⟩

theorem below_grown {w0 W : World} (h : Below w0.heap.size w0 W) (os : Array Obj) : Below w0.heap.size w0 (Go.Sort.grow W os) :=
 ⟨h.os, h.tape, h.output, Nat.le_trans h.size (by show W.heap.size ≤ (W.heap ++ os).size; rw [Array.size_append]; omega), fun k hk => by
  have h2 : k < W.heap.size := Nat.lt_of_lt_of_le hk h.size
  show (W.heap ++ os)[k]? = _
  rw [Array.getElem?_append_left h2]
  exact h.block k hk⟩
set_option maxHeartbeats 4000000 in
theorem stable_small {α : Type} [Inhabited α] (enc : α → Value) (hO : OneCell enc) (cf : α → α → Int) (g : Nat) (cb : Array Value) (blk off cap : Nat) (d : Array α) (W : World) (eg : ∀ args w, (callFunc g args).run Try.prog w = .ok (.enter g args) w) (hcmp : CmpReads Try.prog g cb enc cf blk off d.size W) (hH : Go.Sort.Holds enc W blk off d) (hsz : d.size < 20) :
  Calls Try.prog 143 #[.slice (some ⟨blk, off, none⟩) d.size cap, .func (.func g) #[] cb] W fun e w' => e = .returned (.tuple #[]) ∧ ∃ n, w' = (Go.Sort.putRow enc W blk off (Go.Sort.insertionSort (ltOf cf) d 0 d.size)).drewN n := by
 have hins := Try.insertionSortCmpFunc_one enc hO cf g cb blk off cap 0 d.size d W eg hcmp hH (Nat.zero_le _) (Nat.le_refl _) (by omega)
 generalize Go.Sort.putRow enc W blk off (Go.Sort.insertionSort (ltOf cf) d 0 d.size) = V at hins ⊢
 generalize d.size = n at *
 have HI := Aside0.mk hins
 have hz : ¬ (20 : Int) ≤ (n : Int) := by omega
 have hz2 : ¬ (20 : Int) < (n : Int) := by omega
 have hz2b : decide ((20 : Int) < (n : Int)) = false := decide_eq_false hz2
 have hz2c : decide (20 < n) = false := decide_eq_false (by omega)
 have hz2d : (20 < n) = False := eq_false (by omega)
 clear hins hcmp hH
 have hst : Calls Try.prog 171 #[.slice (some ⟨blk, off, none⟩) n cap, .int .i64 n, .func (.func g) #[] cb] W fun e w' => e = .returned (.tuple #[]) ∧ ∃ m, w' = V.drewN m := by
  go_enter Try.func171, Try.ntmps171
  go_wp2
  go_loopg [7, 8] 0 (fun gg s7 s8 wr => s7 = .int .i64 0 ∧ s8 = .int .i64 20 ∧ wr = W)
  case atStart => exact ⟨rfl, rfl, rfl⟩
  case round =>
   obtain ⟨rfl, rfl, rfl⟩ := hrel
   go_wp2_with (go_at_call 183; refine HI.out.mono ?_; rintro e w' ⟨rfl, m, rfl⟩)
   go_loopg [6, 7, 8, 9] 0 (fun gg s6 s7 s8 s9 wr => s6 = .int .i64 20 ∧ ∃ m, wr = V.drewN m)
   case atStart => exact ⟨rfl, _, rfl⟩
   case round =>
    obtain ⟨rfl, m2, rfl⟩ := hrel
    go_wp2
    go_end0
    exact ⟨rfl, _, rfl⟩
 have HS := Aside0.mk hst
 clear hst
 go_enter Try.func143, Try.ntmps143
 go_wp2_with (go_at_call 171; refine HS.out.mono ?_; rintro e w' ⟨rfl, m, rfl⟩)
 go_end0
 exact ⟨rfl, _, rfl⟩
theorem Kd_Stable_i64 (g : Nat) (cb : Array Value) (eg : ∀ args w, (callFunc g args).run Try.prog w = .ok (.enter g args) w) (p : Nat → Int) (n : Nat) (hn : 0 < n) (h16 : n ≤ 16) (w1 W : World) (v : Value) (hB : Below w1.heap.size w1 W) (hR : Kd.R (Kd.int .i64) 2 W w1.heap.size (fun _ => True) v ((List.range n).map fun i : Nat => (i : Int)))
  (hc : ∀ (x y : Nat), x < n → y < n → ∀ W', Below w1.heap.size w1 W' → Calls Try.prog g (#[.int .i64 x, .int .i64 y] ++ cb) W' fun e w' => e = .returned (.int .i64 (cmpI (p x) (p y))) ∧ ∃ q, w' = W'.drewN q) :
  Calls Try.prog 143 #[v, .func (.func g) #[] cb] W fun e w' => e = .returned (.tuple #[]) ∧ Kd.R (Kd.int .i64) 2 w' w1.heap.size (fun _ => True) v ((meritN p n).map fun i : Nat => (i : Int)) ∧ Below w1.heap.size w1 w' := by
 haveI : Inhabited (Fin n) := ⟨⟨0, hn⟩⟩
 obtain ⟨A1, c1, rfl⟩ := Kd.R_slice hR
 have hlen : ((List.range n).map fun i : Nat => (i : Int)).length = n := by simp
 rw [hlen] at hR
 have hown := Kd.own_of_R hR
 have henc : ∀ l : List (Fin n), encs (fun x : Int => Value.int .i64 x) ((l.map Fin.val).map fun i : Nat => (i : Int)) = l.map (fun i : Fin n => Value.int .i64 (i.val : Int)) := by
  intro l
  unfold encs
  rw [List.map_map, List.map_map]
  rfl
 have hr : List.range n = (List.finRange n).map Fin.val := by
  refine List.ext_getElem (by simp) fun i h1 h2 => ?_
  simp
 rw [hlen, hr, henc] at hown
 have hne : (Value.slice A1 n c1) ≠ .slice none 0 0 := by
  intro e
  injection e with _ e2 _
  omega
 obtain ⟨gb, cap, hv, hbg, hgl, hncap, hcm, hlz, hH⟩ := Lib.holds_of_ownsRow hown hne
 injection hv with hv1 _ hv3
 subst hv1
 subst hv3
 have hds : (List.finRange n).toArray.size = n := by simp
 have hcr : CmpReads Try.prog g cb (fun i : Fin n => Value.int .i64 (i.val : Int)) (fun x y => cmpI (p x.val) (p y.val)) gb 0 (List.finRange n).toArray.size W := by
  intro m os dk _ x y
  have hb2 : Below w1.heap.size w1 (sortWorld (fun i : Fin n => Value.int .i64 (i.val : Int)) W gb 0 m dk os) := below_grown (Lib.below_putRow hB hbg) os
  exact hc x.val y.val x.isLt y.isLt _ hb2
 have hs := stable_small (fun i : Fin n => Value.int .i64 (i.val : Int)) (fun _ => rfl) (fun x y => cmpI (p x.val) (p y.val)) g cb gb 0 c1 (List.finRange n).toArray W eg hcr hH (by omega)
 rw [hds] at hs
 have hlen0 : ((List.range n).map fun i : Nat => (i : Int)).length = n := by simp
 rw [hlen0]
 refine hs.mono ?_
 rintro e w' ⟨rfl, q, rfl⟩
 have hm := merit_sort p n
 have hsl : (Go.Sort.insertionSort (ltOf (fun x y : Fin n => cmpI (p x.val) (p y.val))) (List.finRange n).toArray 0 n).toList.length = n := by
  have h2 := congrArg List.length hm
  rw [List.length_map] at h2
  rw [h2]
  unfold meritN
  have hl : ∀ (R Q : List Nat), (R.foldl (fun acc i => insRev p i acc) Q).length = R.length + Q.length := by
   have h1 : ∀ (x : Nat) (l : List Nat), (insRev p x l).length = l.length + 1 := by
    intro x l
    induction l with
    | nil => rfl
    | cons y t ih =>
     rw [insRev]
     split
     ·
      rw [List.length_cons, ih, List.length_cons]
     ·
      rfl
   intro R
   induction R with
   | nil => intro Q; simp
   | cons x R ih => intro Q; rw [List.foldl_cons, ih, h1, List.length_cons]; omega
  rw [List.length_reverse, hl]
  simp
 have hc2 := Lib.ownsRow_putRow (q := 0) (k := n) (ys := (Go.Sort.insertionSort (ltOf (fun x y : Fin n => cmpI (p x.val) (p y.val))) (List.finRange n).toArray 0 n).toList) hown hsl (Nat.le_refl _)
 have hb3 : Below w1.heap.size w1 (Go.Sort.putRow (fun i : Fin n => Value.int .i64 (i.val : Int)) (Go.Sort.ahead W 0) gb 0 (Go.Sort.insertionSort (ltOf (fun x y : Fin n => cmpI (p x.val) (p y.val))) (List.finRange n).toArray 0 n)) := Lib.below_putRow hB hbg
 rw [List.take_of_length_le (by omega), Array.toArray_toList] at hc2
 refine ⟨rfl, Kd.R_drewN ?_ _, pw_below_drewN hb3 _⟩
 rw [← hm]
 refine Kd.R_of_own ?_ (fun _ _ => trivial)
 rw [henc, List.length_map, List.length_map, hsl]
 exact hc2

def meritI (l0 : List S77) : List Nat := meritN (fun i => (rd_T77 l0 (i : Int)).f3) l0.length
def impl_meritOrder.f (l0 : List S77) : Option (List Int) := if 0 < l0.length ∧ l0.length ≤ 16 then some ((meritI l0).map fun i : Nat => (i : Int)) else none
theorem merit_cmp (w1 : World) (B : Nat) (A0 : Option Addr) (c0 : Nat) (l0 : List S77) (hBl : B < w1.heap.size) (hb : w1.cell? ⟨B, 0, none⟩ = some (.slice A0 l0.length c0)) (hr : Kd.C k77 w1 A0 l0.length l0) (x y : Nat) (hx : x < l0.length) (hy : y < l0.length) (W : World) (hW : Below w1.heap.size w1 W) :
  Calls Try.prog 144 #[.int .i64 x, .int .i64 y, .pointer (some ⟨B, 0, none⟩)] W fun e w' => e = .returned (.int .i64 (cmpI (rd_T77 l0 (x : Int)).f3 (rd_T77 l0 (y : Int)).f3)) ∧ ∃ q, w' = W.drewN q := by
 have hb' : W.cell? ⟨B, 0, none⟩ = some (.slice A0 l0.length c0) := (hW.cell (p := ⟨B, 0, none⟩) hBl).trans hb
 have hr' := Kd.C_below hr hW
 have hxz : (x : Int) < (l0.length : Int) := by omega
 have hyz : (y : Int) < (l0.length : Int) := by omega
 obtain ⟨ad, rfl, x0, x1, x2, x3, x4, x5, x6⟩ := at_T77 hr' (x : Int) (by omega) hxz
 obtain ⟨ad2, e2, y0, y1, y2, y3, y4, y5, y6⟩ := at_T77 hr' (y : Int) (by omega) hyz
 obtain rfl : ad = ad2 := by injection e2
 rw [Int.toNat_natCast] at x3 y3
 clear x0 x1 x2 x4 x5 x6 y0 y1 y2 y4 y5 y6 hr hr' hb
 generalize (rd_T77 l0 (x : Int)).f3 = px at *
 generalize (rd_T77 l0 (y : Int)).f3 = py at *
 go_enter Try.func144, Try.ntmps144
 go_wp2_with (first | (go_at_call 87; refine (cmp_i64 _ _ _).mono ?_; rintro e w' ⟨rfl, ⟨nd, rfl⟩⟩; (try first | exact ⟨rfl, _, World.drewN_drewN _ _ _⟩ | exact ⟨rfl, _, Eq.trans (World.drewN_drewN _ _ _) (congrArg (World.drewN _) (Nat.add_assoc _ _ _))⟩)))
 repeat (go_quiet (first | (go_at_call 87; refine (cmp_i64 _ _ _).mono ?_; rintro e w' ⟨rfl, ⟨nd, rfl⟩⟩; (try first | exact ⟨rfl, _, World.drewN_drewN _ _ _⟩ | exact ⟨rfl, _, Eq.trans (World.drewN_drewN _ _ _) (congrArg (World.drewN _) (Nat.add_assoc _ _ _))⟩))); try go_wp2_with (first | (go_at_call 87; refine (cmp_i64 _ _ _).mono ?_; rintro e w' ⟨rfl, ⟨nd, rfl⟩⟩; (try first | exact ⟨rfl, _, World.drewN_drewN _ _ _⟩ | exact ⟨rfl, _, Eq.trans (World.drewN_drewN _ _ _) (congrArg (World.drewN _) (Nat.add_assoc _ _ _))⟩))))
 go_ret
 refine ⟨rfl, ?_⟩
 first | exact ⟨_, rfl⟩ | exact ⟨_, World.drewN_drewN _ _ _⟩ | (have h : Drawn0 W _ := (dr_); exact h)
def fillL (n i : Nat) : List Int := ((List.range i).map fun j : Nat => (j : Int)) ++ List.replicate (n - i) 0
theorem fillL_len (n i : Nat) (h : i ≤ n) : (fillL n i).length = n := by simp [fillL]; omega
theorem fillL_set (n i : Nat) (h : i < n) : (fillL n i).set i (i : Int) = fillL n (i + 1) := by
 unfold fillL
 obtain ⟨m, hm⟩ : ∃ m, n - i = m + 1 := ⟨n - i - 1, by omega⟩
 rw [hm, show n - (i + 1) = m by omega, List.replicate_succ, List.set_append_right _ _ (by simp), List.range_succ]
 simp
set_option maxHeartbeats 8000000 in
set_option maxRecDepth 100000 in
theorem impl_meritOrder.calls (A0 : Option Addr) (c0 : Nat) (l0 : List S77) (r : List Int) (w : World) (hr0 : Kd.C k77 w A0 l0.length l0) (hc0 : l0.length ≤ c0) (h : impl_meritOrder.f l0 = some r) :
  Calls Try.prog 114 #[.slice A0 l0.length c0] w fun e w' => ∃ v0_ : Value, e = .returned (v0_) ∧ Kd.R (Kd.int .i64) 2 w' w.heap.size (fun _ => True) v0_ r ∧ Below w.heap.size w w' := by
 unfold impl_meritOrder.f at h
 split at h
 ·
  rename_i hl
  have HV := Aside0.mk (Option.some.inj h)
  have HR0 := Aside0.mk hr0
  clear h hc0 hr0
  obtain ⟨n, hn⟩ : ∃ n, n = l0.length := ⟨_, rfl⟩
  have hn0 : 0 ≤ (n : Int) := by omega
  have hn1 : 0 < n := by omega
  have hn2 : n ≤ 16 := by omega
  clear hl
  rw [← hn]
  have HN := Aside0.mk hn
  clear hn
  have HZ : Aside0 (List.replicate (n : Int).toNat (0 : Int) = fillL n 0) := ⟨by simp [fillL]⟩
  go_enter Try.func114, Try.ntmps114
  go_wp2_with (first | ((with_reducible refine gate_dst (N := 1) rfl ?_); refine box_event ?hg (N := 1) ?hd (cs := #[.slice A0 n c0]) (t := 27) ?hr ?_; (case hd => rfl); (case hg => rfl); (case hr => first | (go_simp; done) | (go_simp; rfl)); intro B hg w1 hbox hb; have BX := Aside0.mk hbox; have BG := Aside0.mk hg; have B1 := Aside0.mk hb; have hcz := (blk_cell hbox 0).trans (show (#[Value.slice A0 n c0] : Array Value)[0]? = some (.slice A0 n c0) from rfl); clear hbox hg hb) | ((with_reducible refine gate_dst (N := 7) rfl ?_); refine Kd.R_make (Kd.int .i64) _ 2 rfl (N := 7) rfl 23 _ _ rfl (n : Int) rfl rfl Try.underlying23 (.int .i64 0) 8 info2 rfl (by decide) (by omega) 0 (ok := fun _ => True) (okp := fun _ => True) rfl (fun _ hk => hk) trivial (by omega) (by omega) (Below.refl _ _) (Nat.le_refl _) ?_; intro v4 w4 ho5 hb hg_ hnew_; clear hg_ hnew_; rw [HZ.out] at ho5; obtain ⟨go, co, eo, g1_, g2_, g3_, g4_⟩ := Kd.R_form ho5 (by rw [fillL_len _ _ (Nat.zero_le _)]; omega); rw [fillL_len n 0 (Nat.zero_le _)] at eo; subst eo; have HO0 := Aside0.mk ho5; have HB := Aside0.mk hb; clear hb ho5 g1_ g2_ g3_ g4_))
  go_loopg [4, 10] n (fun gg s4 s10 wr => ∃ i : Nat, i ≤ n ∧ n - i ≤ gg ∧ s10 = .int .i64 i ∧ Aside0 (Kd.R (Kd.int .i64) 2 wr w1.heap.size (fun _ => True) (.slice (some ⟨go, 0, none⟩) n co) (fillL n i)) ∧ Aside0 (Below w1.heap.size w1 wr))
  case atStart => exact ⟨0, by omega, by omega, rfl, HO0, HB⟩
  case round =>
   clear HO0 HB
   obtain ⟨i, hi, hg, rfl, HN1, BW⟩ := hrel
   by_cases hlt : i < n
   ·
    have hltz : (i : Int) < (n : Int) := by omega
    have hfl := fillL_len n i hi
    obtain ⟨go9, co9, eo9, gb9, gl9, cl9, HG9⟩ := Kd.R_form HN1.out (by omega)
    have eg9 : go = go9 := by injection eo9 with ea _ _; injection ea with ea; injection ea
    subst eg9
    obtain ⟨hx9_0, hf9_0⟩ := Kd.R_celln 0 HN1.out (i : Int) (by omega) (by omega)
    have HP10 := Kd.R_putg HN1.out (i : Int) (i : Int)
    simp only [Int.toNat_natCast] at hx9_0 hf9_0 HP10
    have GB9 := Aside0.mk gb9
    have HS := Aside0.mk (fillL_set n i hlt)
    clear gb9 gl9 cl9 HG9 eo9 hfl
    have hi0 : 0 ≤ (i : Int) := by omega
    go_wp2_with (first | ((with_reducible refine gate_store (t := 2) (p := 16) rfl ?_); refine store_event (t := 2) (p := 16) (v := ?vo_w11) (w1 := (wr.setCell ⟨go, i, none⟩ (.int .i64 (i : Int)))) ?hg ?ho ?hn ?hr ?_; (case ho => rfl); (case hg => rfl); (case hn => rfl); (case hr => first | (go_simp; done) | (go_simp; rfl)); intro w11 hw; have hp_ : Kd.R (Kd.int .i64) 2 w11 w1.heap.size (fun _ => True) (.slice (some ⟨go, 0, none⟩) n co) (fillL n (i + 1)) := (by rw [hw, ← HS.out]; exact HP10.1); have HN2 := Aside0.mk hp_; have BW2 := Aside0.mk ((by rw [hw]; exact below_set (BW.out) GB9.out : Below w1.heap.size w1 w11)); clear HP10 hp_ hw HN1 BW))
    go_roundg (n - (i + 1))
    case measure => omega
    case rel => exact ⟨i + 1, by omega, by omega, by go_num, HN2, BW2⟩
   ·
    have hi4 : i = n := by omega
    subst hi4
    have hfe : fillL i i = (List.range i).map fun j : Nat => (j : Int) := by simp [fillL]
    rw [hfe] at HN1
    have hst := fun (W : World) (hB : Below w1.heap.size w1 W) (hR : Kd.R (Kd.int .i64) 2 W w1.heap.size (fun _ => True) (.slice (some ⟨go, 0, none⟩) i co) ((List.range i).map fun j : Nat => (j : Int))) => Kd_Stable_i64 144 #[.pointer (some ⟨B, 0, none⟩)] (enters_of Try.func144 (by kernel_rfl) rfl) (fun j => (rd_T77 l0 (j : Int)).f3) i hn1 hn2 w1 W (.slice (some ⟨go, 0, none⟩) i co) hB hR
     (fun x y hx hy W' hW' => merit_cmp w1 B A0 c0 l0 (blk_lt BX.out) (by rw [← HN.out]; exact hcz) (Kd.C_below HR0.out B1.out) x y (by rw [← HN.out]; exact hx) (by rw [← HN.out]; exact hy) W' hW')
    have HS := Aside0.mk hst
    clear hst hfe
    go_wp2_with (go_at_call 143; refine (HS.out _ BW.out HN1.out).mono ?_; rintro e w5 ⟨rfl, hR5, hB5⟩; have HR5 := Aside0.mk hR5; have HB5 := Aside0.mk hB5; clear hR5 hB5)
    go_ret
    refine ⟨_, rfl, ?_, B1.out.trans (HB5.out.mono B1.out.size)⟩
    rw [← HV.out]
    unfold meritI
    rw [← HN.out]
    exact Kd.R_lower HR5.out B1.out.size
 ·
  cases h

end Go.Proofs.Ytebkgebibammiaa.PFnExactIsWithin
