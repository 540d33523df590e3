-- PRINTED by print.py (a twelfth state) out of the translation. Not trusted: Lean checks it.
import Derived.Test.YtgkmfgkkmahmoaaDoorPFnVersionsx0
import Derived.Test.YtgkmfgkkmahmoaaDoorPFnVersionsx4
import Derived.Test.YtgkmfgkkmahmoaaDoorPFnVersionsx5
import Derived.Test.YtgkmfgkkmahmoaaDoorPFnVersionsx6
namespace Go.Proofs.YtgkmfgkkmahmoaaDoor.PFnVersions
open Go.RowKit Go.Proofs.YtgkmfgkkmahmoaaDoorW.PrintWords Go.Proofs.YtgkmfgkkmahmoaaDoorW.PrintLast Go.Proofs.YtgkmfgkkmahmoaaDoorW.PrintMore
attribute [local go_sem] max2_int min2_int max_two min_two max_three min_three max_four min_four   -- for this text's walks alone
set_option linter.unusedVariables false
set_option linter.unusedSimpArgs false

/-! ### impl_ApplyChanges: function 12 -/
/-- What a predicate that is handed over says of a value, in every world in which what was there stays. -/
def Gives2 (P : Program) (g : Nat) (lb : Array Value) (w0 : World) (x : Value) (b : Bool) : Prop :=
 ∀ W, Below w0.heap.size w0 W → Calls P g (#[x] ++ lb) W fun e w' => e = .returned (.bool b) ∧ Below W.heap.size W w'
theorem Gives2.later {P : Program} {g : Nat} {lb : Array Value} {w0 W : World} {x : Value} {b : Bool} (h : Gives2 P g lb w0 x b) (hb : Below w0.heap.size w0 W) : Gives2 P g lb W x b :=
 fun W2 h2 => h W2 (hb.trans (h2.mono hb.size))

/-- The first place at which a predicate says yes, or -1; a predicate may have no answer. -/
def idxO {α : Type} (p : α → Option Bool) : List α → Nat → Option Int
 | [], _ => some (-1)
 | x :: xs, n => (p x).bind fun b => if b = true then some (n : Int) else idxO p xs (n + 1)
theorem idxO_mono {α : Type} {p q : α → Option Bool} (h : ∀ x, LeO (p x) (q x)) : ∀ (l : List α) (n : Nat), LeO (idxO p l n) (idxO q l n)
 | [], _ => LeO.refl _
 | x :: xs, n => by
  intro r hr
  rw [idxO] at hr ⊢
  obtain ⟨b, h1, h2⟩ := Option.bind_eq_some_iff.1 hr
  refine Option.bind_eq_some_iff.2 ⟨b, h _ _ h1, ?_⟩
  cases b with
  | true => exact h2
  | false => exact idxO_mono h xs (n + 1) _ h2

set_option maxHeartbeats 2000000 in
theorem slices_IndexFunc_Change (p : S100 → Option Bool) (g : Nat) (lb : Array Value) (eg : ∀ args w, (callFunc g args).run Tryd.prog w = .ok (.enter g args) w)
  (A : Option Addr) (n c : Nat) (l : List S100) (r : Int) (w : World) (hn : l.length = n) (hr : Kd.C k100 w A n l) (hbig : n < 9223372036854775807)
  (hp : ∀ x b, p x = some b → Gives2 Tryd.prog g lb w (.agg #[.int .i64 x.f0, .string x.f1.f0, .int .i64 x.f1.f1]) b) (h : idxO p l 0 = some r) :
  Calls Tryd.prog 112 #[.slice A n c, .func (.func g) #[] lb] w fun e w' => e = .returned (.int .i64 r) ∧ Below w.heap.size w w' := by
 have HR := Aside0.mk hr
 have HP := Aside0.mk hp
 have HH := Aside0.mk h
 have HN := Aside0.mk hn
 clear hr hp h
 go_enter Tryd.func112, Tryd.ntmps112
 go_wp2
 go_loopg [5, 8] n (fun gg _ s8 wr => ∃ kk : Nat, kk ≤ n ∧ n - kk ≤ gg ∧ s8 = .int .i64 kk ∧ Aside0 (Below w.heap.size w wr) ∧ Aside0 (idxO p (l.drop kk) kk = some r))
 case atStart => exact ⟨0, Nat.zero_le _, by omega, rfl, ⟨Below.refl _ w⟩, ⟨by rw [List.drop_zero]; exact HH.out⟩⟩
 case round =>
  obtain ⟨kk, hkk, hg, rfl, BW, H0⟩ := hrel
  by_cases hlt : kk < n
  ·
   have hltz : (kk : Int) < (n : Int) := by omega
   have H1 := H0.out
   rw [List.drop_eq_getElem_cons (by omega), idxO] at H1
   obtain ⟨b, hb, H2⟩ := Option.bind_eq_some_iff.1 H1
   obtain ⟨ad, rfl, hc0, hc1, hc2⟩ := at_T100 (Kd.C_below HR.out BW.out) (kk : Int) (by omega) hltz
   rw [Int.toNat_natCast] at hc0 hc1 hc2
   have ey : rd_T100 l (kk : Int) = l[kk] := by
    unfold rd_T100
    rw [Int.toNat_natCast, List.getD_eq_getElem?_getD, List.getElem?_eq_getElem (by omega)]
    rfl
   have hcall := HP.out _ b (by rw [← ey] at hb; exact hb) wr BW.out
   generalize rd_T100 l (kk : Int) = y at hc0 hc1 hc2 hcall
   clear hb ey H1 H0
   cases b with
   | true =>
    simp only [if_true] at H2
    obtain rfl := Option.some.inj H2
    clear H2
    go_wp2_with (go_at_fn g; refine hcall.mono ?_; rintro e w' ⟨rfl, hb'⟩)
    go_ret
    exact ⟨rfl, BW.out.trans (hb'.mono BW.out.size)⟩
   | false =>
    simp only [Bool.false_eq_true, if_false] at H2
    have H3 := Aside0.mk H2
    clear H2
    go_wp2_with (go_at_fn g; refine hcall.mono ?_; rintro e w' ⟨rfl, hb'⟩)
    go_roundg (n - (kk + 1))
    case measure => omega
    case rel => exact ⟨kk + 1, by omega, by omega, by go_num, ⟨BW.out.trans (hb'.mono BW.out.size)⟩, H3⟩
  ·
   have hltz : ¬ (kk : Int) < (n : Int) := by omega
   have hkn : l.length ≤ kk := by omega
   have H1 := H0.out
   rw [List.drop_eq_nil_of_le hkn] at H1
   obtain rfl := Option.some.inj H1
   clear H1 H0
   go_wp2
   go_ret
   exact ⟨rfl, BW.out⟩
set_option maxHeartbeats 2000000 in
theorem slices_ContainsFunc_Change (p : S100 → Option Bool) (g : Nat) (lb : Array Value) (eg : ∀ args w, (callFunc g args).run Tryd.prog w = .ok (.enter g args) w)
  (A : Option Addr) (n c : Nat) (l : List S100) (r : Int) (w : World) (hn : l.length = n) (hr : Kd.C k100 w A n l) (hbig : n < 9223372036854775807)
  (hp : ∀ x b, p x = some b → Gives2 Tryd.prog g lb w (.agg #[.int .i64 x.f0, .string x.f1.f0, .int .i64 x.f1.f1]) b) (h : idxO p l 0 = some r) :
  Calls Tryd.prog 54 #[.slice A n c, .func (.func g) #[] lb] w fun e w' => e = .returned (.bool (decide (0 ≤ r))) ∧ Below w.heap.size w w' := by
 have HR := Aside0.mk hr
 have HP := Aside0.mk hp
 have HN := Aside0.mk hn
 clear hr hp hn
 go_enter Tryd.func54, Tryd.ntmps54
 go_wp2_with (go_at_call 112; refine (slices_IndexFunc_Change p g lb eg A n c l r _ HN.out HR.out hbig HP.out h).mono ?_; rintro e w' ⟨rfl, hb'⟩)
 go_ret
 exact ⟨rfl, hb'⟩

/-- A binary search by rounds: the place of the first element that does not come before. -/
def bsL_Setting (cf : S96 → Option Int) (l : List S96) : Nat → Nat → Nat → Option Nat
 | 0, _, _ => none
 | m + 1, i, j => if i < j then (cf (rd_T96 l (((i + j) / 2 : Nat) : Int))).bind fun r => if r < 0 then bsL_Setting cf l m ((i + j) / 2 + 1) j else bsL_Setting cf l m i ((i + j) / 2) else some i
def bsF_Setting (cf : S96 → Option Int) (l : List S96) (m : Nat) : Option (Nat × Bool) := (bsL_Setting cf l m 0 l.length).bind fun i => if i < l.length then (cf (rd_T96 l (i : Int))).bind fun r => some (i, r == 0) else some (i, false)
theorem bsL_Setting_le (cf : S96 → Option Int) (l : List S96) : ∀ (m i j r : Nat), i ≤ j → bsL_Setting cf l m i j = some r → i ≤ r ∧ r ≤ j
 | 0, i, j, r, _, h => by cases h
 | m + 1, i, j, r, hij, h => by
  rw [bsL_Setting] at h
  split at h
  ·
   obtain ⟨q, _, h2⟩ := Option.bind_eq_some_iff.1 h
   split at h2
   ·
    have := bsL_Setting_le cf l m _ j r (by omega) h2
    omega
   ·
    have := bsL_Setting_le cf l m i _ r (by omega) h2
    omega
  ·
   have := Option.some.inj h
   omega
theorem bsF_Setting_le {cf : S96 → Option Int} {l : List S96} {m i : Nat} {b : Bool} (h : bsF_Setting cf l m = some (i, b)) : i ≤ l.length ∧ (b = true → i < l.length) := by
 obtain ⟨j, h1, h2⟩ := Option.bind_eq_some_iff.1 h
 have h3 := bsL_Setting_le cf l m 0 l.length j (Nat.zero_le _) h1
 split at h2
 ·
  obtain ⟨q, _, h4⟩ := Option.bind_eq_some_iff.1 h2
  injection Option.some.inj h4 with e _
  exact ⟨by omega, fun _ => by omega⟩
 ·
  injection Option.some.inj h2 with e e2
  exact ⟨by omega, fun e3 => by rw [← e2] at e3; cases e3⟩
theorem bsL_Setting_mono {cf cf' : S96 → Option Int} (hc : ∀ y, LeO (cf y) (cf' y)) (l : List S96) : ∀ (m i j : Nat), LeO (bsL_Setting cf l m i j) (bsL_Setting cf' l (m + 1) i j)
 | 0, i, j => LeO.none _
 | m + 1, i, j => by
  intro r h
  rw [bsL_Setting] at h ⊢
  split at h
  ·
   rename_i hij
   rw [if_pos hij]
   obtain ⟨q, h1, h2⟩ := Option.bind_eq_some_iff.1 h
   refine Option.bind_eq_some_iff.2 ⟨q, hc _ _ h1, ?_⟩
   split at h2
   ·
    rename_i hq; rw [if_pos hq]; exact bsL_Setting_mono hc l m _ _ _ h2
   ·
    rename_i hq; rw [if_neg hq]; exact bsL_Setting_mono hc l m _ _ _ h2
  ·
   rename_i hij
   rw [if_neg hij]; exact h
theorem bsF_Setting_mono {cf cf' : S96 → Option Int} (hc : ∀ y, LeO (cf y) (cf' y)) (l : List S96) (m : Nat) : LeO (bsF_Setting cf l m) (bsF_Setting cf' l (m + 1)) := by
 intro r h
 obtain ⟨j, h1, h2⟩ := Option.bind_eq_some_iff.1 h
 refine Option.bind_eq_some_iff.2 ⟨j, bsL_Setting_mono hc l m _ _ _ h1, ?_⟩
 split at h2
 ·
  rename_i hj
  rw [if_pos hj]
  obtain ⟨q, h3, h4⟩ := Option.bind_eq_some_iff.1 h2
  exact Option.bind_eq_some_iff.2 ⟨q, hc _ _ h3, h4⟩
 ·
  rename_i hj
  rw [if_neg hj]; exact h2
set_option maxHeartbeats 4000000 in
set_option maxRecDepth 100000 in
theorem bs_Setting_calls (cf : S96 → Option Int) (x : S96) (hcf : ∀ (y : S96) (q : Int) (W : World), cf y = some q → Calls Tryd.prog 57 #[.agg #[.string y.f0, .int .i64 y.f1], .agg #[.string x.f0, .int .i64 x.f1]] W fun e w' => e = .returned (.int .i64 q) ∧ Below W.heap.size W w') (m : Nat) (A : Option Addr) (n c : Nat) (l : List S96) (i : Nat) (b : Bool) (w : World) (hn : l.length = n) (hr : Kd.C k96 w A n l) (hbig : n < 4611686018427387904) (h : bsF_Setting cf l m = some (i, b)) :
 Calls Tryd.prog 56 #[.slice A n c, .agg #[.string x.f0, .int .i64 x.f1], .func (.func 57) #[] #[]] w fun e w' => e = .returned (.tuple #[.int .i64 (i : Int), .bool b]) ∧ Below w.heap.size w w' := by
 have hu44 := Tryd.underlying96
 have hu42 := Tryd.underlying26
 obtain ⟨i1, hL, hF⟩ := Option.bind_eq_some_iff.1 h
 have HCF := Aside0.mk hcf
 have HR := Aside0.mk hr
 have HL := Aside0.mk hL
 have HF := Aside0.mk hF
 have HN := Aside0.mk hn
 clear h hL hF hr hn hcf
 have eg : ∀ args w, (callFunc 57 args).run Tryd.prog w = .ok (.enter 57 args) w := enters_of Tryd.func57 (by kernel_rfl) rfl
 have mixed : Tryd.prog.follows Departure.mixedOrders = true := by kernel_rfl
 go_enter Tryd.func56, Tryd.ntmps56
 go_wp2
 go_loopg [9, 10] m (fun gg s9 s10 wr => ∃ lo hi : Nat, s9 = .int .i64 (lo : Int) ∧ s10 = .int .i64 (hi : Int) ∧ lo ≤ hi ∧ hi ≤ n ∧ Aside0 (bsL_Setting cf l gg lo hi = some i1) ∧ Aside0 (Below w.heap.size w wr) ∧ Aside0 (wr.heap[w.heap.size]? = some (.cells #[.string x.f0, .int .i64 x.f1] 96 (0, 0))))
 case atStart => exact ⟨0, n, rfl, rfl, Nat.zero_le _, Nat.le_refl _, ⟨by rw [← HN.out]; exact HL.out⟩, ⟨below_alloc (Below.refl _ _) _⟩, ⟨blk_new _ _⟩⟩
 case round =>
  obtain ⟨lo, hi, rfl, rfl, hlh, hin, H, BW, BX⟩ := hrel
  have hx0 := blk_cell BX.out 0
  have hx1 := blk_cell BX.out 1
  simp only [List.getElem?_toArray, List.getElem?_cons_zero, List.getElem?_cons_succ] at hx0 hx1
  by_cases hlt : lo < hi
  ·
   cases gk with
   | zero => exact absurd H.out (by simp [bsL_Setting])
   | succ g =>
    have H2 := H.out
    rw [bsL_Setting, if_pos hlt] at H2
    obtain ⟨q, hq, H3⟩ := Option.bind_eq_some_iff.1 H2
    obtain ⟨ad, rfl, hc0, hc1⟩ := at_T96 (Kd.C_below HR.out BW.out) (((lo + hi) / 2 : Nat) : Int) (by omega) (by omega)
    rw [Int.toNat_natCast] at hc0 hc1
    generalize rd_T96 l (((lo + hi) / 2 : Nat) : Int) = y at hq hc0 hc1
    have HC := Aside0.mk (fun W => HCF.out y q W hq)
    have H3 := Aside0.mk H3
    clear H2 hq H
    by_cases hneg : q < 0
    ·
     have H4 := H3.out
     rw [if_pos hneg] at H4
     have H4 := Aside0.mk H4
     go_wp2
     go_region_with (go_at_fn 57; refine (HC.out _).mono ?_; rintro e w' ⟨rfl, hb'⟩; have BW' := Aside0.mk ((below_drew1 BW.out).trans (hb'.mono BW.out.size)); have BX' := Aside0.mk (blk_below (blk_drew BX.out) hb'); clear hb')
     all_goals
      go_wp2
      go_roundg g
      case measure => omega
      case rel => exact ⟨(lo + hi) / 2 + 1, hi, by rw [show ((lo : Int) + (hi : Int)) / 2 + 1 = (((lo + hi) / 2 + 1 : Nat) : Int) by omega], rfl, by omega, hin, H4, BW', BX'⟩
    ·
     have H4 := H3.out
     rw [if_neg hneg] at H4
     have H4 := Aside0.mk H4
     go_wp2
     go_region_with (go_at_fn 57; refine (HC.out _).mono ?_; rintro e w' ⟨rfl, hb'⟩; have BW' := Aside0.mk ((below_drew1 BW.out).trans (hb'.mono BW.out.size)); have BX' := Aside0.mk (blk_below (blk_drew BX.out) hb'); clear hb')
     all_goals
      go_wp2
      go_roundg g
      case measure => omega
      case rel => exact ⟨lo, (lo + hi) / 2, rfl, by rw [show ((lo : Int) + (hi : Int)) / 2 = (((lo + hi) / 2 : Nat) : Int) by omega], by omega, by omega, H4, BW', BX'⟩
  ·
   obtain rfl : hi = lo := by omega
   have hL1 : i1 = hi := by
    have H2 := H.out
    cases gk with
    | zero => exact absurd H2 (by simp [bsL_Setting])
    | succ g => rw [bsL_Setting, if_neg (by omega)] at H2; exact (Option.some.inj H2).symm
   subst hL1
   have hF := HF.out
   rw [HN.out] at hF
   by_cases hn : i1 < n
   ·
    rw [if_pos hn] at hF
    obtain ⟨q, hq, hF2⟩ := Option.bind_eq_some_iff.1 hF
    have hF3 := Option.some.inj hF2
    injection hF3 with e1 e2
    subst e1
    subst e2
    obtain ⟨ad, rfl, hc0, hc1⟩ := at_T96 (Kd.C_below HR.out BW.out) ((i1 : Nat) : Int) (by omega) (by omega)
    rw [Int.toNat_natCast] at hc0 hc1
    generalize rd_T96 l ((i1 : Nat) : Int) = y at hq hc0 hc1
    have HC := Aside0.mk (fun W => HCF.out y q W hq)
    clear hF hF2 hq H HF
    have hd1 : decide ((i1 : Int) < (n : Int)) = true := decide_eq_true (by omega)
    have hd2 : decide (i1 < n) = true := decide_eq_true hn
    go_wp2
    go_region_held3 (fun w' => w'.cell? ⟨w.heap.size, 0, none⟩ = some (.string x.f0) ∧ w'.cell? ⟨w.heap.size, 1, none⟩ = some (.int .i64 x.f1) ∧ w'.cell? (ad.add (i1 * 2)) = some (.string y.f0) ∧ w'.cell? ⟨(ad.add (i1 * 2)).block, (ad.add (i1 * 2)).off + 1, none⟩ = some (.int .i64 y.f1) ∧ Aside0 (Below w.heap.size w w')) (first | exact ⟨hx0, hx1, hc0, hc1, ⟨below_drew1 BW.out⟩⟩ | exact ⟨H8.out.1, H8.out.2.1, H8.out.2.2.1, H8.out.2.2.2, BW'⟩) (first | (go_at_fn 57; refine (HC.out _).mono ?_; rintro e w' ⟨rfl, hb'⟩; have BW' := Aside0.mk ((below_drew1 BW.out).trans (hb'.mono BW.out.size)); have H8 := Aside0.mk (And.intro ((hb'.cell (World.block_lt_of_cell? _ _ hx0)).trans hx0) (And.intro ((hb'.cell (World.block_lt_of_cell? _ _ hx1)).trans hx1) (And.intro ((hb'.cell (World.block_lt_of_cell? _ _ hc0)).trans hc0) ((hb'.cell (World.block_lt_of_cell? _ _ hc1)).trans hc1)))); clear hb'))
    go_wp2
    go_ret2
    exact ⟨rfl, BW'.out⟩
   ·
    rw [if_neg hn] at hF
    have hF3 := Option.some.inj hF
    injection hF3 with e1 e2
    subst e1
    subst e2
    clear hF H HF
    have hd1 : decide ((i1 : Int) < (n : Int)) = false := decide_eq_false (by omega)
    have hd2 : decide (i1 < n) = false := decide_eq_false hn
    go_wp2
    go_quiet (fail)
    go_wp2
    go_ret2
    exact ⟨by simp, pw_below_drewN BW.out _⟩

/-- The cells of a row of elements that hold no row themselves. -/
def flC {α : Type} (enc : α → List Value) : List α → List Value
 | [] => []
 | x :: t => enc x ++ flC enc t
theorem flC_append {α : Type} (enc : α → List Value) : ∀ (a b : List α), flC enc (a ++ b) = flC enc a ++ flC enc b
 | [], b => rfl
 | x :: t, b => by rw [List.cons_append, flC, flC_append enc t b, flC, List.append_assoc]
theorem flC_len {α : Type} {enc : α → List Value} {d : Nat} (hl : ∀ x, (enc x).length = d) : ∀ xs : List α, (flC enc xs).length = xs.length * d
 | [] => by simp [flC]
 | x :: t => by rw [flC, List.length_append, hl, flC_len hl t, List.length_cons, Nat.add_mul, Nat.one_mul, Nat.add_comm]
theorem flC_take {α : Type} {enc : α → List Value} {d : Nat} (hl : ∀ x, (enc x).length = d) (xs : List α) (i : Nat) (hi : i ≤ xs.length) : flC enc (xs.take i) = (flC enc xs).take (i * d) := by
 have h := flC_append enc (xs.take i) (xs.drop i)
 rw [List.take_append_drop] at h
 have e : (flC enc (xs.take i)).length = i * d := by rw [flC_len hl, List.length_take, Nat.min_eq_left hi]
 rw [h, ← e, List.take_left]
theorem flC_drop {α : Type} {enc : α → List Value} {d : Nat} (hl : ∀ x, (enc x).length = d) (xs : List α) (i : Nat) (hi : i ≤ xs.length) : flC enc (xs.drop i) = (flC enc xs).drop (i * d) := by
 have h := flC_append enc (xs.take i) (xs.drop i)
 rw [List.take_append_drop] at h
 have e : (flC enc (xs.take i)).length = i * d := by rw [flC_len hl, List.length_take, Nat.min_eq_left hi]
 rw [h, ← e, List.drop_left]
theorem flC_reps {α : Type} {R : α → List Value → Prop} {enc : α → List Value} {d : Nat} (hl : ∀ x, (enc x).length = d) (hR : ∀ x, R x (enc x)) (xs : List α) : Reps R d xs (flC enc xs) := by
 refine ⟨flC_len hl xs, fun j p hp => ?_⟩
 have hj : j < xs.length := (List.getElem?_eq_some_iff.1 hp).1
 have e : xs.drop j = p :: xs.drop (j + 1) := by
  rw [List.drop_eq_getElem_cons hj, (List.getElem?_eq_some_iff.1 hp).2]
 rw [← flC_drop hl xs j (Nat.le_of_lt hj), e, flC, List.take_append_of_le_length (by rw [hl]; exact Nat.le_refl _), List.take_of_length_le (by rw [hl]; exact Nat.le_refl _)]
 exact hR p
theorem reps_flC {α : Type} {R : α → List Value → Prop} {enc : α → List Value} {d : Nat} (hR : ∀ x cs, R x cs → cs = enc x) : ∀ (xs : List α) (cs : List Value), Reps R d xs cs → cs = flC enc xs
 | [], cs, h => by
  have := h.1
  simp at this
  exact this
 | x :: t, cs, h => by
  have h0 := hR x _ (h.2 0 x rfl)
  rw [Nat.zero_mul, List.drop_zero] at h0
  have ht : Reps R d t (cs.drop d) := by
   refine ⟨by rw [List.length_drop, h.1, List.length_cons, Nat.add_mul, Nat.one_mul, Nat.add_sub_cancel], fun j p hp => ?_⟩
   have := h.2 (j + 1) p hp
   rw [List.drop_drop, show d + j * d = (j + 1) * d by rw [Nat.add_mul, Nat.one_mul, Nat.add_comm]]
   exact this
  rw [flC, ← h0, ← reps_flC hR t _ ht, List.take_append_drop]
section
variable {P : Program} {ops : Array Oper} {rest : List Oper} {o : Oper} {a : Act} {Q : Exit → Act → World → Prop} {K : Act → World → Prop} {E : Prop}
theorem run_copyD (w : World) (dT sT ty elem : TypeId) (g off dLen dCap : Nat) (ad : Addr) (sLen sCap : Nat) (cur : Array Value) (t : TypeId) (cs : List Value) (sz : Nat)
  (hu : P.underlying dT = some (.slice elem)) (hs : (P.info? elem).map (·.size) = some sz)
  (hg : w.heap[g]? = some (.cells cur t (0, 0))) (hn : cs.length = Nat.min sLen dLen * sz)
  (hsrc : ∀ j v, cs[j]? = some v → w.cell? (ad.add j) = some v) (hfit : off + cs.length ≤ cur.size) (h1 : ∀ v ∈ cs, v.oneCell' = true) :
  (Builtin.copy_ #[dT, sT] ty #[.slice (some ⟨g, off, none⟩) dLen dCap, .slice (some ad) sLen sCap]).run P w =
   .ok (goInt ((Nat.min sLen dLen : Nat) : Int)) (w.setRow g (cur.toList.take off ++ cs ++ cur.toList.drop (off + cs.length)).toArray) := by
 have hl := run_loadCells_list (P := P) w ad cs hsrc
 have hst := run_storeCells_at P g off t cs 0 cur w hg (by simpa using hfit) h1
 cases hq : P.info? elem with
 | none => simp [hq] at hs
 | some i =>
  have hi : i.size = sz := by simpa [hq] using hs
  simp only [Nat.add_zero] at hst
  simp [Builtin.copy_, run_underlying hu, Builtin.lenOf, Builtin.firstCells, sizeOf, typeInfo, hq, hi, ← hn, hl, hst]
theorem setRow_size (w : World) (g : Nat) (cs : Array Value) : (w.setRow g cs).heap.size = w.heap.size := by simp [World.setRow]
theorem wpList_copyD {w : World} (hgd : o.guard = none) (x y : Operand) (dT sT : TypeId)
  (ho : o.op = .call { callee := .builtin .copy, args := #[x, y], argTypes := #[dT, sT] }) (elem : TypeId) (hu : P.underlying dT = some (.slice elem)) (sz : Nat) (hsz : (P.info? elem).map (·.size) = some sz)
  (g off dLen dCap : Nat) (ad : Addr) (sLen sCap : Nat) (hd : a.eval x = .slice (some ⟨g, off, none⟩) dLen dCap) (hs : a.eval y = .slice (some ad) sLen sCap)
  (cur : List Value) (t : TypeId) (hg : w.heap[g]? = some (.cells cur.toArray t (0, 0))) (cs : List Value) (hn : cs.length = Nat.min sLen dLen * sz)
  (hsrc : ∀ j v, cs[j]? = some v → w.cell? (ad.add j) = some v) (hfit : off + cs.length ≤ cur.length) (h1 : ∀ v ∈ cs, v.oneCell' = true)
  (h : ∀ w', Hid (w'.heap[g]? = some (.cells (splice cur off cs).toArray t (0, 0))) → Hid (w'.heap.size = w.heap.size) → Hid (∀ k, k ≠ g → w'.heap[k]? = w.heap[k]?) → Hid (∀ B w0, Below B w0 w → B ≤ g → Below B w0 w') → wpList P ops Q rest (a.put o.dst (goInt ((Nat.min sLen dLen : Nat) : Int))) w') :
  wpList P ops Q (o :: rest) a w := by
 refine wpList_plain hgd fun K hK => ?_
 have hrun := run_copyD (P := P) w dT sT o.type elem g off dLen dCap ad sLen sCap cur.toArray t cs sz hu hsz hg hn hsrc (by simpa using hfit) h1
 unfold Oper.wp
 simp [execOp, ho, resolve, invoke, builtin, hd, hs, hrun, Result.andThen]
 refine hK _ _ (h _ ?_ ?_ ?_ ?_)
 ·
  show _ = _
  simpa [splice] using setRow_heap w g _ _ t _ hg
 ·
  exact setRow_size w g _
 ·
  exact fun k hk => setRow_other w g k _ hk
 ·
  exact fun B w0 hb hBg => below_setRow hb hBg _
theorem step_copyD {w : World} (hgd : o.guard = none) (x y : Operand) (dT sT : TypeId)
  (ho : o.op = .call { callee := .builtin .copy, args := #[x, y], argTypes := #[dT, sT] }) (elem : TypeId) (hu : P.underlying dT = some (.slice elem)) (sz : Nat) (hsz : (P.info? elem).map (·.size) = some sz)
  (g off dLen dCap : Nat) (ad : Addr) (sLen sCap : Nat) (hd : a.eval x = .slice (some ⟨g, off, none⟩) dLen dCap) (hs : a.eval y = .slice (some ad) sLen sCap)
  (cur : List Value) (t : TypeId) (hg : w.heap[g]? = some (.cells cur.toArray t (0, 0))) (cs : List Value) (hn : cs.length = Nat.min sLen dLen * sz)
  (hsrc : ∀ j v, cs[j]? = some v → w.cell? (ad.add j) = some v) (hfit : off + cs.length ≤ cur.length) (h1 : ∀ v ∈ cs, v.oneCell' = true)
  (h : ∀ w', Hid (w'.heap[g]? = some (.cells (splice cur off cs).toArray t (0, 0))) → Hid (w'.heap.size = w.heap.size) → Hid (∀ k, k ≠ g → w'.heap[k]? = w.heap[k]?) → Hid (∀ B w0, Below B w0 w → B ≤ g → Below B w0 w') → K (a.put o.dst (goInt ((Nat.min sLen dLen : Nat) : Int))) w') :
  if Region.wanted o (yielded ops a.tmps) = true then Oper.wp P o a w K Q else E := by
 have hw : Region.wanted o (yielded ops a.tmps) = true := by simp [Region.wanted, hgd]
 rw [if_pos hw]
 have hrun := run_copyD (P := P) w dT sT o.type elem g off dLen dCap ad sLen sCap cur.toArray t cs sz hu hsz hg hn hsrc (by simpa using hfit) h1
 unfold Oper.wp
 simp [execOp, ho, resolve, invoke, builtin, hd, hs, hrun, Result.andThen]
 refine h _ ?_ ?_ ?_ ?_
 ·
  show _ = _
  simpa [splice] using setRow_heap w g _ _ t _ hg
 ·
  exact setRow_size w g _
 ·
  exact fun k hk => setRow_other w g k _ hk
 ·
  exact fun B w0 hb hBg => below_setRow hb hBg _
end
section
variable {P : Program} {ops : Array Oper} {rest : List Oper} {o : Oper} {a : Act} {Q : Exit → Act → World → Prop} {K : Act → World → Prop} {E : Prop}
theorem wpList_growz {w : World} (hgd : o.guard = none) (s x : Operand) (t ti e : TypeId) (z : Value) (d bytes : Nat)
  (ho : o.op = .call { callee := .builtin .append, args := #[s, x], argTypes := #[t, ti] })
  (ht : P.underlying t = some (.slice e)) {kn : IntKind} (hti : P.underlying ti = some (.int kn)) (hinfo : (P.info? e).map (fun i => (i.zero, i.size, i.bytes)) = some (some z, d, bytes)) (hz : z.cells.size = d) (hs0 : 0 < d) (hb0 : 0 < bytes)
  (g i c k m : Nat) (hm : i + k = m) (cs : List Value) {kx : IntKind} (hs : a.eval s = .slice (some ⟨g, 0, none⟩) i c) (hx : a.eval x = .int kx (k : Int)) (hk : 0 < k) (hc : c < i + k) (hcl : cs.length = i * d)
  (hcs : ∀ j v, cs[j]? = some v → w.cell? ⟨g, j, none⟩ = some v) (hbig : (i + k) * bytes ≤ 140737488355328)
  (h : ∀ (G : Nat) (w' : World) (more : List Value), Hid (m ≤ G ∧ G ≤ maxLen) → Hid (w'.heap[w.heap.size]? = some (.cells (cs ++ more).toArray e (0, 0))) → Hid ((cs ++ more).length = G * d) → Hid (w'.heap.size = w.heap.size + 1) → Hid (∀ k, k < w.heap.size → w'.heap[k]? = w.heap[k]?) → Hid (Below w.heap.size w w') → wpList P ops Q rest (a.put o.dst (.slice (some ⟨w.heap.size, 0, none⟩) m G)) w') :
  wpList P ops Q (o :: rest) a w := by
 subst hm
 obtain ⟨i0, hi0, hzz⟩ := Option.map_eq_some_iff.1 hinfo
 simp only [Prod.mk.injEq] at hzz
 obtain ⟨hz0, hzs, hzb⟩ := hzz
 have hold : (Builtin.firstCells i0.size i (.slice (some ⟨g, 0, none⟩) i c)).run P w.drew = .ok cs.toArray w.drew :=
  run_firstCells_some w.drew i0.size i ⟨g, 0, none⟩ i c cs (by rw [hcl, hzs]) (fun j v hj => by
   have e : (⟨g, 0, none⟩ : Addr).add j = ⟨g, j, none⟩ := by rw [Addr.add_lit, Nat.zero_add]
   rw [e]
   exact hcs j v hj)
 have hrun := Lib.run_append_grow_zeros w t ti o.type e i0 z kx kn ht hti hi0 hz0 (some ⟨g, 0, none⟩) i c cs hold k hk (by omega) hc (by
  have := Nat.le_mul_of_pos_right (i + k) hb0
  omega) (by
  rw [hzb]
  have := Nat.mul_le_mul_right bytes (Nat.le_add_left k i)
  omega) (by rw [hzb]; exact growslice_fits hc hbig)
 refine wpList_plain hgd fun K hK => ?_
 unfold Oper.wp
 simp [execOp, ho, resolve, invoke, builtin, hs, hx, hrun, Result.andThen]
 have hG1 := grownCap_ge w (i + k) c e
 have hG2 := grownCap_le_maxLen w (i + k) c e (by
  have := Nat.le_mul_of_pos_right (i + k) hb0
  unfold maxLen
  omega)
 refine hK _ _ (h _ _ ((Builtin.zeroCells z.cells k).toList ++ (Builtin.zeroCells z.cells (grownCap w (i + k) c e - (i + k))).toList) ⟨hG1, hG2⟩ ?_ ?_ ?_ ?_ ?_)
 ·
  show (w.heap.push _)[w.heap.size]? = _
  rw [Array.getElem?_push_size]
  simp [Array.append_assoc]
 ·
  show _ = _
  simp only [List.length_append, Array.length_toList, size_zeroCells, hz, hcl, ← Nat.add_mul]
  congr 1
  omega
 ·
  show (w.heap.push _).size = _
  rw [Array.size_push]
 ·
  intro k hk
  show (w.heap.push _)[k]? = _
  rw [Array.getElem?_push, if_neg (Nat.ne_of_lt hk)]
 ·
  exact below_alloc (below_drew1 (Below.refl _ _)) _
end
theorem splice2_flC {α : Type} {enc : α → List Value} {d : Nat} (hl : ∀ x, (enc x).length = d) (L : List α) (x : α) (C : List Value) (i n : Nat) (hn : L.length = n) (hi : i ≤ n) (hC : C.take (n * d) = flC enc L) (hcap : (n + 1) * d ≤ C.length) :
  (splice (splice C ((i + 1) * d) (flC enc (L.drop i))) (i * d) (enc x)).length = C.length ∧ (splice (splice C ((i + 1) * d) (flC enc (L.drop i))) (i * d) (enc x)).take ((n + 1) * d) = flC enc (L.take i ++ x :: L.drop i) := by
 have hX : (flC enc (L.drop i)).length = (n - i) * d := by rw [flC_len hl, List.length_drop, hn]
 have e1 : (i + 1) * d + (n - i) * d = (n + 1) * d := by rw [← Nat.add_mul]; congr 1; omega
 have h1 : (splice C ((i + 1) * d) (flC enc (L.drop i))).length = C.length := length_splice _ _ _ (by rw [hX]; omega)
 have e2 : i * d + d = (i + 1) * d := by rw [Nat.add_mul, Nat.one_mul]
 have hle : (i + 1) * d ≤ (n + 1) * d := Nat.mul_le_mul_right _ (by omega)
 have h2 : (splice (splice C ((i + 1) * d) (flC enc (L.drop i))) (i * d) (enc x)).length = C.length := by
  rw [length_splice _ _ _ (by rw [hl, h1]; omega), h1]
 refine ⟨h2, ?_⟩
 have t1 : (splice C ((i + 1) * d) (flC enc (L.drop i))).take (i * d) = flC enc (L.take i) := by
  unfold splice
  rw [List.take_append_of_le_length (by rw [List.length_take]; omega), List.take_take, Nat.min_eq_left (by omega), flC_take hl L i (by omega), ← hC, List.take_take, Nat.min_eq_left (Nat.mul_le_mul_right _ hi)]
 have t2 : (splice C ((i + 1) * d) (flC enc (L.drop i))).drop (i * d + (enc x).length) = flC enc (L.drop i) ++ C.drop ((i + 1) * d + (n - i) * d) := by
  unfold splice
  rw [hl, e2, List.drop_left' (by rw [List.length_take]; omega), hX]
 rw [splice, t1, t2, flC_append, flC]
 have e3 : (flC enc (L.take i)).length = i * d := by rw [flC_len hl, List.length_take, Nat.min_eq_left (by omega)]
 have e4 : flC enc (L.take i) ++ (enc x ++ (flC enc (L.drop i) ++ C.drop ((i + 1) * d + (n - i) * d))) = (flC enc (L.take i) ++ (enc x ++ flC enc (L.drop i))) ++ C.drop ((i + 1) * d + (n - i) * d) := by
  rw [List.append_assoc, List.append_assoc]
 rw [e4, List.take_left' (by rw [List.length_append, List.length_append, e3, hl, hX]; omega)]
theorem ownsRow_cells {w : World} {base e sz n : Nat} {g c : Nat} {xs : List Value} (h : w.ownsRow base e sz (.slice (some ⟨g, 0, none⟩) n c) n xs) : ∃ C : List Value, w.heap[g]? = some (.cells C.toArray e (0, 0)) ∧ base ≤ g ∧ n ≤ c ∧ c ≤ maxLen ∧ C.length = c * sz ∧ C.take (n * sz) = xs := by
 obtain ⟨h1, h2⟩ := h
 rcases h2 with ⟨h2, _⟩ | ⟨g', cap, cur, hv, hg, hh, hn, hm, hs, ht⟩
 ·
  cases h2
 ·
  injection hv with h3 h4 h5
  injection h3 with h3
  injection h3 with h3 _ _
  subst h3; subst h5
  exact ⟨cur.toList, by simpa using hh, hg, hn, hm, by simpa using hs, ht⟩
theorem flC_one {α : Type} {enc : α → List Value} (h : ∀ x, ∀ v ∈ enc x, v.oneCell' = true) : ∀ (xs : List α), ∀ v ∈ flC enc xs, v.oneCell' = true
 | [], v, hv => by cases hv
 | x :: t, v, hv => by
  rw [flC] at hv
  rcases List.mem_append.1 hv with h1 | h1
  ·
   exact h x v h1
  ·
   exact flC_one h t v h1
theorem blkC_cell {w : World} {g e : Nat} {C : List Value} (h : w.heap[g]? = some (.cells C.toArray e (0, 0))) (off j : Nat) (v : Value) (hv : C[off + j]? = some v) : w.cell? ((⟨g, off, none⟩ : Addr).add j) = some v := by
 rw [Addr.add_lit]
 simp only [World.cell?, h]
 simpa using hv
theorem spliceG_flC {α : Type} {enc : α → List Value} {d : Nat} (hl : ∀ x, (enc x).length = d) (L : List α) (x : α) (M : List Value) (i n G : Nat) (hn : L.length = n) (hi : i ≤ n) (hG : n + 1 ≤ G) (hZ : (flC enc (L.take i) ++ M).length = G * d) :
  (splice (splice (flC enc (L.take i) ++ M) (i * d) (enc x)) ((i + 1) * d) (flC enc (L.drop i))).length = G * d ∧ (splice (splice (flC enc (L.take i) ++ M) (i * d) (enc x)) ((i + 1) * d) (flC enc (L.drop i))).take ((n + 1) * d) = flC enc (L.take i ++ x :: L.drop i) := by
 have hX : (flC enc (L.drop i)).length = (n - i) * d := by rw [flC_len hl, List.length_drop, hn]
 have e1 : (i + 1) * d + (n - i) * d = (n + 1) * d := by rw [← Nat.add_mul]; congr 1; omega
 have e2 : i * d + d = (i + 1) * d := by rw [Nat.add_mul, Nat.one_mul]
 have hle : (i + 1) * d ≤ (n + 1) * d := Nat.mul_le_mul_right _ (by omega)
 have hle2 : (n + 1) * d ≤ G * d := Nat.mul_le_mul_right _ hG
 have e3 : (flC enc (L.take i)).length = i * d := by rw [flC_len hl, List.length_take, Nat.min_eq_left (by omega)]
 have h1 : (splice (flC enc (L.take i) ++ M) (i * d) (enc x)).length = G * d := by rw [length_splice _ _ _ (by rw [hl, hZ]; omega), hZ]
 have h2 : (splice (splice (flC enc (L.take i) ++ M) (i * d) (enc x)) ((i + 1) * d) (flC enc (L.drop i))).length = G * d := by
  rw [length_splice _ _ _ (by rw [hX, h1]; omega), h1]
 refine ⟨h2, ?_⟩
 have t1 : (splice (flC enc (L.take i) ++ M) (i * d) (enc x)).take ((i + 1) * d) = flC enc (L.take i) ++ enc x := by
  unfold splice
  rw [List.take_left' e3, ← List.append_assoc, List.take_left' (by rw [List.length_append, e3, hl]; omega)]
 rw [splice, t1, flC_append, flC, ← List.append_assoc, List.take_left' (by rw [List.length_append, List.length_append, e3, hl, hX]; omega), List.append_assoc]

def enc_Setting (x : S96) : List Value := [.string x.f0, .int .i64 x.f1]
theorem k96_KM {w : World} {base : Nat} {ok : Nat → Prop} {x : S96} {cs : List Value} (h : k96.K w x cs) : k96.M w base ok x cs := by
 rw [k96_open h]
 exact k96_mkM w base ok x
set_option maxHeartbeats 4000000 in
set_option maxRecDepth 100000 in
theorem ins_Setting_end (L : List S96) (x : S96) (A AX : Option Addr) (n c cX : Nat) (w0 w : World) (P0 : Nat → Prop) (hB : Below w0.heap.size w0 w) (hn : L.length = n) (hnc : n ≤ c) (ho : Kd.R k96 96 w w0.heap.size P0 (.slice A n c) L) (hA : A = none → n = 0 ∧ c = 0) (hx : Kd.C k96 w AX 1 [x]) (hcX : 1 ≤ cX) (hlen : (n + 1) * 24 ≤ 140737488355328) :
 Calls Tryd.prog 58 #[.slice A n c, .int .i64 (n : Int), .slice AX 1 cX] w fun e w' => ∃ v', e = .returned v' ∧ Kd.R k96 96 w' w0.heap.size (fun k => P0 k ∨ w.heap.size ≤ k) v' (L ++ [x]) ∧ Below w0.heap.size w0 w' := by
 have HO := Aside0.mk (Kd.R_mono ho (ok' := fun k => P0 k ∨ w.heap.size ≤ k) fun _ h => .inl h)
 have HX := Aside0.mk hx
 have HB := Aside0.mk hB
 have HN := Aside0.mk hn
 have hu42 := Tryd.underlying26
 have HLn := Aside0.mk (show (L.length + 1) * 24 ≤ 140737488355328 by rw [hn]; exact hlen)
 clear ho hx hB hn
 cases A with
 | none =>
  obtain ⟨rfl, rfl⟩ := hA rfl
  clear hA
  go_enter Tryd.func58, Tryd.ntmps58
  go_wp2_with (at_builtin; refine Kd.R_append_rows k96 (Rr := k96.K w) (w0 := w0) w0.heap.size rfl (.tmp 23) (.tmp 24) 26 96 (.agg #[(.string ⟨#[]⟩), (.int .i64 0)]) 24 rfl Tryd.underlying26 info96 rfl (by decide) (by omega) _ L [x] _ _ _ (fun k => P0 k ∨ w.heap.size ≤ k) (fun _ => False) rfl rfl HO.out HX.out (fun _ _ h => k96_KM h) (fun _ h => h.elim) (fun _ h => .inr h) HB.out HB.out.size HLn.out ?_; intro v1 w1 hR1 hB1 hg1 hat1; have A1 := Aside0.mk hR1; have A2 := Aside0.mk hB1; clear hR1 hB1 hg1 hat1)
  all_goals (go_ret; exact ⟨_, rfl, A1.out, A2.out⟩)
 | some ad =>
  clear hA
  go_enter Tryd.func58, Tryd.ntmps58
  go_wp2_with (at_builtin; refine Kd.R_append_rows k96 (Rr := k96.K w) (w0 := w0) w0.heap.size rfl (.tmp 23) (.tmp 24) 26 96 (.agg #[(.string ⟨#[]⟩), (.int .i64 0)]) 24 rfl Tryd.underlying26 info96 rfl (by decide) (by omega) _ L [x] _ _ _ (fun k => P0 k ∨ w.heap.size ≤ k) (fun _ => False) rfl rfl HO.out HX.out (fun _ _ h => k96_KM h) (fun _ h => h.elim) (fun _ h => .inr h) HB.out HB.out.size HLn.out ?_; intro v1 w1 hR1 hB1 hg1 hat1; have A1 := Aside0.mk hR1; have A2 := Aside0.mk hB1; clear hR1 hB1 hg1 hat1)
  all_goals (go_ret; exact ⟨_, rfl, A1.out, A2.out⟩)
theorem R_Setting_cells {w : World} {base : Nat} {P0 : Nat → Prop} {g n c : Nat} {L : List S96} (hn : L.length = n) (h : Kd.R k96 96 w base P0 (.slice (some ⟨g, 0, none⟩) n c) L) : P0 g ∧ ∃ C : List Value, w.heap[g]? = some (.cells C.toArray 96 (0, 0)) ∧ base ≤ g ∧ n ≤ c ∧ c ≤ maxLen ∧ C.length = c * 2 ∧ C.take (n * 2) = flC enc_Setting L := by
 obtain ⟨h0, inner, ho, hr⟩ := h
 rw [hn] at ho
 obtain ⟨C, a1, a2, a3, a4, a5, a6⟩ := ownsRow_cells ho
 refine ⟨h0 g rfl, C, a1, a2, a3, a4, a5, ?_⟩
 have a6' : C.take (n * 2) = inner := a6
 rw [a6']
 exact reps_flC (fun x cs hx => k96_openM hx) L inner hr
theorem R_Setting_made {w : World} {base : Nat} {P0 : Nat → Prop} {g n c : Nat} {L : List S96} {C : List Value} (hn : L.length = n) (hg : P0 g) (a1 : w.heap[g]? = some (.cells C.toArray 96 (0, 0))) (a2 : base ≤ g) (a3 : n ≤ c) (a4 : c ≤ maxLen) (a5 : C.length = c * 2) (a6 : C.take (n * 2) = flC enc_Setting L) : Kd.R k96 96 w base P0 (.slice (some ⟨g, 0, none⟩) n c) L := by
 refine ⟨fun k hk => ?_, flC enc_Setting L, ⟨?_, .inr ⟨g, c, C.toArray, ?_, a2, a1, ?_, a4, ?_, ?_⟩⟩, flC_reps (d := 2) (fun _ => rfl) (fun x => k96_mkM w base _ x) L⟩
 ·
  have e : g = k := by simpa [Value.ownBlock] using hk
  exact e ▸ hg
 ·
  exact flC_len (enc := enc_Setting) (d := 2) (fun _ => rfl) L
 ·
  rw [hn]
 ·
  rw [hn]; exact a3
 ·
  show C.toArray.size = c * 2
  simpa using a5
 ·
  show (C.toArray.toList).take (L.length * 2) = _
  rw [hn]; simpa using a6
theorem enc_Setting_one (x : S96) : ∀ v ∈ enc_Setting x, v.oneCell' = true := by
 intro v hv
 have h : (enc_Setting x).all (fun v => v.oneCell') = true := rfl
 exact List.all_eq_true.1 h v hv
set_option maxHeartbeats 4000000 in
set_option maxRecDepth 100000 in
theorem ins_Setting_shift (L : List S96) (x : S96) (g bx i n c : Nat) (w0 w : World) (P0 : Nat → Prop) (hB : Below w0.heap.size w0 w) (hn : L.length = n) (hi : i < n) (hroom : n + 1 ≤ c) (ho : Kd.R k96 96 w w0.heap.size P0 (.slice (some ⟨g, 0, none⟩) n c) L) (hx : w.heap[bx]? = some (.cells (enc_Setting x).toArray 96 (0, 0))) (hne : bx ≠ g) :
 Calls Tryd.prog 58 #[.slice (some ⟨g, 0, none⟩) n c, .int .i64 (i : Int), .slice (some ⟨bx, 0, none⟩) 1 1] w fun e w' => ∃ v', e = .returned v' ∧ Kd.R k96 96 w' w0.heap.size P0 v' (L.take i ++ x :: L.drop i) ∧ Below w0.heap.size w0 w' := by
 obtain ⟨hP, C, a1, a2, a3, a4, a5, a6⟩ := R_Setting_cells hn ho
 have hc63 : c ≤ 9223372036854775807 := by unfold maxLen at a4; omega
 have hu42 := Tryd.underlying26
 obtain ⟨i0, hi0, hh⟩ := Option.map_eq_some_iff.1 info96
 simp only [Prod.mk.injEq] at hh
 have hi4 : i0.size = 2 := hh.2.1
 have hsz4 : (Tryd.prog.info? 96).map (·.size) = some 2 := by rw [hi0]; simp [hi4]
 have hso : ∀ W : World, (Go.sizeOf 96).run Tryd.prog W = .ok 2 W := fun W => by simp [Go.sizeOf, typeInfo, hi0, hi4]
 have hov : ∀ lb cb, (callFunc 114 #[.slice (some ⟨bx, 0, none⟩) 1 1, .slice (some ⟨g, (i + 1) * 2, none⟩) lb cb]).run Tryd.prog w = .ok (.value (.bool false)) w := fun lb cb => by
  rw [run_callFunc_extern Tryd.func114 (by kernel_rfl) (by kernel_rfl) (by kernel_rfl) (e := Extern.SlicesOverlaps.overlaps #[26, 26] #[4]) (by kernel_rfl),
   Lib.run_overlaps_apart w 26 4 96 hu42 2 hso ⟨bx, 0, none⟩ ⟨g, (i + 1) * 2, none⟩ 1 1 lb cb hne 96 96 2 C.length (by simp [World.shape?, hx, enc_Setting]) (by simp [World.shape?, a1]) (by omega) (by simp [World.frozen?, hx]) (by simp [World.frozen?, hx])]
  rfl
 have HB := Aside0.mk hB
 have A1 := Aside0.mk a1
 have AX := Aside0.mk hx
 clear hx a1 ho
 have hz2 : ¬ ((i : Int) = (n : Int)) := by omega
 have hw1 : IntKind.i64.wrap ((i : Int) + 1) = (i : Int) + 1 := by rw [IntKind.wrap_i64]; omega
 have hw2 : IntKind.i64.wrap ((n : Int) + 1) = (n : Int) + 1 := by rw [IntKind.wrap_i64]; omega
 have hb1 : (0 : Int) ≤ (i : Int) + 1 := by omega
 have hin : i ≤ n := by omega
 have htn : ((i : Int) + 1).toNat = i + 1 := by omega
 have hb2 : ¬ (c = i + 1) := by omega
 have hb3 : (i : Int) ≤ (n : Int) + 1 := by omega
 have hb4 : ¬ (c = i) := by omega
 go_enter Tryd.func58, Tryd.ntmps58
 go_wp2_with (simp only [hov])
 obtain ⟨X, hX⟩ : ∃ X, X = flC enc_Setting (L.drop i) := ⟨_, rfl⟩
 have hXl : X.length = (n - i) * 2 := by rw [hX, flC_len (enc := enc_Setting) (d := 2) (fun _ => rfl), List.length_drop, hn]
 have hXc : ∀ j v, X[j]? = some v → C[i * 2 + j]? = some v := fun j v h => by
  rw [hX, flC_drop (enc := enc_Setting) (d := 2) (fun _ => rfl) L i (by omega), ← a6, List.getElem?_drop, List.getElem?_take] at h
  split at h
  ·
   exact h
  ·
   cases h
 have h1X : ∀ v ∈ X, v.oneCell' = true := fun v hv => flC_one (fun y u hu => enc_Setting_one y u hu) (L.drop i) v (hX ▸ hv)
 have HX := Aside0.mk hX
 clear hX
 have mixed : Tryd.prog.follows Departure.mixedOrders = true := by kernel_rfl
 go_region_law_o (refine step_copyD rfl _ _ 26 26 rfl 96 hu42 2 hsz4 g ((i + 1) * 2) (n + 1 - (i + 1)) (c - (i + 1)) ⟨g, i * 2, none⟩ (n + 1 - i) (c - i) (by simp [Act.eval, Act.put]) (by simp [Act.eval, Act.put]) C 96 A1.out X (by rw [hXl]; congr 1; simp only [Nat.min_def]; split <;> omega) (fun j v hv => blkC_cell (w := w.drew) A1.out _ _ _ (hXc j v hv)) (by rw [hXl, a5]; omega) h1X ?_; intro w4 hG4 hS4 hO4 hB4)
 have HC4 := Aside0.mk hG4.out
 have HS4 := Aside0.mk hS4.out
 have HO4 := Aside0.mk hO4.out
 have HB4 := Aside0.mk hB4.out
 clear hG4 hS4 hO4 hB4
 have hm2 : (enc_Setting x).length = Nat.min 1 (n + 1 - i) * 2 := by
  have e : Nat.min 1 (n + 1 - i) = 1 := by simp only [Nat.min_def]; split <;> omega
  rw [e]; rfl
 have hf2 : i * 2 + (enc_Setting x).length ≤ (splice C ((i + 1) * 2) X).length := by
  have e : (enc_Setting x).length = 2 := rfl
  rw [length_splice _ _ _ (by rw [hXl, a5]; omega), e, a5]; omega
 go_wp2_with ((with_reducible refine gate_dst (N := 82) rfl ?_); refine wpList_copyD rfl (.tmp 80) (.tmp 81) 26 26 rfl 96 hu42 2 hsz4 g (i * 2) (n + 1 - i) (c - i) ⟨bx, 0, none⟩ 1 1 rfl rfl (splice C ((i + 1) * 2) X) 96 HC4.out (enc_Setting x) hm2 (fun j v hv => blkC_cell ((HO4.out bx hne).trans AX.out) _ _ _ (by rw [Nat.zero_add]; exact hv)) hf2 (enc_Setting_one x) ?_; intro w5 hG5 hS5 hO5 hB5; have HC5 := Aside0.mk hG5.out; have HS5 := Aside0.mk hS5.out; have HO5 := Aside0.mk hO5.out; have HB5 := Aside0.mk hB5.out; clear hG5 hS5 hO5 hB5)
 go_ret
 have hs := splice2_flC (enc := enc_Setting) (d := 2) (fun _ => rfl) L x C i n hn (by omega) a6 (by rw [a5]; omega)
 rw [← HX.out] at hs
 exact ⟨_, rfl, R_Setting_made (by rw [List.length_append, List.length_take, List.length_cons, List.length_drop]; omega) hP HC5.out a2 hroom a4 (by rw [hs.1, a5]) hs.2, HB5.out _ _ (HB4.out _ _ (below_drew1 HB.out) a2) a2⟩
set_option maxHeartbeats 4000000 in
set_option maxRecDepth 100000 in
theorem ins_Setting_grow (L : List S96) (x : S96) (g bx i n c : Nat) (w0 w : World) (P0 : Nat → Prop) (hB : Below w0.heap.size w0 w) (hn : L.length = n) (hi : i < n) (hroom : c < n + 1) (ho : Kd.R k96 96 w w0.heap.size P0 (.slice (some ⟨g, 0, none⟩) n c) L) (hx : w.heap[bx]? = some (.cells (enc_Setting x).toArray 96 (0, 0))) (hlen : (n + 1) * 24 ≤ 140737488355328) :
 Calls Tryd.prog 58 #[.slice (some ⟨g, 0, none⟩) n c, .int .i64 (i : Int), .slice (some ⟨bx, 0, none⟩) 1 1] w fun e w' => ∃ v', e = .returned v' ∧ Kd.R k96 96 w' w0.heap.size (fun k => w.heap.size ≤ k) v' (L.take i ++ x :: L.drop i) ∧ Below w0.heap.size w0 w' := by
 obtain ⟨hP, C, a1, a2, a3, a4, a5, a6⟩ := R_Setting_cells hn ho
 have hc63 : c ≤ 9223372036854775807 := by unfold maxLen at a4; omega
 have hgw : g < w.heap.size := blk_lt a1
 have hxw : bx < w.heap.size := blk_lt hx
 have hu42 := Tryd.underlying26
 obtain ⟨i0, hi0, hh⟩ := Option.map_eq_some_iff.1 info96
 simp only [Prod.mk.injEq] at hh
 have hi4 : i0.size = 2 := hh.2.1
 have hsz4 : (Tryd.prog.info? 96).map (·.size) = some 2 := by rw [hi0]; simp [hi4]
 clear hh hi0 hi4
 have HB := Aside0.mk hB
 have A1 := Aside0.mk a1
 have AX := Aside0.mk hx
 clear hx a1 ho
 have hz2 : ¬ ((i : Int) = (n : Int)) := by omega
 have hz3 : (c : Int) < (n : Int) + 1 := by omega
 have hkk : (n : Int) + 1 - (i : Int) = ((n + 1 - i : Nat) : Int) := by omega
 have hw1 : IntKind.i64.wrap ((i : Int) + 1) = (i : Int) + 1 := by rw [IntKind.wrap_i64]; omega
 have hw2 : IntKind.i64.wrap ((n : Int) + 1) = (n : Int) + 1 := by rw [IntKind.wrap_i64]; omega
 have hb1 : (0 : Int) ≤ (i : Int) + 1 := by omega
 have hin : i ≤ n := by omega
 have htn : ((i : Int) + 1).toNat = i + 1 := by omega
 have hci : ¬ (c = i) := by omega
 have hTc : ∀ j v, (flC enc_Setting (L.take i))[j]? = some v → w.cell? ⟨g, j, none⟩ = some v := fun j v h => by
  rw [flC_take (enc := enc_Setting) (d := 2) (fun _ => rfl) L i (by omega), ← a6, List.take_take, List.getElem?_take] at h
  split at h
  ·
   have := blkC_cell A1.out 0 j v (by rw [Nat.zero_add]; exact h)
   rwa [Addr.add_lit, Nat.zero_add] at this
  ·
   cases h
 have hTl : (flC enc_Setting (L.take i)).length = i * 2 := by rw [flC_len (enc := enc_Setting) (d := 2) (fun _ => rfl), List.length_take, hn, Nat.min_eq_left hin]
 obtain ⟨T, hT⟩ : ∃ T, T = flC enc_Setting (L.take i) := ⟨_, rfl⟩
 rw [← hT] at hTc hTl
 have HT := Aside0.mk hT
 have HTc := Aside0.mk hTc
 clear hT hTc
 obtain ⟨X, hX⟩ : ∃ X, X = flC enc_Setting (L.drop i) := ⟨_, rfl⟩
 have hXl : X.length = (n - i) * 2 := by rw [hX, flC_len (enc := enc_Setting) (d := 2) (fun _ => rfl), List.length_drop, hn]
 have hXc : ∀ j v, X[j]? = some v → C[i * 2 + j]? = some v := fun j v h => by
  rw [hX, flC_drop (enc := enc_Setting) (d := 2) (fun _ => rfl) L i (by omega), ← a6, List.getElem?_drop, List.getElem?_take] at h
  split at h
  ·
   exact h
  ·
   cases h
 have h1X : ∀ v ∈ X, v.oneCell' = true := fun v hv => flC_one (fun y u hu => enc_Setting_one y u hu) (L.drop i) v (hX ▸ hv)
 have HX := Aside0.mk hX
 clear hX
 have hm2 : (enc_Setting x).length = Nat.min 1 (n + 1 - i) * 2 := by
  have e : Nat.min 1 (n + 1 - i) = 1 := by simp only [Nat.min_def]; split <;> omega
  rw [e]; rfl
 have he4 : (enc_Setting x).length = 2 := rfl
 have mixed : Tryd.prog.follows Departure.mixedOrders = true := by kernel_rfl
 go_enter Tryd.func58, Tryd.ntmps58
 go_wp2_with (first | ((with_reducible refine gate_dst (N := 40) rfl ?_); refine wpList_growz rfl (.tmp 34) (.tmp 39) 26 3 96 (.agg #[(.string ⟨#[]⟩), (.int .i64 0)]) 2 24 rfl hu42 (kn := .i64) rfl info96 rfl (by decide) (by decide) g i c (n + 1 - i) (n + 1) (by omega) T (kx := .i64) rfl (by rw [← hkk]; rfl) (by omega) (by omega) hTl HTc.out (by omega) ?_; intro G w4 M hG1 hG2 hG3 hG4 hG5 hG6; have hGa : ¬ (G = i) := (fun e => by have := hG1.out.1; omega); have hGb : ¬ (G = i + 1) := (fun e => by have := hG1.out.1; omega); have hGc : n + 1 ≤ G := hG1.out.1; have hGd : G ≤ 9223372036854775807 := (by have := hG1.out.2; unfold maxLen at this; omega); have KG := Aside0.mk hG1.out; have KC := Aside0.mk hG2.out; have KL := Aside0.mk hG3.out; have KS := Aside0.mk hG4.out; have KO := Aside0.mk hG5.out; have KB := Aside0.mk hG6.out; clear hG1 hG2 hG3 hG4 hG5 hG6) | ((with_reducible refine gate_dst (N := 45) rfl ?_); refine wpList_copyD rfl (.tmp 43) (.tmp 44) 26 26 rfl 96 hu42 2 hsz4 w.heap.size (i * 2) (n + 1 - i) (G - i) ⟨bx, 0, none⟩ 1 1 rfl rfl (T ++ M) 96 KC.out (enc_Setting x) hm2 (fun j v hv => blkC_cell ((KO.out bx hxw).trans AX.out) _ _ _ (by rw [Nat.zero_add]; exact hv)) (by rw [KL.out, he4]; omega) (enc_Setting_one x) ?_; intro w5 hG5 hS5 hO5 hB5; have HC5 := Aside0.mk hG5.out; have HS5 := Aside0.mk hS5.out; have HO5 := Aside0.mk hO5.out; have HB5 := Aside0.mk hB5.out; clear hG5 hS5 hO5 hB5))
 have hg5 : w5.drew.heap[g]? = some (.cells C.toArray 96 (0, 0)) := (HO5.out g (by omega)).trans ((KO.out g hgw).trans A1.out)
 have hl5 : (splice (T ++ M) (i * 2) (enc_Setting x)).length = G * 2 := by rw [length_splice _ _ _ (by rw [KL.out, he4]; omega), KL.out]
 have H5g := Aside0.mk hg5
 have H5l := Aside0.mk hl5
 clear hg5 hl5
 go_region_law_o (refine step_copyD rfl _ _ 26 26 rfl 96 hu42 2 hsz4 w.heap.size ((i + 1) * 2) (n + 1 - (i + 1)) (G - (i + 1)) ⟨g, i * 2, none⟩ (n - i) (c - i) (by simp [Act.eval, Act.put]) (by simp [Act.eval, Act.put]) (splice (T ++ M) (i * 2) (enc_Setting x)) 96 HC5.out X (by rw [hXl]; congr 1; simp only [Nat.min_def]; split <;> omega) (fun j v hv => blkC_cell (w := w5.drew) H5g.out _ _ _ (hXc j v hv)) (by rw [hXl, H5l.out]; omega) h1X ?_; intro w6 hG6 hS6 hO6 hB6)
 have HC6 := Aside0.mk hG6.out
 have HB6 := Aside0.mk hB6.out
 clear hG6 hS6 hO6 hB6
 go_wp2
 go_ret
 have hs := spliceG_flC (enc := enc_Setting) (d := 2) (fun _ => rfl) L x M i n G hn hin KG.out.1 (by rw [← HT.out]; exact KL.out)
 rw [← HT.out, ← HX.out] at hs
 have hbase : w0.heap.size ≤ w.heap.size := HB.out.size
 have hb4 : Below w0.heap.size w0 w4 := HB.out.trans (KB.out.mono hbase)
 exact ⟨_, rfl, R_Setting_made (by rw [List.length_append, List.length_take, List.length_cons, List.length_drop]; omega) (Nat.le_refl _) HC6.out hbase KG.out.1 KG.out.2 hs.1 hs.2, HB6.out _ _ (below_drew1 (HB5.out _ _ hb4 hbase)) hbase⟩
theorem ins_Setting (L : List S96) (x : S96) (i bx : Nat) (v : Value) (w0 w : World) (P0 : Nat → Prop) (hB : Below w0.heap.size w0 w) (ho : Kd.R k96 96 w w0.heap.size P0 v L) (hi : i ≤ L.length) (hx : w.heap[bx]? = some (.cells (enc_Setting x).toArray 96 (0, 0))) (hne : v.ownBlock ≠ some bx) (hlen : (L.length + 1) * 24 ≤ 140737488355328) :
 Calls Tryd.prog 58 #[v, .int .i64 (i : Int), .slice (some ⟨bx, 0, none⟩) 1 1] w fun e w' => ∃ v', e = .returned v' ∧ Kd.R k96 96 w' w0.heap.size (fun k => P0 k ∨ w.heap.size ≤ k) v' (L.take i ++ x :: L.drop i) ∧ Below w0.heap.size w0 w' := by
 obtain ⟨A, c, rfl, hnc, hC⟩ := Kd.R_reads ho
 have hA : (A = none ∧ L.length = 0 ∧ c = 0) ∨ ∃ g, A = some ⟨g, 0, none⟩ := by
  obtain ⟨_, inner, ⟨_, h2⟩, _⟩ := ho
  rcases h2 with ⟨h2, h3⟩ | ⟨g, cap, cur, hv, _⟩
  ·
   injection h2 with h4 h5 h6
   exact .inl ⟨h4, h3, h6⟩
  ·
   injection hv with h4 h5 h6
   exact .inr ⟨g, h4⟩
 by_cases hend : i = L.length
 ·
  subst hend
  have hcx : Kd.C k96 w (some ⟨bx, 0, none⟩) 1 [x] := by
   refine ⟨rfl, by omega, fun _ => ⟨_, rfl, fun j p hp => ?_⟩⟩
   cases j with
   | zero =>
    obtain rfl : x = p := by simpa using hp
    exact ⟨enc_Setting x, rfl, k96_mk w x, fun t u hu => by
     have := blkC_cell hx 0 t u (by rw [Nat.zero_add]; exact hu)
     rw [Addr.add_lit, Nat.zero_add] at this
     rw [Addr.add_lit, Nat.zero_mul, Nat.zero_add, Nat.zero_add]
     exact this⟩
   | succ j => simp at hp
  rw [List.take_length, List.drop_length]
  exact ins_Setting_end L x A _ L.length c 1 w0 w P0 hB rfl hnc ho (fun e => by
   rcases hA with h | ⟨g, h⟩
   ·
    exact ⟨h.2.1, h.2.2⟩
   ·
    rw [h] at e; cases e) hcx (Nat.le_refl _) hlen
 ·
  have hlt : i < L.length := by omega
  rcases hA with h | ⟨g, rfl⟩
  ·
   omega
  ·
   by_cases hr : L.length + 1 ≤ c
   ·
    refine (ins_Setting_shift L x g bx i L.length c w0 w P0 hB rfl hlt hr ho hx (fun e => hne (by simp [Value.ownBlock, e]))).mono fun e w' ⟨v', h1, h2, h3⟩ => ⟨v', h1, Kd.R_mono h2 fun _ h => .inl h, h3⟩
   ·
    refine (ins_Setting_grow L x g bx i L.length c w0 w P0 hB rfl hlt (by omega) ho hx hlen).mono fun e w' ⟨v', h1, h2, h3⟩ => ⟨v', h1, Kd.R_mono h2 fun _ h => .inr h, h3⟩

theorem run_clearD {P : Program} (w : World) (sT ty elem : TypeId) (z : Value) (zs : List Value) (g off n c : Nat) (cur : Array Value) (t : TypeId)
  (hu : P.underlying sT = some (.slice elem)) (hv : ∀ w, (zeroValue elem).run P w = .ok z w) (hz : (Builtin.zeroCells z.cells n).toList = zs) (hn : 0 < n)
  (hg : w.heap[g]? = some (.cells cur t (0, 0))) (hfit : off + zs.length ≤ cur.size) (h1 : ∀ v ∈ zs, v.oneCell' = true) :
  (Builtin.clear_ #[sT] ty #[.slice (some ⟨g, off, none⟩) n c]).run P w = .ok (.tuple #[]) (w.setRow g (cur.toList.take off ++ zs ++ cur.toList.drop (off + zs.length)).toArray) := by
 have hst := run_storeCells_at P g off t zs 0 cur w hg (by simpa using hfit) h1
 simp only [Nat.add_zero] at hst
 obtain ⟨m, rfl⟩ : ∃ m, n = m + 1 := ⟨n - 1, by omega⟩
 simp [Builtin.clear_, run_underlying hu, hv, hz, hst]
theorem setCells_setRow {w : World} {g off : Nat} {t : TypeId} {cur : Array Value} {cs : List Value} (hg : w.heap[g]? = some (.cells cur t (0, 0))) (hfit : off + cs.length ≤ cur.size) (h1 : ∀ v ∈ cs, v.oneCell' = true) :
  w.setCells g off cs = w.setRow g (cur.toList.take off ++ cs ++ cur.toList.drop (off + cs.length)).toArray := by
 have a := run_storeCells_at default g off t cs 0 cur w hg (by simpa using hfit) h1
 have b := run_storeCells_cells (P := default) g off cs 0 w (fun j hj => by
  simp only [Nat.add_zero]
  simp only [World.cell?, hg]
  rw [Array.getElem?_eq_getElem (by omega)]
  rfl) (fun j hj => by simp [World.frozen?, hg]) h1
 simp only [Nat.add_zero] at a b
 rw [a] at b
 injection b with _ b
 exact b.symm
theorem splice_del {α : Type} {enc : α → List Value} {d : Nat} (hl : ∀ x, (enc x).length = d) (L : List α) (C zs : List Value) (i n : Nat) (hn : L.length = n) (hi : i < n) (hC : C.take (n * d) = flC enc L) (hcap : n * d ≤ C.length) (hz : zs.length = d) :
  (splice (splice C (i * d) (flC enc (L.drop (i + 1)))) ((i + (n - (i + 1))) * d) zs).length = C.length ∧ (splice (splice C (i * d) (flC enc (L.drop (i + 1)))) ((i + (n - (i + 1))) * d) zs).take ((i + (n - (i + 1))) * d) = flC enc (L.take i ++ L.drop (i + 1)) := by
 have hX : (flC enc (L.drop (i + 1))).length = (n - (i + 1)) * d := by rw [flC_len hl, List.length_drop, hn]
 have e1 : i * d + (n - (i + 1)) * d = (i + (n - (i + 1))) * d := by rw [← Nat.add_mul]
 have e2 : (i + (n - (i + 1))) * d + d = n * d := by
  rw [← Nat.succ_mul]; congr 1; omega
 have h1 : (splice C (i * d) (flC enc (L.drop (i + 1)))).length = C.length := length_splice _ _ _ (by rw [hX]; omega)
 have h2 : (splice (splice C (i * d) (flC enc (L.drop (i + 1)))) ((i + (n - (i + 1))) * d) zs).length = C.length := by
  rw [length_splice _ _ _ (by rw [hz, h1]; omega), h1]
 refine ⟨h2, ?_⟩
 have e3 : (flC enc (L.take i)).length = i * d := by rw [flC_len hl, List.length_take, Nat.min_eq_left (by omega)]
 have e5 : C.take (i * d) = flC enc (L.take i) := by rw [flC_take hl L i (by omega), ← hC, List.take_take, Nat.min_eq_left (by omega)]
 have e4 : (splice C (i * d) (flC enc (L.drop (i + 1)))).take ((i + (n - (i + 1))) * d) = flC enc (L.take i ++ L.drop (i + 1)) := by
  have e7 : splice C (i * d) (flC enc (L.drop (i + 1))) = flC enc (L.take i ++ L.drop (i + 1)) ++ C.drop (i * d + (flC enc (L.drop (i + 1))).length) := by
   unfold splice
   rw [e5, flC_append]
   try simp only [List.append_assoc]
  rw [e7, List.take_left' (by rw [flC_append, List.length_append, e3, hX, e1])]
 have e6 : ∀ (S : List Value) (k : Nat), k ≤ S.length → (splice S k zs).take k = S.take k := fun S k hk => by
  have e8 : splice S k zs = S.take k ++ (zs ++ S.drop (k + zs.length)) := by
   unfold splice
   try simp only [List.append_assoc]
  rw [e8, List.take_left' (by rw [List.length_take]; omega)]
 rw [e6 _ _ (by rw [h1]; omega), e4]

set_option maxHeartbeats 4000000 in
set_option maxRecDepth 100000 in
theorem del_Setting_at (L : List S96) (g i n c : Nat) (w0 w : World) (P0 : Nat → Prop) (hB : Below w0.heap.size w0 w) (hn : L.length = n) (hi : i < n) (ho : Kd.R k96 96 w w0.heap.size P0 (.slice (some ⟨g, 0, none⟩) n c) L) :
 Calls Tryd.prog 59 #[.slice (some ⟨g, 0, none⟩) n c, .int .i64 (i : Int), .int .i64 ((i : Int) + 1)] w fun e w' => ∃ v', e = .returned v' ∧ Kd.R k96 96 w' w0.heap.size P0 v' (L.take i ++ L.drop (i + 1)) ∧ Below w0.heap.size w0 w' := by
 obtain ⟨hP, C, a1, a2, a3, a4, a5, a6⟩ := R_Setting_cells hn ho
 have hc63 : c ≤ 9223372036854775807 := by unfold maxLen at a4; omega
 have hu42 := Tryd.underlying26
 obtain ⟨i0, hi0, hh⟩ := Option.map_eq_some_iff.1 info96
 simp only [Prod.mk.injEq] at hh
 have hi4 : i0.size = 2 := hh.2.1
 have hsz4 : (Tryd.prog.info? 96).map (·.size) = some 2 := by rw [hi0]; simp [hi4]
 have hzv : ∀ W : World, (zeroValue 96).run Tryd.prog W = .ok (.agg #[(.string ⟨#[]⟩), (.int .i64 0)]) W := fun W => by simp [zeroValue, typeInfo, hi0, hh.1]
 clear hh
 have hnc : n * 2 ≤ C.length := by rw [a5]; exact Nat.mul_le_mul_right _ a3
 obtain ⟨X, hX⟩ : ∃ X, X = flC enc_Setting (L.drop (i + 1)) := ⟨_, rfl⟩
 have hXl : X.length = (n - (i + 1)) * 2 := by rw [hX, flC_len (enc := enc_Setting) (d := 2) (fun _ => rfl), List.length_drop, hn]
 have hXc : ∀ j v, X[j]? = some v → C[(i + 1) * 2 + j]? = some v := fun j v h => by
  rw [hX, flC_drop (enc := enc_Setting) (d := 2) (fun _ => rfl) L (i + 1) (by omega), ← a6, List.getElem?_drop, List.getElem?_take] at h
  split at h
  ·
   exact h
  ·
   cases h
 have s2 : Hid (∀ v ∈ X, v.oneCell' = true) := fun v hv => flC_one (fun y u hu => enc_Setting_one y u hu) (L.drop (i + 1)) v (hX ▸ hv)
 obtain ⟨A, hA, hsrc⟩ : ∃ A : Addr, (if c = i + 1 then some (⟨g, 0, none⟩ : Addr) else some ⟨g, (i + 1) * 2, none⟩) = some A ∧ Hid (∀ t u, X[t]? = some u → w.drew.cell? (A.add t) = some u) := by
  by_cases h : c = i + 1
  ·
   refine ⟨⟨g, 0, none⟩, by simp [h], fun t u hu => ?_⟩
   have h0 : X.length = 0 := by rw [hXl, show n - (i + 1) = 0 by omega, Nat.zero_mul]
   rw [List.length_eq_zero_iff.1 h0] at hu
   simp at hu
  ·
   exact ⟨⟨g, (i + 1) * 2, none⟩, by simp [h], fun t u hu => blkC_cell (w := w.drew) a1 _ _ _ (hXc t u hu)⟩
 have s1 : Hid (X.length = (n - (i + 1)) * 2) := hXl
 have s3 : Hid (∀ t, t < X.length → (w.drew.cell? ⟨g, 0 + i * 2 + t, none⟩).isSome = true ∧ w.drew.frozen? ⟨g, 0 + i * 2 + t, none⟩ = false) := by
  intro t ht
  rw [hXl] at ht
  have a1' : w.drew.heap[g]? = some (.cells C.toArray 96 (0, 0)) := a1
  refine ⟨?_, by simp [World.frozen?, a1']⟩
  simp only [World.cell?, a1']
  have : (n - (i + 1)) * 2 + i * 2 ≤ n * 2 := by rw [← Nat.add_mul]; exact Nat.mul_le_mul_right _ (by omega)
  rw [Array.getElem?_eq_getElem (by show _ < C.length; omega)]
  rfl
 have hfitX : 0 + i * 2 + X.length ≤ C.length := by
  have : (n - (i + 1)) * 2 + i * 2 ≤ n * 2 := by rw [← Nat.add_mul]; exact Nat.mul_le_mul_right _ (by omega)
  omega
 -- the world behind the append, behind a name
 obtain ⟨W1, hW1⟩ : ∃ W1, W1 = w.drew.setCells g (0 + i * 2) X := ⟨_, rfl⟩
 have hW1r : W1 = w.drew.setRow g (splice C (i * 2) X).toArray := by
  rw [hW1, setCells_setRow (w := w.drew) (cur := C.toArray) a1 (by simpa using hfitX) s2.out]
  simp [splice, Nat.zero_add]
 have b1 : W1.heap[g]? = some (.cells (splice C (i * 2) X).toArray 96 (0, 0)) := by
  rw [hW1r]; exact setRow_heap w.drew g _ _ 96 _ a1
 have hb1 : Below w0.heap.size w0 W1 := by rw [hW1r]; exact below_setRow (below_drew1 hB) a2 _
 have hs := splice_del (enc := enc_Setting) (d := 2) (fun _ => rfl) L C [(.string ⟨#[]⟩), (.int .i64 0)] i n hn hi a6 hnc rfl
 rw [← hX] at hs
 have hmd : (i + (n - (i + 1))) * 2 + 2 ≤ (splice C (i * 2) X).length := by
  rw [length_splice _ _ _ (by omega)]
  have : (i + (n - (i + 1))) * 2 + 2 = n * 2 := by
   rw [← Nat.succ_mul]; congr 1; omega
  omega
 obtain ⟨W2, hW2⟩ : ∃ W2, W2 = W1.setRow g (splice (splice C (i * 2) X) ((i + (n - (i + 1))) * 2) [(.string ⟨#[]⟩), (.int .i64 0)]).toArray := ⟨_, rfl⟩
 have b2 : W2.heap[g]? = some (.cells (splice (splice C (i * 2) X) ((i + (n - (i + 1))) * 2) [(.string ⟨#[]⟩), (.int .i64 0)]).toArray 96 (0, 0)) := by
  rw [hW2]; exact setRow_heap W1 g _ _ 96 _ b1
 have hb2 : Below w0.heap.size w0 W2 := by rw [hW2]; exact below_setRow hb1 a2 _
 have hcl : ∀ ty, (Builtin.clear_ #[26] ty #[.slice (some ⟨g, (i + (n - (i + 1))) * 2, none⟩) (n - (i + (n - (i + 1)))) (c - (i + (n - (i + 1))))]).run Tryd.prog W1 = .ok (.tuple #[]) W2 := fun ty => by
  rw [run_clearD W1 26 ty 96 (.agg #[(.string ⟨#[]⟩), (.int .i64 0)]) [(.string ⟨#[]⟩), (.int .i64 0)] g _ _ _ (splice C (i * 2) X).toArray 96 hu42 hzv (by rw [show n - (i + (n - (i + 1))) = 1 by omega]; first | rfl | kernel_rfl | (simp [Builtin.zeroCells, Value.cells]; done) | (simp [Builtin.zeroCells, Value.cells, Array.ofFn, List.ofFn]; done)) (by omega) b1 (by simpa using hmd) (by intro v hv; have h : ([(.string ⟨#[]⟩), (.int .i64 0)] : List Value).all (fun v => v.oneCell') = true := rfl; exact List.all_eq_true.1 h v hv), hW2]
  simp [splice]
 have HR := Aside0.mk (show Kd.R k96 96 W2 w0.heap.size P0 (.slice (some ⟨g, 0, none⟩) (i + (n - (i + 1))) c) (L.take i ++ L.drop (i + 1)) from R_Setting_made (by rw [List.length_append, List.length_take, List.length_drop]; omega) hP b2 a2 (by omega) a4 (by rw [hs.1, a5]) hs.2)
 have HB := Aside0.mk hb2
 have hW : Hid (W1 = w.drew.setCells g (0 + i * 2) X) := hW1
 have hic : i ≤ c := by omega
 have hjc : i + 1 ≤ c := by omega
 have hcm : ¬ (c = i + (n - (i + 1))) := by omega
 have hne : ¬ ((i : Int) = (i : Int) + 1) := by omega
 have htn : ((i : Int) + 1).toNat = i + 1 := by omega
 have hb0 : (0 : Int) ≤ (i : Int) + 1 := by omega
 have hin : i + 1 ≤ n := by omega
 have hin2 : (i : Int) + 1 ≤ (n : Int) := by omega
 have hii : (i : Int) ≤ (i : Int) + 1 := by omega
 have mixed : Tryd.prog.follows Departure.mixedOrders = true := by kernel_rfl
 clear hW1 hW1r b1 hb1 hs hmd b2 hb2 hW2 hX hXl hXc a1 a5 a6 ho hB hfitX hsz4
 go_enter Tryd.func59, Tryd.ntmps59
 go_wp2_with fail
 go_region_law_o (refine step_append_room rfl (.tmp 22) (.tmp 25) 26 rfl 96 i0 2 hu42 hi0 hi4 g 0 i c (by simp [Act.eval, Act.put]) A (n - (i + 1)) (c - (i + 1)) X (by simp [Act.eval, Act.put]) s1.out hsrc.out s2.out (by omega) s3.out ?_; rw [← hW.out])
 go_wp2
 go_ret
 exact ⟨_, rfl, HR.out, HB.out⟩
theorem del_Setting (L : List S96) (i : Nat) (v : Value) (w0 w : World) (P0 : Nat → Prop) (hB : Below w0.heap.size w0 w) (ho : Kd.R k96 96 w w0.heap.size P0 v L) (hi : i < L.length) :
 Calls Tryd.prog 59 #[v, .int .i64 (i : Int), .int .i64 ((i : Int) + 1)] w fun e w' => ∃ v', e = .returned v' ∧ Kd.R k96 96 w' w0.heap.size P0 v' (L.take i ++ L.drop (i + 1)) ∧ Below w0.heap.size w0 w' := by
 obtain ⟨A, c, rfl, hnc, hC⟩ := Kd.R_reads ho
 have hA : (A = none ∧ L.length = 0 ∧ c = 0) ∨ ∃ g, A = some ⟨g, 0, none⟩ := by
  obtain ⟨_, inner, ⟨_, h2⟩, _⟩ := ho
  rcases h2 with ⟨h2, h3⟩ | ⟨g, cap, cur, hv, _⟩
  ·
   injection h2 with h4 h5 h6
   exact .inl ⟨h4, h3, h6⟩
  ·
   injection hv with h4 h5 h6
   exact .inr ⟨g, h4⟩
 rcases hA with h | ⟨g, rfl⟩
 ·
  omega
 ·
  exact del_Setting_at L g i L.length c w0 w P0 hB rfl hi ho

def impl_ApplyChanges.wr (k : Nat) (x : S100) : Option Bool := if (x.f0 != 1 && x.f0 != 2) = true then some true else (impl_Setting_valid.f k x.f1.f0 x.f1.f1).bind fun t => some (!t)
def impl_ApplyChanges.l0 (k : Nat) : List S100 → List S96 → Option (List S96 × Int)
 | [], out => some (out, 0)
 | c :: r, out => if (out.length + 1) * 24 ≤ 140737488355328 then (bsF_Setting (fun y => impl_compareSettings.f y.f0 y.f1 c.f1.f0 c.f1.f1) out k).bind fun p => if c.f0 = 1 then (if p.2 = true then impl_ApplyChanges.l0 k r (out.set p.1 c.f1) else if (out.length : Int) = 24 then some ([], 5) else impl_ApplyChanges.l0 k r (out.take p.1 ++ c.f1 :: out.drop p.1)) else if p.2 = true then (if ((rd_T96 out (p.1 : Int)).f0.toList == c.f1.f0.toList && (rd_T96 out (p.1 : Int)).f1 == c.f1.f1) = true then impl_ApplyChanges.l0 k r (out.take p.1 ++ out.drop (p.1 + 1)) else some ([], 6)) else some ([], 3) else none
def impl_ApplyChanges.f (k : Nat) (l0 : List S96) (l1 : List S100) : Option (List S96 × Int) :=
 if l1.length ≤ 1048576 then (impl_ValidState.f k l0).bind fun t => if t = true then (idxO (impl_ApplyChanges.wr k) l1 0).bind fun i => (if 0 ≤ i then some ([], 1) else (impl_Setting.f l0).bind fun out => impl_ApplyChanges.l0 k l1 out) else some ([], 1) else none
theorem impl_ApplyChanges.wr_mono (k : Nat) (x : S100) : LeO (impl_ApplyChanges.wr k x) (impl_ApplyChanges.wr (k + 1) x) := by
 unfold impl_ApplyChanges.wr
 exact LeO.ite (LeO.refl _) (LeO.bind (impl_Setting_valid.mono _ _ _) (fun _ => LeO.refl _))
theorem impl_ApplyChanges.mono_l (k : Nat) : ∀ (l : List S100) (out : List S96), LeO (impl_ApplyChanges.l0 k l out) (impl_ApplyChanges.l0 (k + 1) l out)
 | [], _ => LeO.refl _
 | c :: r, out => by
  have ih := impl_ApplyChanges.mono_l k r
  unfold impl_ApplyChanges.l0
  exact LeO.ite (LeO.bind (bsF_Setting_mono (fun _ => LeO.refl _) _ _) (fun p => LeO.ite (LeO.ite (ih _) (LeO.ite (LeO.refl _) (ih _))) (LeO.ite (LeO.ite (ih _) (LeO.refl _)) (LeO.refl _)))) (LeO.none _)
theorem impl_ApplyChanges.mono : ∀ a0 a1 k, LeO (impl_ApplyChanges.f k a0 a1) (impl_ApplyChanges.f (k + 1) a0 a1) := by
 intro a0 a1 k
 unfold impl_ApplyChanges.f
 exact LeO.ite (LeO.bind (impl_ValidState.mono _ _) (fun _ => LeO.ite (LeO.bind (idxO_mono (impl_ApplyChanges.wr_mono k) _ _) (fun _ => LeO.ite (LeO.refl _) (LeO.bind (LeO.refl _) (fun _ => impl_ApplyChanges.mono_l k _ _)))) (LeO.refl _))) (LeO.none _)
theorem eqAS_Setting (d : Nat) (w : World) (x0 y0 : ByteArray) (x1 y1 : Int) :
 (Op.equalIn (d + 2) 96 (.agg #[.string x0, .int .i64 x1]) (.agg #[.string y0, .int .i64 y1])).run Tryd.prog w = .ok (x0.toList == y0.toList && (x1 == y1)) w := by
 refine eqA_of Tryd.underlying96 (by kernel_rfl) ?_
 refine eqf_cons (by rfl) (by go_simp; rfl) (by go_simp; rfl) (by go_simp) ?_
 exact eqf_last (by rfl) (by go_simp; rfl) (by go_simp; rfl) (by go_simp)
attribute [local go_sem high] eqAS_Setting
theorem changes_1 (k : Nat) (x : S100) (b : Bool) (w : World) (h : impl_ApplyChanges.wr k x = some b) : Gives2 Tryd.prog 52 #[] w (.agg #[.int .i64 x.f0, .string x.f1.f0, .int .i64 x.f1.f1]) b := fun W hbel => by
 have hu152 := Tryd.underlying100
 unfold impl_ApplyChanges.wr at h
 by_cases h1 : x.f0 = 1
 ·
  rw [if_neg (by rw [h1]; decide)] at h
  obtain ⟨t, ht, h⟩ := Option.bind_eq_some_iff.1 h
  obtain rfl := Option.some.inj h
  have HT := Aside0.mk ht
  clear h ht
  have e1 : (x.f0 != 1) = false := by rw [h1]; rfl
  go_enter Tryd.func52, Tryd.ntmps52
  go_wp2_with (go_at_call 53; refine (impl_Setting_valid.calls k x.f1.f0 x.f1.f1 t _ HT.out).mono ?_; rintro e w1 ⟨rfl, hb⟩)
  go_ret
  exact ⟨rfl, ((Below.refl _ W).alloc (Nat.le_refl _) _).trans (hb.mono (by simp))⟩
 ·
  by_cases h2 : x.f0 = 2
  ·
   rw [if_neg (by rw [h2]; decide)] at h
   obtain ⟨t, ht, h⟩ := Option.bind_eq_some_iff.1 h
   obtain rfl := Option.some.inj h
   have HT := Aside0.mk ht
   clear h ht
   have e1 : (x.f0 != 1) = true := by rw [h2]; rfl
   have e2 : (x.f0 != 2) = false := by rw [h2]; rfl
   go_enter Tryd.func52, Tryd.ntmps52
   go_wp2_with (go_at_call 53; refine (impl_Setting_valid.calls k x.f1.f0 x.f1.f1 t _ HT.out).mono ?_; rintro e w1 ⟨rfl, hb⟩)
   go_ret
   exact ⟨rfl, ((Below.refl _ W).alloc (Nat.le_refl _) _).trans (hb.mono (by simp))⟩
  ·
   have e1 : (x.f0 != 1) = true := bne_iff_ne.mpr h1
   have e2 : (x.f0 != 2) = true := bne_iff_ne.mpr h2
   rw [if_pos (by rw [e1, e2]; rfl)] at h
   obtain rfl := Option.some.inj h
   clear h
   go_enter Tryd.func52, Tryd.ntmps52
   go_wp2
   go_ret
   exact ⟨rfl, ((Below.refl _ W).alloc (Nat.le_refl _) _)⟩
set_option maxHeartbeats 4000000 in
set_option maxRecDepth 100000 in
theorem impl_ApplyChanges.calls (k : Nat) (A0 : Option Addr) (c0 : Nat) (l0 : List S96) (A1 : Option Addr) (c1 : Nat) (l1 : List S100) (r1 : List S96) (r2 : Int) (w : World) (hr0 : Kd.C k96 w A0 l0.length l0) (hc0 : l0.length ≤ c0) (hr1 : Kd.C k100 w A1 l1.length l1) (hc1 : l1.length ≤ c1) (h : impl_ApplyChanges.f k l0 l1 = some (r1, r2)) :
 Calls Tryd.prog 12 #[.slice A0 l0.length c0, .slice A1 l1.length c1] w fun e w' => ∃ v0_ : Value, e = .returned (.tuple #[v0_, .int .i64 r2]) ∧ Kd.R k96 96 w' w.heap.size (fun _ => True) v0_ r1 ∧ Below w.heap.size w w' := by
 unfold impl_ApplyChanges.f at h
 by_cases hlen : l1.length ≤ 1048576
 ·
  rw [if_pos hlen] at h
  have hu152 := Tryd.underlying100
  have hu150 := Tryd.underlying96
  have HR0 := Aside0.mk hr0
  have HC0 := Aside0.mk hc0
  have HR1 := Aside0.mk hr1
  clear hr0 hc0 hr1 hc1
  obtain ⟨t, ht, h⟩ := Option.bind_eq_some_iff.1 h
  have HV := Aside0.mk (fun W (hb : Below w.heap.size w W) => impl_ValidState.calls k A0 c0 l0 t W (Kd.C_below HR0.out hb) HC0.out ht)
  clear ht
  cases t with
  | false =>
   simp only [Bool.false_eq_true, if_false] at h
   obtain ⟨rfl, rfl⟩ := Prod.mk.injEq _ _ _ _ ▸ Option.some.inj h
   go_enter Tryd.func12, Tryd.ntmps12
   go_wp2_with (go_at_call 50; refine (HV.out _ (Below.refl _ _)).mono ?_; rintro e w1 ⟨rfl, hb⟩)
   go_ret2
   exact ⟨_, rfl, Kd.R_nil _ _ _ _ _, hb⟩
  | true =>
   simp only [if_true] at h
   obtain ⟨ix, hix, h⟩ := Option.bind_eq_some_iff.1 h
   have HCF := Aside0.mk (fun W (hb : Below w.heap.size w W) => slices_ContainsFunc_Change (impl_ApplyChanges.wr k) 52 #[] (enters_of Tryd.func52 (by kernel_rfl) rfl) A1 l1.length c1 l1 ix W rfl (Kd.C_below HR1.out hb) (by omega) (fun x b hxb => changes_1 k x b W hxb) hix)
   clear hix
   by_cases hi0 : 0 ≤ ix
   ·
    rw [if_pos hi0] at h
    rw [decide_eq_true hi0] at HCF
    obtain ⟨rfl, rfl⟩ := Prod.mk.injEq _ _ _ _ ▸ Option.some.inj h
    clear h
    go_enter Tryd.func12, Tryd.ntmps12
    go_wp2_with (first | (go_at_call 50; refine (HV.out _ (Below.refl _ _)).mono ?_; rintro e w1 ⟨rfl, hb⟩; have B1 := Aside0.mk hb; clear hb) | (go_at_call 54; refine (HCF.out _ B1.out).mono ?_; rintro e w2 ⟨rfl, hb⟩; have B2 := Aside0.mk (B1.out.trans (hb.mono B1.out.size)); clear hb))
    go_ret2
    exact ⟨_, rfl, Kd.R_nil _ _ _ _ _, B2.out⟩
   ·
    rw [if_neg hi0] at h
    rw [decide_eq_false hi0] at HCF
    obtain ⟨out0, hcl, h⟩ := Option.bind_eq_some_iff.1 h
    have HCL := Aside0.mk (fun W (hb : Below w.heap.size w W) => impl_Setting.calls A0 c0 l0 out0 W (Kd.C_below HR0.out hb) HC0.out hcl)
    have HH := Aside0.mk h
    clear h hcl
    go_enter Tryd.func12, Tryd.ntmps12
    go_wp2_with (first | (go_at_call 50; refine (HV.out _ (Below.refl _ _)).mono ?_; rintro e w1 ⟨rfl, hb⟩; have B1 := Aside0.mk hb; clear hb) | (go_at_call 54; refine (HCF.out _ B1.out).mono ?_; rintro e w2 ⟨rfl, hb⟩; have B2 := Aside0.mk (B1.out.trans (hb.mono B1.out.size)); clear hb) | (go_at_call 55; refine (HCL.out _ B2.out).mono ?_; rintro e w3 ⟨cl, rfl, hR, hb⟩; have B3 := Aside0.mk (B2.out.trans (hb.mono B2.out.size)); have R3 := Aside0.mk (Kd.R_lower hR B2.out.size); clear hb hR))
    go_loopg [7, 24] l1.length (fun gg s7 s24 wr => ∃ (i : Nat) (out : List S96), i ≤ l1.length ∧ l1.length - i ≤ gg ∧ s24 = .int .i64 (i : Int) ∧ Aside0 (Kd.R k96 96 wr w.heap.size (fun _ => True) s7 out) ∧ Aside0 (Below w.heap.size w wr) ∧ Aside0 (impl_ApplyChanges.l0 k (l1.drop i) out = some (r1, r2)))
    case atStart => exact ⟨0, out0, Nat.zero_le _, by omega, rfl, R3, B3, ⟨by rw [List.drop_zero]; exact HH.out⟩⟩
    case round =>
     obtain ⟨i, out, hil, hgk, rfl, RO, BW, H0⟩ := hrel
     clear HV HCF HCL HH R3 B3 B1 B2
     by_cases hlt : i < l1.length
     ·
      have hltz : (i : Int) < (l1.length : Int) := by omega
      have H1 := H0.out
      rw [List.drop_eq_getElem_cons hlt, impl_ApplyChanges.l0] at H1
      by_cases hbig : (out.length + 1) * 24 ≤ 140737488355328
      ·
       rw [if_pos hbig] at H1
       obtain ⟨ad1, rfl, hc0, hc1, hc2⟩ := at_T100 (Kd.C_below HR1.out BW.out) (i : Int) (by omega) hltz
       rw [Int.toNat_natCast] at hc0 hc1 hc2
       have ey : rd_T100 l1 (i : Int) = l1[i] := by
        unfold rd_T100
        rw [Int.toNat_natCast, List.getD_eq_getElem?_getD, List.getElem?_eq_getElem hlt]
        rfl
       rw [← ey] at H1
       generalize rd_T100 l1 (i : Int) = x at hc0 hc1 hc2 H1
       obtain ⟨⟨at_, bb⟩, hbs, H2⟩ := Option.bind_eq_some_iff.1 H1
       have hle := bsF_Setting_le hbs
       obtain ⟨A7, c7, rfl, hc7, hC7⟩ := Kd.R_reads RO.out
       have HBS := Aside0.mk (fun W (hb : Below wr.heap.size wr W) => bs_Setting_calls (fun y => impl_compareSettings.f y.f0 y.f1 x.f1.f0 x.f1.f1) x.f1 (fun y q W2 hq => impl_compareSettings.calls y.f0 y.f1 x.f1.f0 x.f1.f1 q W2 hq) k A7 out.length c7 out at_ bb W rfl (Kd.C_below hC7 hb) (by omega) hbs)
       have H2 := Aside0.mk H2
       clear H1 hbs ey H0 hC7
       try go_wp2_with (first | ((with_reducible refine gate_dst (N := 9) rfl ?_); refine box_event ?hg (N := 9) ?hd (cs := #[.int .i64 0, .string (⟨#[]⟩ : ByteArray), .int .i64 0]) (t := 100) ?hr ?_; (case hd => rfl); (case hg => rfl); (case hr => first | (go_simp; done) | (go_simp; rfl)); intro gb hg w4 hbox hb; have BK := Aside0.mk hbox; have BWN := Aside0.mk hb; have hge : wr.heap.size ≤ gb := (by rw [hg]; exact Nat.le_refl _); have hgl : w.heap.size ≤ gb := (Nat.le_trans BW.out.size hge); clear hbox hb hg; have hz0 : w4.cell? ⟨gb, 0, none⟩ = some (.int .i64 0) := (blk_cell BK.out 0).trans rfl; have hz1 : w4.cell? ⟨gb, 1, none⟩ = some (.string (⟨#[]⟩ : ByteArray)) := (blk_cell BK.out 1).trans rfl; have hz2 : w4.cell? ⟨gb, 2, none⟩ = some (.int .i64 0) := (blk_cell BK.out 2).trans rfl; have hf0 := blk_frozen BK.out 0; have hf1 := blk_frozen BK.out 1; have hf2 := blk_frozen BK.out 2))
       have n0_ : Aside0 ((((w4.setCell ⟨gb, 0, none⟩ (.int .i64 x.f0)).setCell ⟨gb, 1, none⟩ (.string x.f1.f0)).setCell ⟨gb, 2, none⟩ (.int .i64 x.f1.f1)).heap[gb]? = some (.cells #[.int .i64 x.f0, .string x.f1.f0, .int .i64 x.f1.f1] 100 (0, 0))) := ⟨by refine blk_put (cs := #[.int .i64 x.f0, .string x.f1.f0, .int .i64 0]) ?_ 2 _ rfl; refine blk_put (cs := #[.int .i64 x.f0, .string (⟨#[]⟩ : ByteArray), .int .i64 0]) ?_ 1 _ rfl; refine blk_put (cs := #[.int .i64 0, .string (⟨#[]⟩ : ByteArray), .int .i64 0]) ?_ 0 _ rfl; exact BK.out⟩
       have n1_ : Aside0 (Below wr.heap.size wr (((w4.setCell ⟨gb, 0, none⟩ (.int .i64 x.f0)).setCell ⟨gb, 1, none⟩ (.string x.f1.f0)).setCell ⟨gb, 2, none⟩ (.int .i64 x.f1.f1))) := ⟨below_set (below_set (below_set BWN.out hge) hge) hge⟩
       clear BK BWN hz0 hz1 hz2 hf0 hf1 hf2 hc0 hc1 hc2
       generalize (((w4.setCell ⟨gb, 0, none⟩ (.int .i64 x.f0)).setCell ⟨gb, 1, none⟩ (.string x.f1.f0)).setCell ⟨gb, 2, none⟩ (.int .i64 x.f1.f1)) = w5 at n0_ n1_ ⊢
       refine (HBS.out w5 n1_.out).mono ?_
       rintro e w6 ⟨rfl, hb6⟩
       have B6 := Aside0.mk (BW.out.trans ((n1_.out.trans (hb6.mono n1_.out.size)).mono BW.out.size))
       have BK := Aside0.mk (blk_below n0_.out hb6)
       have R6 := Aside0.mk (Kd.R_below (Kd.R_below RO.out n1_.out) hb6)
       clear n0_ n1_ hb6 HBS RO BW
       have hx0 : w6.cell? ⟨gb, 0, none⟩ = some (.int .i64 x.f0) := (blk_cell BK.out 0).trans rfl
       have hx1 : w6.cell? ⟨gb, 1, none⟩ = some (.string x.f1.f0) := (blk_cell BK.out 1).trans rfl
       have hx2 : w6.cell? ⟨gb, 2, none⟩ = some (.int .i64 x.f1.f1) := (blk_cell BK.out 2).trans rfl
       have hgl6 : gb < w6.heap.size := blk_lt BK.out
       have H3 := H2.out
       clear H2
       try dsimp only at H3
       have hpat : (0 : Int) ≤ (at_ : Int) := by omega
       by_cases hk : x.f0 = 1
       ·
        rw [if_pos hk] at H3
        have he1 : (x.f0 == 1) = true := by rw [hk]; rfl
        have he2 : decide (x.f0 = 1) = true := decide_eq_true hk
        cases bb with
        | true =>
         simp only [if_true] at H3
         have H4 := Aside0.mk H3
         clear H3
         have hat := hle.2 rfl
         have hatz : (at_ : Int) < (out.length : Int) := by omega
         obtain ⟨go, co, eo, ggb, ggl, gcl, HG⟩ := Kd.R_form R6.out (by omega)
         injection eo with ea en ec
         subst ea
         subst ec
         clear en HG gcl
         obtain ⟨ce, hcl, hM, hcc, hfr⟩ := Kd.R_elem R6.out z96 (at_ : Int) hpat hatz
         obtain rfl := k96_openM hM
         have HP := Kd.R_seg R6.out (at_ : Int) hpat hatz (seg := [.string x.f1.f0, .int .i64 x.f1.f1]) (j := 0) hcl hcc (show 2 ≤ 2 from by decide) (x' := x.f1) (k96_mkM _ _ _ x.f1) (fun _ hk => hk)
         have hy0 : w6.cell? ⟨go, at_ * 2, none⟩ = some _ := hcc 0 _ rfl
         have hy1 : w6.cell? ⟨go, at_ * 2 + 1, none⟩ = some _ := hcc 1 _ rfl
         have hyf0 : w6.frozen? ⟨go, at_ * 2, none⟩ = false := hfr 0
         have hyf1 : w6.frozen? ⟨go, at_ * 2 + 1, none⟩ = false := hfr 1
         have HP := Aside0.mk HP
         have hgg := Aside0.mk ggb
         clear hM hcl hcc hfr ggb
         go_wp2
         go_roundg (l1.length - (i + 1))
         case measure => omega
         case rel => exact ⟨i + 1, out.set at_ x.f1, by omega, by omega, by go_num, ⟨HP.out.1⟩, ⟨below_set (below_set B6.out hgg.out) hgg.out⟩, H4⟩
        | false =>
         simp only [Bool.false_eq_true, if_false] at H3
         by_cases h24 : (out.length : Int) = 24
         ·
          rw [if_pos h24] at H3
          obtain ⟨rfl, rfl⟩ := Prod.mk.injEq _ _ _ _ ▸ Option.some.inj H3
          have hf1 : ((out.length : Int) == 24) = true := by rw [h24]; rfl
          go_wp2
          go_ret2
          exact ⟨_, rfl, Kd.R_nil _ _ _ _ _, B6.out⟩
         ·
          rw [if_neg h24] at H3
          have H4 := Aside0.mk H3
          clear H3
          have hf1 : ((out.length : Int) == 24) = false := by simpa using h24
          have hf2 : decide ((out.length : Int) = 24) = false := decide_eq_false h24
          have hne : (Value.slice A7 out.length c7).ownBlock ≠ some w6.heap.size := fun e => by
           obtain ⟨_, ho⟩ := Kd.R_own R6.out
           have := own_lt ho w6.heap.size e
           omega
          have HIN := Aside0.mk (ins_Setting out x.f1 at_ w6.heap.size (.slice A7 out.length c7) w (w6.alloc (.cells (enc_Setting x.f1).toArray 96 (0, 0))) (fun _ => True) (below_alloc B6.out _) (Kd.R_alloc R6.out _) hle.1 (blk_new _ _) hne hbig)
          clear hne
          go_wp2_with (go_at_call 58; refine HIN.out.mono ?_; rintro e w7 ⟨v7, rfl, hR7, hB7⟩; have R7 := Aside0.mk (Kd.R_mono hR7 (ok' := fun _ => True) fun _ _ => trivial); have B7 := Aside0.mk hB7; clear hR7 hB7)
          go_roundg (l1.length - (i + 1))
          case measure => omega
          case rel => exact ⟨i + 1, _, by omega, by omega, by go_num, R7, B7, H4⟩
       ·
        rw [if_neg hk] at H3
        have he1 : (x.f0 == 1) = false := by simpa using hk
        have he2 : decide (x.f0 = 1) = false := decide_eq_false hk
        cases bb with
        | false =>
         simp only [Bool.false_eq_true, if_false] at H3
         obtain ⟨rfl, rfl⟩ := Prod.mk.injEq _ _ _ _ ▸ Option.some.inj H3
         go_wp2
         go_ret2
         exact ⟨_, rfl, Kd.R_nil _ _ _ _ _, B6.out⟩
        | true =>
         simp only [if_true] at H3
         have hat := hle.2 rfl
         have hatz : (at_ : Int) < (out.length : Int) := by omega
         obtain ⟨ad7, hA7, hc0, hc1⟩ := at_T96 (Kd.R_reads' R6.out).2.2 (at_ : Int) hpat hatz
         subst hA7
         rw [Int.toNat_natCast] at hc0 hc1
         generalize rd_T96 out (at_ : Int) = y at hc0 hc1 H3
         have hw1 : IntKind.i64.wrap ((at_ : Int) + 1) = (at_ : Int) + 1 := by rw [IntKind.wrap_i64]; omega
         by_cases hsame : (y.f0.toList == x.f1.f0.toList && y.f1 == x.f1.f1) = true
         ·
          rw [if_pos hsame] at H3
          have H4 := Aside0.mk H3
          clear H3
          have hs2 : (!(y.f0.toList == x.f1.f0.toList) || !(y.f1 == x.f1.f1)) = false := by revert hsame; cases (y.f0.toList == x.f1.f0.toList) <;> cases (y.f1 == x.f1.f1) <;> simp
          have hs3 : (!(y.f0.toList == x.f1.f0.toList && y.f1 == x.f1.f1)) = false := by rw [hsame]; rfl
          have HDE := Aside0.mk (fun n_ => del_Setting out at_ (.slice (some ad7) out.length c7) w (w6.drewN n_) (fun _ => True) (pw_below_drewN B6.out n_) (Kd.R_drewN R6.out n_) hat)
          go_wp2
          go_quiet (fail)
          go_wp2_with (go_at_call 59; refine (HDE.out _).mono ?_; rintro e w7 ⟨v7, rfl, hR7, hB7⟩; have R7 := Aside0.mk hR7; have B7 := Aside0.mk hB7; clear hR7 hB7)
          go_roundg (l1.length - (i + 1))
          case measure => omega
          case rel => exact ⟨i + 1, _, by omega, by omega, by go_num, R7, B7, H4⟩
         ·
          rw [if_neg hsame] at H3
          have hs0 : (y.f0.toList == x.f1.f0.toList && y.f1 == x.f1.f1) = false := by simpa using hsame
          have hs2 : (!(y.f0.toList == x.f1.f0.toList) || !(y.f1 == x.f1.f1)) = true := by revert hs0; cases (y.f0.toList == x.f1.f0.toList) <;> cases (y.f1 == x.f1.f1) <;> simp
          have hs3 : (!(y.f0.toList == x.f1.f0.toList && y.f1 == x.f1.f1)) = true := by rw [hs0]; rfl
          obtain ⟨rfl, rfl⟩ := Prod.mk.injEq _ _ _ _ ▸ Option.some.inj H3
          go_wp2
          go_quiet (fail)
          go_wp2
          go_ret2
          exact ⟨_, rfl, Kd.R_nil _ _ _ _ _, pw_below_drewN B6.out _⟩
      ·
       rw [if_neg hbig] at H1
       cases H1
     ·
      obtain rfl : i = l1.length := by omega
      have H1 := H0.out
      rw [List.drop_length, impl_ApplyChanges.l0] at H1
      obtain ⟨rfl, rfl⟩ := Prod.mk.injEq _ _ _ _ ▸ Option.some.inj H1
      go_wp2
      go_ret2
      exact ⟨_, rfl, RO.out, BW.out⟩
 ·
  rw [if_neg hlen] at h
  cases h

end Go.Proofs.YtgkmfgkkmahmoaaDoor.PFnVersions
