/- The program's TrendOf returns what the reference's returns, for all arguments. No condition beyond the statement's own. -/
import Derived.Test.YtfnheijpgldlcaaPFnExactTrendOfx0
import Derived.Test.YtfnheijpgldlcaaPFnExactTrendOfx1
import Derived.Test.YtfnheijpgldlcaaPFnExactTrendOfx2
import Derived.Test.YtfnheijpgldlcaaPFnExactTrendOfx3
namespace Go.Proofs.Ytfnheijpgldlcaa.Pure
open Go.RowKit Go.Proofs.Ytfnheijpgldlcaa.PFnExactTrendOf Go.Proofs.YtfnheijpgldlcaaW.PrintWords Go.Proofs.YtfnheijpgldlcaaW.PrintLast Go.Proofs.YtfnheijpgldlcaaW.PrintMore
set_option linter.unusedVariables false
set_option linter.unusedSimpArgs false

theorem w64 {x : Int} (h0 : -9223372036854775808 ≤ x) (h1 : x ≤ 9223372036854775807) : wrap64 x = x := by unfold wrap64; omega
theorem rd_nat (l : List Int) (i : Nat) : rd l (i : Int) = l.getD i 0 := by unfold rd; rw [Int.toNat_natCast]
theorem getD_mem {α : Type} {l : List α} {i : Nat} (d : α) (h : i < l.length) : l.getD i d ∈ l := by
  rw [List.getD_eq_getElem?_getD, List.getElem?_eq_getElem h]; exact List.getElem_mem _
theorem getD_lt {α : Type} {l : List α} {i : Nat} (d : α) (h : i < l.length) : l.getD i d = l[i] := by
  rw [List.getD_eq_getElem?_getD, List.getElem?_eq_getElem h]; rfl
theorem take_succ_getD {α : Type} (l : List α) (d : α) {i : Nat} (h : i < l.length) : l.take (i + 1) = l.take i ++ [l.getD i d] := by
  rw [List.take_succ_eq_append_getElem h, getD_lt d h]
/-- A loop that copies a list, element by element. -/
theorem ev_copy {α : Type} (L : Nat → List α → List α → Int → Option (List α)) (xs : List α) (d d' : α)
    (step : ∀ ys i, i < xs.length → ys.length = xs.length → ∀ r, Ev (fun k => L k xs (ys.set i (xs.getD i d)) ((i + 1 : Nat) : Int)) r → Ev (fun k => L k xs ys (i : Int)) r)
    (fin : ∀ ys, Ev (fun k => L k xs ys (xs.length : Int)) ys) : Ev (fun k => L k xs (List.replicate xs.length d') 0) xs := by
  have key : ∀ (m i : Nat) (ys : List α), i + m = xs.length → ys.length = xs.length → (∀ j, j < i → ys[j]? = xs[j]?) → Ev (fun k => L k xs ys (i : Int)) xs := by
    intro m
    induction m with
    | zero =>
      intro i ys hi hl hj
      have e : ys = xs := List.ext_getElem? (fun j => by
        by_cases h : j < xs.length
        · exact hj j (by omega)
        · rw [List.getElem?_eq_none (by omega), List.getElem?_eq_none (by omega)])
      have : i = xs.length := by omega
      subst this
      rw [e]
      exact fin xs
    | succ m ih =>
      intro i ys hi hl hj
      refine step ys i (by omega) hl xs (ih (i + 1) _ (by omega) (by rw [List.length_set]; exact hl) (fun j hjj => ?_))
      by_cases h : j = i
      · subst h
        rw [List.getElem?_set_self (by omega), getD_lt d (by omega), List.getElem?_eq_getElem (by omega)]
      · rw [List.getElem?_set_ne (by omega)]
        exact hj j (by omega)
  exact key xs.length 0 _ (by omega) (List.length_replicate ..) (fun j hj => absurd hj (Nat.not_lt_zero _))
/-- A loop that compares two lists. -/
theorem ev_eq {α : Type} (L : Nat → List α → List α → Int → Option Bool) (xs : List α) 
    (step : ∀ i, i < xs.length → Ev (fun k => L k xs xs ((i + 1 : Nat) : Int)) true → Ev (fun k => L k xs xs (i : Int)) true)
    (fin : Ev (fun k => L k xs xs (xs.length : Int)) true) : Ev (fun k => L k xs xs 0) true := by
  have key : ∀ (m i : Nat), i + m = xs.length → Ev (fun k => L k xs xs (i : Int)) true := by
    intro m
    induction m with
    | zero =>
      intro i hi
      have : i = xs.length := by omega
      subst this
      exact fin
    | succ m ih => intro i hi; exact step i (by omega) (ih (i + 1) (by omega))
  exact key xs.length 0 (by omega)

theorem toInt64S_ev (l : List Int) (h : l.length ≤ 35184372088832) : Ev (fun k => laws_toInt64S.f k l) l := by
  refine Ev.congr (f := fun k => laws_toInt64S.l0 k l (List.replicate l.length 0) 0) (fun k => ?_) ?_
  · unfold laws_toInt64S.f
    rw [if_pos (by omega), if_pos (by omega), Int.toNat_natCast]
  · refine ev_copy laws_toInt64S.l0 l 0 0 (fun ys i hi hl r hr => ?_) (fun ys => ?_)
    · refine Ev.step (fun k => ?_) hr
      simp only [laws_toInt64S.l0]
      rw [if_pos (by omega), if_pos (by omega), if_pos (by omega), w64 (by omega) (by omega), rd_nat, Int.toNat_natCast]
      rfl
    · refine Ev.step (f := fun _ => some ys) (fun k => ?_) (Ev.now _)
      simp only [laws_toInt64S.l0]
      rw [if_neg (by omega)]

theorem eqInt64S_ev (l : List Int) (h : l.length ≤ 9223372036854775806) : Ev (fun k => laws_eqInt64S.f k l l) true := by
  refine Ev.congr (f := fun k => laws_eqInt64S.l0 k l l 0) (fun k => ?_) ?_
  · unfold laws_eqInt64S.f
    rw [if_pos rfl]
  · refine ev_eq laws_eqInt64S.l0 l (fun i hi hr => ?_) ?_
    · refine Ev.step (fun k => ?_) hr
      simp only [laws_eqInt64S.l0]
      rw [if_pos (by omega), if_pos (by omega), if_pos (by omega), if_pos trivial, w64 (by omega) (by omega)]
      rfl
    · refine Ev.step (f := fun _ => some true) (fun k => ?_) (Ev.now _)
      simp only [laws_eqInt64S.l0]
      rw [if_neg (by omega)]

/-- The nearest quotient by a positive number, halves away from 0. -/
def rdiv (a b : Int) : Int := if a < 0 then -((b - 2 * a) / (2 * b)) else (2 * a + b) / (2 * b)
theorem rdiv_le {a b : Int} (hb : 0 < b) {m : Int} (h0 : -m ≤ a) (h1 : a ≤ m) : -m ≤ rdiv a b ∧ rdiv a b ≤ m := by
  unfold rdiv
  have key : ∀ c : Int, 0 ≤ c → 0 ≤ (2 * c + b) / (2 * b) ∧ (2 * c + b) / (2 * b) ≤ c ∨ c = 0 := by
    intro c hc
    by_cases h : c = 0
    · exact .inr h
    · refine .inl ⟨Int.ediv_nonneg (by omega) (by omega), ?_⟩
      have : (2 * c + b) / (2 * b) < c + 1 := Int.ediv_lt_of_lt_mul (by omega) (by
        have h2 : c * 1 ≤ c * b := Int.mul_le_mul_of_nonneg_left (by omega) hc
        have e : (c + 1) * (2 * b) = 2 * (c * b) + 2 * b := by rw [Int.add_mul, Int.one_mul]; congr 1; rw [← Int.mul_assoc, Int.mul_comm c 2, Int.mul_assoc]
        rw [e]; omega)
      omega
  have z : (2 * 0 + b) / (2 * b) = 0 := Int.ediv_eq_zero_of_lt (by omega) (by omega)
  split
  · have e : b - 2 * a = 2 * (-a) + b := by omega
    rw [e]
    rcases key (-a) (by omega) with h | h
    · omega
    · omega
  · rcases key a (by omega) with h | h
    · omega
    · rw [h, z]; omega

theorem specDiv_eq (a b : Int) (hb : 0 < b) (hb1 : b ≤ 1152921504606846976) (h0 : -1152921504606846976 ≤ a) (h1 : a ≤ 1152921504606846976) : spec_l01Div.f a b = some (rdiv a b) := by
  unfold spec_l01Div.f rdiv
  rw [if_neg (by omega)]
  have q : ∀ c : Int, 0 ≤ c → c ≤ 4611686018427387904 → 0 ≤ c / (2 * b) ∧ c / (2 * b) ≤ 4611686018427387904 := fun c hc hc' =>
    ⟨Int.ediv_nonneg hc (by omega), Int.le_trans (Int.ediv_le_self _ hc) hc'⟩
  by_cases h : a < 0
  · rw [if_pos h, if_pos h, w64 (x := 2 * b) (by omega) (by omega), w64 (x := 2 * a) (by omega) (by omega), w64 (x := b - 2 * a) (by omega) (by omega), if_neg (by omega),
      Int.tdiv_eq_ediv_of_nonneg (by omega)]
    have := q (b - 2 * a) (by omega) (by omega)
    rw [w64 (x := (b - 2 * a) / (2 * b)) (by omega) (by omega), w64 (by omega) (by omega)]
  · rw [if_neg h, if_neg h, w64 (x := 2 * b) (by omega) (by omega), w64 (x := 2 * a) (by omega) (by omega), w64 (x := 2 * a + b) (by omega) (by omega), if_neg (by omega),
      Int.tdiv_eq_ediv_of_nonneg (by omega)]
    have := q (2 * a + b) (by omega) (by omega)
    rw [w64 (by omega) (by omega)]

theorem half_up (b q r : Int) (hb : 0 < b) (h0 : 0 ≤ r) (h1 : r < b) : (2 * (b * q + r) + b) / (2 * b) = if r ≥ b - r then q + 1 else q := by
  have e : 2 * (b * q + r) + b = (2 * r + b) + (2 * b) * q := by rw [Int.mul_add, Int.mul_assoc]; omega
  rw [e, Int.add_mul_ediv_left _ _ (by omega)]
  split
  · have : (2 * r + b) / (2 * b) = 1 := by
      have a1 : (2 * r + b) / (2 * b) < 2 := Int.ediv_lt_of_lt_mul (by omega) (by omega)
      have a2 : 1 ≤ (2 * r + b) / (2 * b) := Int.le_ediv_of_mul_le (by omega) (by omega)
      omega
    omega
  · have : (2 * r + b) / (2 * b) = 0 := Int.ediv_eq_zero_of_lt (by omega) (by omega)
    omega
theorem implDiv_eq (a b : Int) (hb : 0 < b) (hb1 : b ≤ 1152921504606846976) (h0 : -1152921504606846976 ≤ a) (h1 : a ≤ 1152921504606846976) : impl_divRound.f a b = some (rdiv a b) := by
  have mxab : ∀ c : Int, 0 ≤ c → c ≤ 4611686018427387904 → impl_abs.f c = some c ∧ impl_abs.f (-c) = some c := by
    intro c hc hc'
    unfold impl_abs.f mx
    refine ⟨?_, ?_⟩
    · rw [w64 (by omega) (by omega), if_neg (by omega)]
    · rw [Int.neg_neg, w64 (by omega) (by omega)]
      split
      · rfl
      · congr 1; omega
  unfold impl_divRound.f
  rw [if_neg (by omega)]
  by_cases h : a < 0
  · obtain ⟨c, rfl⟩ : ∃ c : Int, a = -c := ⟨-a, by omega⟩
    have hr0 : 0 ≤ c % b := Int.emod_nonneg _ (by omega)
    have hr1 : c % b < b := Int.emod_lt_of_pos _ hb
    have hq0 : 0 ≤ c / b := Int.ediv_nonneg (by omega) (by omega)
    have hq1 : c / b ≤ c := Int.ediv_le_self _ (by omega)
    have hm : Int.tmod (-c) b = -(c % b) := by rw [Int.neg_tmod, Int.tmod_eq_emod_of_nonneg (by omega)]
    have hd : Int.tdiv (-c) b = -(c / b) := by rw [Int.neg_tdiv, Int.tdiv_eq_ediv_of_nonneg (by omega)]
    have hcb : 2 * c + b = 2 * (b * (c / b) + c % b) + b := by have := Int.mul_ediv_add_emod c b; omega
    rw [hm, hd, (mxab _ hr0 (by omega)).2, (mxab b (by omega) (by omega)).1]
    simp only [Option.bind_some]
    rw [w64 (x := b - c % b) (by omega) (by omega), w64 (x := -(c / b)) (by omega) (by omega)]
    unfold rdiv
    rw [if_pos h, show b - 2 * (-c) = 2 * c + b by omega, hcb, half_up b (c / b) (c % b) hb hr0 hr1]
    split
    · rw [if_neg (by simp only [decide_eq_true h, decide_eq_false (show ¬ b < 0 by omega)]; decide), w64 (by omega) (by omega)]
      congr 1; omega
    · rfl
  · have hr0 : 0 ≤ a % b := Int.emod_nonneg _ (by omega)
    have hr1 : a % b < b := Int.emod_lt_of_pos _ hb
    have hq0 : 0 ≤ a / b := Int.ediv_nonneg (by omega) (by omega)
    have hq1 : a / b ≤ a := Int.ediv_le_self _ (by omega)
    have hcb : 2 * a + b = 2 * (b * (a / b) + a % b) + b := by have := Int.mul_ediv_add_emod a b; omega
    rw [Int.tmod_eq_emod_of_nonneg (by omega), Int.tdiv_eq_ediv_of_nonneg (by omega), (mxab _ hr0 (by omega)).1, (mxab b (by omega) (by omega)).1]
    simp only [Option.bind_some]
    rw [w64 (x := b - a % b) (by omega) (by omega), w64 (x := a / b) (by omega) (by omega)]
    unfold rdiv
    rw [if_neg h, hcb, half_up b (a / b) (a % b) hb hr0 hr1]
    split
    · rw [if_pos (by simp only [decide_eq_false h, decide_eq_false (show ¬ b < 0 by omega)]; decide), w64 (by omega) (by omega)]
    · rfl

def tsum (l : List Int) (n : Int) : Nat → Nat → Int → Int
  | 0, _, s => s
  | m + 1, i, s => tsum l n m (i + 1) (s + l.getD i 0 * (2 * i - n + 1))
theorem term_bound (x c : Int) (h0 : 0 ≤ x) (h1 : x ≤ 50000000) (h2 : -63 ≤ c) (h3 : c ≤ 63) : -3150000000 ≤ x * c ∧ x * c ≤ 3150000000 := by
  have a := Int.mul_le_mul_of_nonneg_left h3 h0
  have b := Int.mul_le_mul_of_nonneg_left h2 h0
  omega
theorem tsum_bound (l : List Int) (hall : ∀ i, i < l.length → 0 ≤ l.getD i 0 ∧ l.getD i 0 ≤ 50000000) (hn : l.length ≤ 64) : ∀ (m i : Nat) (s : Int), i + m = l.length →
    s - m * 3150000000 ≤ tsum l l.length m i s ∧ tsum l l.length m i s ≤ s + m * 3150000000
  | 0, i, s, h => by simp only [tsum]; omega
  | m + 1, i, s, h => by
    have h1 := hall i (by omega)
    have h2 := term_bound (l.getD i 0) (2 * i - l.length + 1) h1.1 h1.2 (by omega) (by omega)
    have h3 := tsum_bound l hall hn m (i + 1) (s + l.getD i 0 * (2 * i - l.length + 1)) (by omega)
    simp only [tsum]
    omega
theorem den_bound (n : Int) (h0 : 2 ≤ n) (h1 : n ≤ 64) : 0 < n * (n - 1) ∧ n * (n - 1) ≤ 4096 ∧ 0 < n * (n - 1) * (n + 1) ∧ n * (n - 1) * (n + 1) ≤ 1000000 := by
  have a1 : 1 * (n - 1) ≤ n * (n - 1) := Int.mul_le_mul_of_nonneg_right (by omega) (by omega)
  have a2 : n * (n - 1) ≤ 64 * (n - 1) := Int.mul_le_mul_of_nonneg_right h1 (by omega)
  generalize n * (n - 1) = p at a1 a2 ⊢
  have a3 : 1 * (n + 1) ≤ p * (n + 1) := Int.mul_le_mul_of_nonneg_right (by omega) (by omega)
  have a4 : p * (n + 1) ≤ 4096 * (n + 1) := Int.mul_le_mul_of_nonneg_right (by omega) (by omega)
  omega
def trendR (l : List Int) : Int := rdiv (tsum l l.length l.length 0 0 * 6000) (l.length * (l.length - 1) * (l.length + 1))
theorem spec_loop (l : List Int) (hall : ∀ i, i < l.length → 0 ≤ l.getD i 0 ∧ l.getD i 0 ≤ 50000000) (h2 : 2 ≤ l.length) (hn : l.length ≤ 64) : ∀ (m i : Nat) (s : Int), i + m = l.length → -(i * 3150000000) ≤ s → s ≤ i * 3150000000 →
    Ev (fun k => spec_TrendOf.l0 k l l.length s i) (rdiv (tsum l l.length m i s * 6000) (l.length * (l.length - 1) * (l.length + 1)), 0) := by
  intro m
  induction m with
  | zero =>
    intro i s h b0 b1
    have d := den_bound l.length (by omega) (by omega)
    refine Ev.step (f := fun _ => some (rdiv (tsum l l.length 0 i s * 6000) (l.length * (l.length - 1) * (l.length + 1)), 0)) (fun k => ?_) (Ev.now _)
    simp only [spec_TrendOf.l0, tsum]
    rw [if_neg (by omega), w64 (x := s * 6000) (by omega) (by omega), w64 (x := (l.length : Int) - 1) (by omega) (by omega), w64 (x := (l.length : Int) + 1) (by omega) (by omega),
      w64 (x := (l.length : Int) * (l.length - 1)) (by omega) (by omega), w64 (x := (l.length : Int) * (l.length - 1) * (l.length + 1)) (by omega) (by omega),
      specDiv_eq _ _ (by omega) (by omega) (by omega) (by omega)]
    rfl
  | succ m ih =>
    intro i s h b0 b1
    have g := hall i (by omega)
    have h3 := term_bound (l.getD i 0) (2 * i - l.length + 1) g.1 g.2 (by omega) (by omega)
    refine Ev.step (fun k => ?_) (ih (i + 1) (s + l.getD i 0 * (2 * i - l.length + 1)) (by omega) (by omega) (by omega))
    simp only [spec_TrendOf.l0]
    rw [if_pos (by omega), if_pos (by omega), if_pos (by omega), rd_nat]
    unfold spec_l00In.f
    rw [if_pos g.1]
    simp only [Option.bind_some]
    rw [if_pos (decide_eq_true g.2), w64 (x := 2 * (i : Int)) (by omega) (by omega), w64 (x := 2 * (i : Int) - l.length) (by omega) (by omega), w64 (x := 2 * (i : Int) - l.length + 1) (by omega) (by omega),
      w64 (x := l.getD i 0 * _) (by omega) (by omega), w64 (x := s + _) (by omega) (by omega), w64 (x := (i : Int) + 1) (by omega) (by omega)]
    rfl
theorem spec_bad (l : List Int) : ∀ (m i : Nat) (s : Int), i + m = l.length → l.length ≤ 64 → (∃ j, i ≤ j ∧ j < l.length ∧ ¬ (0 ≤ l.getD j 0 ∧ l.getD j 0 ≤ 50000000)) →
    Ev (fun k => spec_TrendOf.l0 k l l.length s i) (0, 2)
  | 0, i, s, h, _, ⟨j, hj⟩ => by omega
  | m + 1, i, s, h, hn, ⟨j, hj0, hj1, hj⟩ => by
    by_cases g : 0 ≤ l.getD i 0 ∧ l.getD i 0 ≤ 50000000
    · have : j ≠ i := by rintro rfl; exact hj g
      refine Ev.step (fun k => ?_) (spec_bad l m (i + 1) (wrap64 (s + (wrap64 ((rd l (i : Int)) * (wrap64 ((wrap64 ((wrap64 (2 * (i : Int))) - l.length)) + 1)))))) (by omega) hn ⟨j, by omega, hj1, hj⟩)
      simp only [spec_TrendOf.l0]
      rw [if_pos (by omega), if_pos (by omega), if_pos (by omega), rd_nat]
      unfold spec_l00In.f
      rw [if_pos g.1]
      simp only [Option.bind_some]
      rw [if_pos (decide_eq_true g.2), w64 (x := (i : Int) + 1) (by omega) (by omega)]
      rfl
    · refine Ev.step (f := fun _ => some (0, 2)) (fun k => ?_) (Ev.now _)
      simp only [spec_TrendOf.l0]
      rw [if_pos (by omega), if_pos (by omega), if_pos (by omega), rd_nat]
      unfold spec_l00In.f
      by_cases g0 : 0 ≤ l.getD i 0
      · rw [if_pos g0]
        simp only [Option.bind_some]
        rw [decide_eq_false (fun hb => g ⟨g0, hb⟩)]
        rfl
      · rw [if_neg g0]
        rfl
theorem impl_loop (l : List Int) (hall : ∀ i, i < l.length → 0 ≤ l.getD i 0 ∧ l.getD i 0 ≤ 50000000) (h2 : 2 ≤ l.length) (hn : l.length ≤ 64) : ∀ (m i : Nat) (s : Int), i + m = l.length → -(i * 3150000000) ≤ s → s ≤ i * 3150000000 →
    Ev (fun k => impl_TrendOf.l0 k l.length s l l.length i) (rdiv (tsum l l.length m i s * 6000) (l.length * (l.length - 1) * (l.length + 1)), 0) := by
  intro m
  induction m with
  | zero =>
    intro i s h b0 b1
    have d := den_bound l.length (by omega) (by omega)
    refine Ev.step (f := fun _ => some (rdiv (tsum l l.length 0 i s * 6000) (l.length * (l.length - 1) * (l.length + 1)), 0)) (fun k => ?_) (Ev.now _)
    simp only [impl_TrendOf.l0, tsum]
    rw [if_neg (by omega), w64 (x := s * 6000) (by omega) (by omega), w64 (x := (l.length : Int) - 1) (by omega) (by omega), w64 (x := (l.length : Int) + 1) (by omega) (by omega),
      w64 (x := (l.length : Int) * (l.length - 1)) (by omega) (by omega), w64 (x := (l.length : Int) * (l.length - 1) * (l.length + 1)) (by omega) (by omega),
      implDiv_eq _ _ (by omega) (by omega) (by omega) (by omega)]
    rfl
  | succ m ih =>
    intro i s h b0 b1
    have g := hall i (by omega)
    have h3 := term_bound (l.getD i 0) (2 * i - l.length + 1) g.1 g.2 (by omega) (by omega)
    refine Ev.step (fun k => ?_) (ih (i + 1) (s + l.getD i 0 * (2 * i - l.length + 1)) (by omega) (by omega) (by omega))
    simp only [impl_TrendOf.l0]
    rw [if_pos (by omega), if_pos (by omega), if_pos (by omega), rd_nat]
    rw [w64 (x := 2 * (i : Int)) (by omega) (by omega), w64 (x := (l.length : Int) - 1) (by omega) (by omega), w64 (x := 2 * (i : Int) - _) (by omega) (by omega), show 2 * (i : Int) - ((l.length : Int) - 1) = 2 * i - l.length + 1 by omega,
      w64 (x := l.getD i 0 * _) (by omega) (by omega), w64 (x := s + _) (by omega) (by omega), w64 (x := (i : Int) + 1) (by omega) (by omega)]
    rfl
def trend (l : List Int) : Int × Int := if 2 ≤ l.length ∧ l.length ≤ 64 ∧ l.all (inB 0 50000000) = true then (trendR l, 0) else (0, 2)
theorem all_getD {l : List Int} (h : l.all (inB 0 50000000) = true) : ∀ i, i < l.length → 0 ≤ l.getD i 0 ∧ l.getD i 0 ≤ 50000000 := by
  intro i hi
  have := List.all_eq_true.1 h _ (getD_mem 0 hi)
  simpa [inB] using this
theorem not_all {l : List Int} (h : ¬ l.all (inB 0 50000000) = true) : ∃ j, 0 ≤ j ∧ j < l.length ∧ ¬ (0 ≤ l.getD j 0 ∧ l.getD j 0 ≤ 50000000) := by
  refine Classical.byContradiction fun hn => h (List.all_eq_true.2 fun x hx => ?_)
  obtain ⟨i, hi, rfl⟩ := List.mem_iff_getElem.1 hx
  refine Classical.byContradiction fun hb => hn ⟨i, Nat.zero_le _, hi, ?_⟩
  rw [getD_lt 0 hi]
  simpa [inB] using hb
theorem spec_ev (l : List Int) : Ev (fun k => spec_TrendOf.f k l) (trend l) := by
  unfold spec_TrendOf.f trend
  by_cases h2 : l.length < 2
  · rw [if_neg (by omega)]
    simp only [show (l.length : Int) < 2 by omega, if_true]
    exact Ev.step (f := fun _ => some (0, 2)) (fun k => by simp [spec_TrendOf.j0]) (Ev.now _)
  · simp only [show ¬ (l.length : Int) < 2 by omega, if_false]
    by_cases h6 : l.length > 64
    · rw [if_neg (by omega)]
      exact Ev.step (f := fun _ => some (0, 2)) (fun k => by simp only [spec_TrendOf.j0]; rw [if_pos (decide_eq_true (by omega))]) (Ev.now _)
    · refine Ev.step (f := fun k => spec_TrendOf.l0 k l l.length 0 0) (fun k => by simp only [spec_TrendOf.j0]; rw [if_neg (by simp; omega)]) ?_
      by_cases ha : l.all (inB 0 50000000) = true
      · rw [if_pos ⟨by omega, by omega, ha⟩]
        exact spec_loop l (all_getD ha) (by omega) (by omega) l.length 0 0 (by omega) (by omega) (by omega)
      · rw [if_neg (fun h => ha h.2.2)]
        exact spec_bad l l.length 0 0 (by omega) (by omega) (not_all ha)
theorem impl_ev (l : List Int) : Ev (fun k => impl_TrendOf.f k l) (trend l) := by
  unfold impl_TrendOf.f trend
  by_cases h2 : l.length < 2
  · rw [if_neg (by omega)]
    simp only [show (l.length : Int) < 2 by omega, if_true]
    exact Ev.step (f := fun _ => some (0, 2)) (fun k => by simp [impl_TrendOf.j0]) (Ev.now _)
  · simp only [show ¬ (l.length : Int) < 2 by omega, if_false]
    by_cases h6 : l.length > 64
    · rw [if_neg (by omega)]
      simp only [show (l.length : Int) > 64 by omega, if_true]
      exact Ev.step (f := fun _ => some (0, 2)) (fun k => by simp [impl_TrendOf.j0]) (Ev.now _)
    · simp only [show ¬ (l.length : Int) > 64 by omega, if_false]
      unfold impl_allWithin.f
      simp only [show l.length < 9223372036854775807 by omega, if_true, Option.bind_some]
      by_cases ha : l.all (inB 0 50000000) = true
      · rw [if_pos ⟨by omega, by omega, ha⟩]
        refine Ev.step (f := fun k => impl_TrendOf.l0 k l.length 0 l l.length 0) (fun k => by simp only [impl_TrendOf.j0]; rw [if_neg (by rw [ha]; decide)]) ?_
        exact impl_loop l (all_getD ha) (by omega) (by omega) l.length 0 0 (by omega) (by omega) (by omega)
      · rw [if_neg (fun h => ha h.2.2)]
        exact Ev.step (f := fun _ => some (0, 2)) (fun k => by simp only [impl_TrendOf.j0]; rw [if_pos (by simp only [Bool.not_eq_true] at ha; rw [ha]; decide)]) (Ev.now _)
theorem FnExactTrendOf : laws_FnExactTrendOf.Pure := by
  intro l hm hl hw
  refine Ev.rounds ?_
  unfold laws_FnExactTrendOf.f
  by_cases h : l.length > 1048576
  · simp only [show (l.length : Int) > 1048576 by omega, if_true]
    exact Ev.now _
  · simp only [show ¬ (l.length : Int) > 1048576 by omega, if_false]
    refine Ev.bind (toInt64S_ev l (by omega)) (Ev.bind (spec_ev l) (Ev.bind (toInt64S_ev l (by omega)) (Ev.bind (impl_ev l) ?_)))
    simp only [if_true]
    refine Ev.step (f := fun k => (laws_toInt64S.f k l).bind fun t127 => ((laws_eqInt64S.f k l t127).bind fun t130 => (if t130 = true then (some true) else (some false)))) (fun k => by simp [laws_FnExactTrendOf.j0]) ?_
    refine Ev.bind (toInt64S_ev l (by omega)) (Ev.bind (eqInt64S_ev l (by omega)) ?_)
    simp only [if_true]
    exact Ev.now _

end Go.Proofs.Ytfnheijpgldlcaa.Pure
