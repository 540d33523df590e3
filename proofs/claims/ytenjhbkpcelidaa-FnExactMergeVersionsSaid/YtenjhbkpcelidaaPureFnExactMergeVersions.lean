/- The program's MergeVersions returns what the reference's returns, for all arguments. No condition beyond the statement's own. -/
import Derived.Test.YtenjhbkpcelidaaPFnExactMergeVersionsx0
import Derived.Test.YtenjhbkpcelidaaPFnExactMergeVersionsx1
import Derived.Test.YtenjhbkpcelidaaPFnExactMergeVersionsx2
import Derived.Test.YtenjhbkpcelidaaPFnExactMergeVersionsx3
import Derived.Test.YtenjhbkpcelidaaPFnExactMergeVersionsx4
import Derived.Test.YtenjhbkpcelidaaPFnExactMergeVersionsx5
import Derived.Test.YtenjhbkpcelidaaPFnExactMergeVersionsx6
import Derived.Test.YtenjhbkpcelidaaPFnExactMergeVersionsx7
import Derived.Test.YtenjhbkpcelidaaPFnExactMergeVersionsx8
import Derived.Test.YtenjhbkpcelidaaPFnExactMergeVersionsx9
import Derived.Test.YtenjhbkpcelidaaPFnExactMergeVersionsx10
import Derived.Test.YtenjhbkpcelidaaPFnExactMergeVersionsx11
import Derived.Test.YtenjhbkpcelidaaPFnExactMergeVersionsx12
import Derived.Test.YtenjhbkpcelidaaPFnExactMergeVersionsx13
import Derived.Test.YtenjhbkpcelidaaPFnExactMergeVersionsx14
import Derived.Test.YtenjhbkpcelidaaPFnExactMergeVersionsx15
import Derived.Test.YtenjhbkpcelidaaPFnExactMergeVersionsx16
import Derived.Test.YtenjhbkpcelidaaPFnExactMergeVersionsx17
import Derived.Test.YtenjhbkpcelidaaPFnExactMergeVersionsx18
namespace Go.Proofs.Ytenjhbkpcelidaa.Pure
open Go.RowKit Go.Proofs.Ytenjhbkpcelidaa.PFnExactMergeVersions Go.Proofs.YtenjhbkpcelidaaW.PrintWords Go.Proofs.YtenjhbkpcelidaaW.PrintLast Go.Proofs.YtenjhbkpcelidaaW.PrintMore
set_option linter.unusedVariables false
set_option linter.unusedSimpArgs false
def smallC (c : Int) : Bool := decide (97 ≤ c) && decide (c ≤ 122)
def digitC (c : Int) : Bool := decide (48 ≤ c) && decide (c ≤ 57)
def nameC (c : Int) : Bool := smallC c || digitC c
def nameOk (b : ByteArray) : Bool := decide (1 ≤ b.size) && (decide (b.size ≤ 10) && (smallC (bt b 0) && (List.range b.size).all fun i => nameC (bt b i)))
theorem w64 {x : Int} (h0 : -9223372036854775808 ≤ x) (h1 : x ≤ 9223372036854775807) : wrap64 x = x := by unfold wrap64; omega
theorem rd_nat (l : List Int) (i : Nat) : rd l (i : Int) = l.getD i 0 := by unfold rd; rw [Int.toNat_natCast]
theorem getD_mem {α : Type} {l : List α} {i : Nat} (d : α) (h : i < l.length) : l.getD i d ∈ l := by
 rw [List.getD_eq_getElem?_getD, List.getElem?_eq_getElem h]; exact List.getElem_mem _
theorem getD_lt {α : Type} {l : List α} {i : Nat} (d : α) (h : i < l.length) : l.getD i d = l[i] := by
 rw [List.getD_eq_getElem?_getD, List.getElem?_eq_getElem h]; rfl
theorem take_succ_getD {α : Type} (l : List α) (d : α) {i : Nat} (h : i < l.length) : l.take (i + 1) = l.take i ++ [l.getD i d] := by
 rw [List.take_succ_eq_append_getElem h, getD_lt d h]
theorem ev_eq {α : Type} (L : Nat → List α → List α → Int → Option Bool) (xs : List α) 
  (step : ∀ i, i < xs.length → Ev (fun k => L k xs xs ((i + 1 : Nat) : Int)) true → Ev (fun k => L k xs xs (i : Int)) true)
  (fin : Ev (fun k => L k xs xs (xs.length : Int)) true) : Ev (fun k => L k xs xs 0) true := by
 have key : ∀ (m i : Nat), i + m = xs.length → Ev (fun k => L k xs xs (i : Int)) true := by
  intro m
  induction m with
  | zero =>
   intro i hi
   have : i = xs.length := by omega
   subst this
   exact fin
  | succ m ih => intro i hi; exact step i (by omega) (ih (i + 1) (by omega))
 exact key xs.length 0 (by omega)
theorem ev_all {α ρ : Type} (L : Nat → Int → Option ρ) (xs : List α) (d : α) (p : α → Bool) (b c : ρ)
  (step : ∀ i, i < xs.length → p (xs.getD i d) = true → ∀ r, Ev (fun k => L k ((i + 1 : Nat) : Int)) r → Ev (fun k => L k (i : Int)) r)
  (bad : ∀ i, i < xs.length → p (xs.getD i d) = false → Ev (fun k => L k (i : Int)) b)
  (fin : Ev (fun k => L k (xs.length : Int)) c) : Ev (fun k => L k 0) (if xs.all p = true then c else b) := by
 have key : ∀ (m i : Nat), i + m = xs.length → Ev (fun k => L k (i : Int)) (if (xs.drop i).all p = true then c else b) := by
  intro m
  induction m with
  | zero =>
   intro i hi
   have : i = xs.length := by omega
   subst this
   rw [List.drop_length]
   exact fin
  | succ m ih =>
   intro i hi
   have hlt : i < xs.length := by omega
   rw [List.drop_eq_getElem_cons hlt, List.all_cons, ← getD_lt d hlt]
   cases hp : p (xs.getD i d) with
   | true => rw [Bool.true_and]; exact step i hlt hp _ (ih (i + 1) (by omega))
   | false => rw [Bool.false_and, if_neg (by decide)]; exact bad i hlt hp
 exact key xs.length 0 (by omega)
theorem ev_sz {α : Type} (L : Nat → Int → Int → Option Int) (xs : List α) (d : α) (B : α → Prop)
  (step : ∀ i a, i < xs.length → 0 ≤ a → a ≤ 1048576 → Ev (fun k => L k a (i : Int)) (-1) ∨ (∃ a', 0 ≤ a' ∧ a' ≤ a ∧ B (xs.getD i d) ∧ ∀ r, Ev (fun k => L k a' ((i + 1 : Nat) : Int)) r → Ev (fun k => L k a (i : Int)) r))
  (fin : ∀ a, Ev (fun k => L k a (xs.length : Int)) a) : ∀ a, 0 ≤ a → a ≤ 1048576 → ∃ r, Ev (fun k => L k a 0) r ∧ (r < 0 ∨ (0 ≤ r ∧ r ≤ a ∧ ∀ x ∈ xs, B x)) := by
 have key : ∀ (m i : Nat) (a : Int), i + m = xs.length → 0 ≤ a → a ≤ 1048576 → ∃ r, Ev (fun k => L k a (i : Int)) r ∧ (r < 0 ∨ (0 ≤ r ∧ r ≤ a ∧ ∀ j, i ≤ j → j < xs.length → B (xs.getD j d))) := by
  intro m
  induction m with
  | zero =>
   intro i a hi h0 h1
   have : i = xs.length := by omega
   subst this
   exact ⟨a, fin a, .inr ⟨h0, Int.le_refl _, fun j h2 h3 => by omega⟩⟩
  | succ m ih =>
   intro i a hi h0 h1
   rcases step i a (by omega) h0 h1 with h | ⟨a', h2, h3, hB, h⟩
   ·
    exact ⟨-1, h, .inl (by decide)⟩
   ·
    obtain ⟨r, hr, hq⟩ := ih (i + 1) a' (by omega) h2 (by omega)
    refine ⟨r, h r hr, ?_⟩
    rcases hq with hq | ⟨q0, q1, q2⟩
    ·
     exact .inl hq
    ·
     refine .inr ⟨q0, by omega, fun j h4 h5 => ?_⟩
     by_cases e : j = i
     ·
      subst e; exact hB
     ·
      exact q2 j (by omega) h5
 intro a h0 h1
 obtain ⟨r, hr, hq⟩ := key xs.length 0 a (by omega) h0 h1
 refine ⟨r, hr, hq.imp_right fun ⟨q0, q1, q2⟩ => ⟨q0, q1, fun x hx => ?_⟩⟩
 obtain ⟨j, hj, rfl⟩ := List.mem_iff_getElem.1 hx
 rw [← getD_lt d hj]
 exact q2 j (Nat.zero_le _) hj
theorem Ev.succ {α : Type} {g : Nat → Option α} {r : α} (h : Ev (fun k => g (k + 1)) r) : Ev g r := Ev.step (fun _ => rfl) h
theorem Ev.now' {α : Type} {a b : α} (h : a = b) : Ev (fun _ => some a) b := h ▸ Ev.now a
theorem lit_i64 {x : Int} (h : (Lit.int .i64 x).wf = true) : -9223372036854775808 ≤ x ∧ x ≤ 9223372036854775807 := by
 have h2 : (decide (IntKind.i64.min ≤ x) && decide (x ≤ IntKind.i64.max)) = true := h
 simp only [Bool.and_eq_true, decide_eq_true_eq] at h2
 exact h2
def memoOk (b : ByteArray) : Bool := decide (b.size ≤ 20) && (List.range b.size).all fun i : Nat => decide (32 ≤ bt b (i : Int)) && decide (bt b (i : Int) ≤ 126)
theorem specMemo_ev (b : ByteArray) (hb : b.size ≤ 1048576) : Ev (fun k => spec_l27Memo.f k b) (memoOk b) := by
 unfold spec_l27Memo.f
 have key := ev_all (fun k i => spec_l27Memo.l0 k b i) (List.range b.size) 0 (fun i : Nat => decide (32 ≤ bt b (i : Int)) && decide (bt b (i : Int) ≤ 126)) false (decide (b.size ≤ 20)) (fun i hi hp s hs => ?_) (fun i hi hp => ?_) ?_
 ·
  unfold memoOk
  revert key
  cases (List.range b.size).all (fun i : Nat => decide (32 ≤ bt b (i : Int)) && decide (bt b (i : Int) ≤ 126)) with
  | true => rw [Bool.and_true]; exact id
  | false => rw [Bool.and_false]; exact id
 ·
  rw [List.length_range] at hi
  rw [getD_lt 0 (by simpa using hi), List.getElem_range, Bool.and_eq_true, decide_eq_true_eq, decide_eq_true_eq] at hp
  refine Ev.succ ?_
  simp (disch := omega) only [spec_l27Memo.l0, if_pos, if_neg, w64]
  exact hs
 ·
  rw [List.length_range] at hi
  rw [getD_lt 0 (by simpa using hi), List.getElem_range, Bool.and_eq_false_iff, decide_eq_false_iff_not, decide_eq_false_iff_not] at hp
  refine Ev.succ ?_
  by_cases c : bt b (i : Int) < 32
  ·
   simp (disch := omega) only [spec_l27Memo.l0, if_pos]; exact Ev.now _
  ·
   simp (disch := omega) only [spec_l27Memo.l0, if_pos, if_neg]; exact Ev.now _
 ·
  refine Ev.succ ?_
  simp only [spec_l27Memo.l0, List.length_range, Int.lt_irrefl, if_false]
  exact Ev.now' (by rw [decide_eq_decide]; omega)
theorem implMemo_ev (b : ByteArray) (hb : b.size ≤ 1048576) : Ev (fun k => impl_memoValid.f k b) (memoOk b) := by
 unfold impl_memoValid.f memoOk
 by_cases hn : b.size ≤ 20
 ·
  rw [decide_eq_true hn, Bool.true_and]
  simp only [show ((b.size : Nat) : Int) ≤ 20 by omega, if_true]
  have key := ev_all (fun k i => impl_bytesWithin.l0 k b 32 126 (b.size : Int) i) (List.range b.size) 0 (fun i : Nat => decide (32 ≤ bt b (i : Int)) && decide (bt b (i : Int) ≤ 126)) false true (fun i hi hp s hs => ?_) (fun i hi hp => ?_) ?_
  ·
   have hk : Ev (fun k => impl_bytesWithin.f k b 32 126) ((List.range b.size).all (fun i : Nat => decide (32 ≤ bt b (i : Int)) && decide (bt b (i : Int) ≤ 126))) := by
    unfold impl_bytesWithin.f
    revert key
    cases (List.range b.size).all (fun i : Nat => decide (32 ≤ bt b (i : Int)) && decide (bt b (i : Int) ≤ 126)) <;> exact id
   exact Ev.bind hk (Ev.now _)
  ·
   rw [List.length_range] at hi
   rw [getD_lt 0 (by simpa using hi), List.getElem_range, Bool.and_eq_true, decide_eq_true_eq, decide_eq_true_eq] at hp
   refine Ev.succ ?_
   simp (disch := omega) only [impl_bytesWithin.l0, if_pos, if_neg, w64]
   exact hs
  ·
   rw [List.length_range] at hi
   rw [getD_lt 0 (by simpa using hi), List.getElem_range, Bool.and_eq_false_iff, decide_eq_false_iff_not, decide_eq_false_iff_not] at hp
   refine Ev.succ ?_
   by_cases c : bt b (i : Int) < 32
   ·
    simp (disch := omega) only [impl_bytesWithin.l0, if_pos]; exact Ev.now _
   ·
    simp (disch := omega) only [impl_bytesWithin.l0, if_pos, if_neg]; exact Ev.now _
  ·
   refine Ev.succ ?_
   simp only [impl_bytesWithin.l0, List.length_range, Int.lt_irrefl, if_false]
   exact Ev.now _
 ·
  rw [decide_eq_false hn, Bool.false_and]
  simp only [show ¬ ((b.size : Nat) : Int) ≤ 20 by omega, if_false]
  exact Ev.now _
def inR (lo hi x : Int) : Bool := decide (lo ≤ x) && decide (x ≤ hi)
abbrev Bs := List UInt8
theorem bs_irr (x : Bs) : ¬ x < x := List.lt_irrefl x
theorem bs_tr {x y z : Bs} (h1 : x < y) (h2 : y < z) : x < z := List.lt_trans h1 h2
theorem bs_tri {x y : Bs} (h1 : ¬ x < y) (h2 : x ≠ y) : y < x := by
 refine Classical.byContradiction fun h3 => h2 ?_
 exact List.le_antisymm (List.not_lt.1 h3) (List.not_lt.1 h1)
theorem strict_ext : ∀ (xs ys : List Bs), xs.Pairwise (· < ·) → ys.Pairwise (· < ·) → (∀ a, a ∈ xs ↔ a ∈ ys) → xs = ys
 | [], [], _, _, _ => rfl
 | [], y :: ys, _, _, h => absurd ((h y).2 List.mem_cons_self) (by simp)
 | x :: xs, [], _, _, h => absurd ((h x).1 List.mem_cons_self) (by simp)
 | x :: xs, y :: ys, hx, hy, h => by
  obtain ⟨hx1, hx2⟩ := List.pairwise_cons.1 hx
  obtain ⟨hy1, hy2⟩ := List.pairwise_cons.1 hy
  have e : x = y := by
   rcases List.mem_cons.1 ((h x).1 List.mem_cons_self) with e | m1
   ·
    exact e
   ·
    rcases List.mem_cons.1 ((h y).2 List.mem_cons_self) with e | m2
    ·
     exact e.symm
    ·
     exact absurd (bs_tr (hy1 x m1) (hx1 y m2)) (bs_irr y)
  subst e
  congr 1
  refine strict_ext xs ys hx2 hy2 fun a => ⟨fun ha => ?_, fun ha => ?_⟩
  ·
   rcases List.mem_cons.1 ((h a).1 (List.mem_cons_of_mem _ ha)) with e | m
   ·
    subst e; exact absurd (hx1 a ha) (bs_irr a)
   ·
    exact m
  ·
   rcases List.mem_cons.1 ((h a).2 (List.mem_cons_of_mem _ ha)) with e | m
   ·
    subst e; exact absurd (hy1 a ha) (bs_irr a)
   ·
    exact m
def insU (x : Bs) : List Bs → List Bs
 | [] => [x]
 | y :: ys => if y < x then y :: insU x ys else if y = x then y :: ys else x :: y :: ys
theorem insU_mem (x a : Bs) : ∀ ys : List Bs, a ∈ insU x ys ↔ a = x ∨ a ∈ ys
 | [] => by simp [insU]
 | y :: ys => by
  unfold insU
  split
  ·
   rw [List.mem_cons, insU_mem x a ys, List.mem_cons]
   constructor
   ·
    rintro (h | h | h) <;> simp [h]
   ·
    rintro (h | h | h) <;> simp [h]
  ·
   split
   ·
    rename_i e
    subst e
    simp
   ·
    simp
theorem insU_strict (x : Bs) : ∀ ys : List Bs, ys.Pairwise (· < ·) → (insU x ys).Pairwise (· < ·)
 | [], _ => by simp [insU]
 | y :: ys, h => by
  obtain ⟨h1, h2⟩ := List.pairwise_cons.1 h
  unfold insU
  split
  ·
   rename_i hyx
   refine List.pairwise_cons.2 ⟨fun a ha => ?_, insU_strict x ys h2⟩
   rcases (insU_mem x a ys).1 ha with e | m
   ·
    subst e; exact hyx
   ·
    exact h1 a m
  ·
   split
   ·
    exact h
   ·
    rename_i h3 h4
    have hxy := bs_tri h3 h4
    refine List.pairwise_cons.2 ⟨fun a ha => ?_, h⟩
    rcases List.mem_cons.1 ha with e | m
    ·
     subst e; exact hxy
    ·
     exact bs_tr hxy (h1 a m)
theorem foldU_spec : ∀ (xs out : List Bs), out.Pairwise (· < ·) → (xs.foldl (fun o x => insU x o) out).Pairwise (· < ·) ∧ ∀ a, a ∈ xs.foldl (fun o x => insU x o) out ↔ a ∈ xs ∨ a ∈ out
 | [], out, h => ⟨h, fun a => by simp⟩
 | x :: xs, out, h => by
  obtain ⟨h1, h2⟩ := foldU_spec xs (insU x out) (insU_strict x out h)
  refine ⟨h1, fun a => ?_⟩
  rw [List.foldl_cons, h2 a, insU_mem, List.mem_cons]
  constructor
  ·
   rintro (h | h | h) <;> simp [h]
  ·
   rintro ((h | h) | h) <;> simp [h]
theorem compact_spec (zs : List Bs) (hs : zs.Pairwise (· ≤ ·)) : (Lib.compact zs).Pairwise (· < ·) ∧ ∀ a, a ∈ Lib.compact zs ↔ a ∈ zs := by
 have hle : ∀ i j, i ≤ j → j < zs.length → zs[i]! ≤ zs[j]! := by
  intro i j hij hj
  rcases Nat.lt_or_eq_of_le hij with h | h
  ·
   have := List.pairwise_iff_getElem.1 hs i j (by omega) hj h
   rwa [getElem!_pos zs i (by omega), getElem!_pos zs j hj]
  ·
   subst h; exact List.le_refl _
 have key : ∀ m, m ≤ zs.length → (Lib.compactUpTo zs.toArray m).Pairwise (· < ·) ∧ (∀ a, a ∈ Lib.compactUpTo zs.toArray m ↔ ∃ j, j < m ∧ a = zs[j]!) := by
  intro m
  induction m with
  | zero => intro _; exact ⟨by simp [Lib.compactUpTo], by simp [Lib.compactUpTo]⟩
  | succ m ih =>
   intro hm
   obtain ⟨h1, h2⟩ := ih (by omega)
   have hg : ∀ j : Nat, zs.toArray[j]! = zs[j]! := fun j => by simp
   rw [Lib.compactUpTo_succ]
   cases hk : Lib.keeps zs.toArray m with
   | true =>
    rw [if_pos rfl, hg]
    refine ⟨List.pairwise_append.2 ⟨h1, List.pairwise_singleton _ _, fun a ha b hb => ?_⟩, fun a => ?_⟩
    ·
     obtain ⟨j, hj, rfl⟩ := (h2 a).1 ha
     rw [List.mem_singleton] at hb
     subst hb
     have h3 := hle j (m - 1) (by omega) (by omega)
     have h4 := hle (m - 1) m (by omega) (by omega)
     have h5 : zs[m]! ≠ zs[m - 1]! := by
      simp only [Lib.keeps, decide_eq_true_eq, hg] at hk
      rcases hk with hk | hk
      ·
       omega
      ·
       exact hk
     have h6 : zs[m - 1]! < zs[m]! := Classical.byContradiction fun h7 => h5 (List.le_antisymm (List.not_lt.1 h7) h4)
     exact Classical.byContradiction fun h7 => (List.not_lt.2 (List.le_trans (List.not_lt.1 h7) h3)) h6
    ·
     rw [List.mem_append, h2 a, List.mem_singleton]
     constructor
     ·
      rintro (⟨j, hj, e⟩ | e)
      ·
       exact ⟨j, by omega, e⟩
      ·
       exact ⟨m, by omega, e⟩
     ·
      rintro ⟨j, hj, e⟩
      by_cases hjm : j = m
      ·
       subst hjm; exact .inr e
      ·
       exact .inl ⟨j, by omega, e⟩
   | false =>
    rw [if_neg (by decide), List.append_nil]
    refine ⟨h1, fun a => ?_⟩
    rw [h2 a]
    have hm0 : 0 < m ∧ zs[m]! = zs[m - 1]! := by
     simp only [Lib.keeps, decide_eq_false_iff_not, hg] at hk
     exact ⟨by omega, Classical.byContradiction fun h => hk (.inr h)⟩
    constructor
    ·
     rintro ⟨j, hj, e⟩; exact ⟨j, by omega, e⟩
    ·
     rintro ⟨j, hj, e⟩
     by_cases hjm : j = m
     ·
      subst hjm; exact ⟨j - 1, by omega, by rw [e, hm0.2]⟩
     ·
      exact ⟨j, by omega, e⟩
 obtain ⟨h1, h2⟩ := key zs.length (Nat.le_refl _)
 refine ⟨h1, fun a => ?_⟩
 unfold Lib.compact
 rw [h2 a]
 constructor
 ·
  rintro ⟨j, hj, rfl⟩
  rw [getElem!_pos zs j hj]
  exact List.getElem_mem _
 ·
  intro ha
  obtain ⟨j, hj, rfl⟩ := List.mem_iff_getElem.1 ha
  exact ⟨j, hj, by rw [getElem!_pos zs j hj]⟩
theorem sort_spec (zs : List Bs) : (zs.mergeSort fun x y => decide (x ≤ y)).Pairwise (· ≤ ·) ∧ ∀ a, a ∈ (zs.mergeSort fun x y => decide (x ≤ y)) ↔ a ∈ zs := by
 refine ⟨?_, fun a => List.mem_mergeSort⟩
 have tr : ∀ a b c : Bs, decide (a ≤ b) = true → decide (b ≤ c) = true → decide (a ≤ c) = true := fun a b c h1 h2 => by simp only [decide_eq_true_eq] at *; exact List.le_trans h1 h2
 have tt : ∀ a b : Bs, (decide (a ≤ b) || decide (b ≤ a)) = true := fun a b => by simp only [Bool.or_eq_true, decide_eq_true_eq]; exact List.le_total a b
 exact (List.pairwise_mergeSort tr tt zs).imp fun h => of_decide_eq_true h
theorem fold_eq_compact (zs : List Bs) : zs.foldl (fun o x => insU x o) [] = Lib.compact (zs.mergeSort fun x y => decide (x ≤ y)) := by
 obtain ⟨h1, h2⟩ := foldU_spec zs [] List.Pairwise.nil
 obtain ⟨h3, h4⟩ := sort_spec zs
 obtain ⟨h5, h6⟩ := compact_spec _ h3
 exact strict_ext _ _ h1 h5 fun a => by rw [h2 a, h6 a, h4 a]; simp
theorem bytesLess_iff : ∀ (a b : List UInt8), Op.bytesLess a b = true ↔ a < b
 | [], [] => by simp [Op.bytesLess]
 | [], y :: ys => by simp [Op.bytesLess]
 | x :: xs, [] => by simp [Op.bytesLess]
 | x :: xs, y :: ys => by
  have ih := bytesLess_iff xs ys
  simp only [Op.bytesLess, List.cons_lt_cons_iff]
  by_cases h : x = y
  ·
   subst h
   simp [ih]
  ·
   simp [h]
def mkB (x : Bs) : ByteArray := ⟨x.toArray⟩
theorem bltB (a b : ByteArray) : (Op.bytesLess a.toList b.toList = true) ↔ a.data.toList < b.data.toList := by
 rw [bytesLess_iff, ByteArray.toList_eq, ByteArray.toList_eq]
theorem beqB (a b : ByteArray) : (a.toList = b.toList) ↔ a = b := by
 rw [ByteArray.toList_eq, ByteArray.toList_eq]
 constructor
 ·
  intro h
  cases a; cases b
  congr 1
  exact Array.ext' h
 ·
  intro h; rw [h]
theorem ext_data {a b : ByteArray} (h : a.data.toList = b.data.toList) : a = b := by
 cases a; cases b
 congr 1
 exact Array.ext' h
def settOk (x : S71) : Bool := nameOk x.f0 && inR 0 1000 x.f1
def settAt (l : List S71) (i : Nat) : Bool := settOk (l.getD i z71) && (decide (i = 0) || decide ((l.getD (i - 1) z71).f0.data.toList < (l.getD i z71).f0.data.toList))
def stateOk (l : List S71) : Bool := decide (l.length ≤ 24) && (List.range l.length).all (settAt l)
theorem rdSt (l : List S71) (i : Nat) : rd_T71 l (i : Int) = l.getD i z71 := by unfold rd_T71; rw [Int.toNat_natCast]
theorem rdSts (l : List S71) (i : Nat) (h : 0 < i) : rd_T71 l ((i : Int) - 1) = l.getD (i - 1) z71 := by
 unfold rd_T71
 congr 1
 omega
def skey (x : S71) : Bs := x.f0.data.toList
theorem stateOk_facts {l : List S71} (h : stateOk l = true) : l.length ≤ 24 ∧ (l.map skey).Pairwise (· < ·) ∧ ∀ x ∈ l, settOk x = true := by
 unfold stateOk at h
 rw [Bool.and_eq_true, decide_eq_true_eq, List.all_eq_true] at h
 obtain ⟨h1, h2⟩ := h
 have h3 : ∀ i, i < l.length → settAt l i = true := fun i hi => h2 i (List.mem_range.2 hi)
 refine ⟨h1, ?_, fun x hx => ?_⟩
 ·
  rw [List.pairwise_iff_getElem]
  have step : ∀ i, (hi : i + 1 < l.length) → skey l[i] < skey l[i + 1] := fun i hi => by
   have := h3 (i + 1) hi
   unfold settAt at this
   rw [Bool.and_eq_true, Bool.or_eq_true, decide_eq_true_eq, decide_eq_true_eq] at this
   have h4 := this.2.resolve_left (by omega)
   rw [Nat.add_sub_cancel, getD_lt _ (by omega), getD_lt _ hi] at h4
   exact h4
  have far : ∀ m i, (hi : i + m + 1 < l.length) → skey (l[i]'(by omega)) < skey (l[i + m + 1]'hi) := by
   intro m
   induction m with
   | zero => intro i hi; exact step i hi
   | succ m ih =>
    intro i hi
    exact bs_tr (ih i (by omega)) (step (i + m + 1) hi)
  intro i j hi hj hij
  rw [List.length_map] at hi hj
  rw [List.getElem_map, List.getElem_map]
  have e : j = i + (j - i - 1) + 1 := by omega
  have := far (j - i - 1) i (by omega)
  simpa only [← e] using this
 ·
  obtain ⟨i, hi, rfl⟩ := List.mem_iff_getElem.1 hx
  have := h3 i hi
  unfold settAt at this
  rw [Bool.and_eq_true, getD_lt _ hi] at this
  exact this.1
theorem settOk_pos {x : S71} (h : settOk x = true) : 1 ≤ x.f0.size := by
 unfold settOk nameOk at h
 rw [Bool.and_eq_true, Bool.and_eq_true, decide_eq_true_eq] at h
 exact h.1.1
def verAt (l : List S104) (i : Nat) : Bool := decide ((l.getD i z104).f0 = (i : Int) + 1) && (inR 0 (i : Int) (l.getD i z104).f1 && (memoOk (l.getD i z104).f2 && stateOk (l.getD i z104).f3))
def histOk (l : List S104) : Bool := decide (l.length ≤ 32) && (List.range l.length).all (verAt l)
theorem rdV (l : List S104) (i : Nat) : rd_T104 l (i : Int) = l.getD i z104 := by unfold rd_T104; rw [Int.toNat_natCast]
theorem histOk_facts {l : List S104} (h : histOk l = true) : l.length ≤ 32 ∧ ∀ i, i < l.length → (l.getD i z104).f0 = (i : Int) + 1 ∧ 0 ≤ (l.getD i z104).f1 ∧ (l.getD i z104).f1 ≤ i ∧ memoOk (l.getD i z104).f2 = true ∧ stateOk (l.getD i z104).f3 = true := by
 unfold histOk at h
 rw [Bool.and_eq_true, decide_eq_true_eq, List.all_eq_true] at h
 refine ⟨h.1, fun i hi => ?_⟩
 have := h.2 i (List.mem_range.2 hi)
 unfold verAt inR at this
 simp only [Bool.and_eq_true, decide_eq_true_eq] at this
 obtain ⟨a, ⟨b, c⟩, d, e⟩ := this
 exact ⟨a, b, c, d, e⟩
theorem specIn_eq (a lo hi : Int) : spec_l00In.f a lo hi = some (inR lo hi a) := by
 unfold spec_l00In.f inR
 by_cases h : a ≥ lo
 ·
  rw [if_pos h, decide_eq_true (show lo ≤ a from h)]; rfl
 ·
  rw [if_neg h, decide_eq_false (show ¬ lo ≤ a from h)]; rfl
theorem specSmall_eq (c : Int) : spec_l01Small.f c = some (smallC c) := by
 unfold spec_l01Small.f smallC
 by_cases h : c ≥ 97
 ·
  rw [if_pos h, decide_eq_true (show 97 ≤ c from h)]; rfl
 ·
  rw [if_neg h, decide_eq_false (show ¬ 97 ≤ c from h)]; rfl
theorem specDigit_eq (c : Int) : spec_l01Digit.f c = some (digitC c) := by
 unfold spec_l01Digit.f digitC
 by_cases h : c ≥ 48
 ·
  rw [if_pos h, decide_eq_true (show 48 ≤ c from h)]; rfl
 ·
  rw [if_neg h, decide_eq_false (show ¬ 48 ≤ c from h)]; rfl
theorem specName_ev (b : ByteArray) : Ev (fun k => spec_l01Name.f k b) (nameOk b) := by
 unfold spec_l01Name.f nameOk
 have hz : b.toList = ([] : List UInt8) ↔ b.size = 0 := by
  rw [ByteArray.toList_eq, show b.size = b.data.toList.length from rfl]
  exact List.length_eq_zero_iff.symm
 by_cases h1 : b.size < 1
 ·
  rw [decide_eq_false (by omega), Bool.false_and]
  simp only [show b.toList = ([] : List UInt8) from hz.2 (by omega), if_true]
  exact Ev.step (f := fun _ => some false) (fun k => by simp [spec_l01Name.j0]) (Ev.now _)
 ·
  rw [decide_eq_true (show 1 ≤ b.size by omega), Bool.true_and]
  simp only [show ¬ b.toList = ([] : List UInt8) from fun e => by have := hz.1 e; omega, if_false]
  by_cases h10 : b.size > 10
  ·
   rw [decide_eq_false (show ¬ b.size ≤ 10 by omega), Bool.false_and]
   simp only [show (b.size : Int) > 10 by omega, if_true]
   exact Ev.step (f := fun _ => some false) (fun k => by simp [spec_l01Name.j0]) (Ev.now _)
  ·
   rw [decide_eq_true (show b.size ≤ 10 by omega), Bool.true_and]
   simp only [show ¬ (b.size : Int) > 10 by omega, if_false, show 0 < (b.size : Int) by omega, if_true, specSmall_eq, Option.bind_some]
   cases hs : smallC (bt b 0) with
   | false =>
    rw [Bool.false_and]
    exact Ev.step (f := fun _ => some false) (fun k => by simp [spec_l01Name.j0]) (Ev.now _)
   | true =>
    rw [Bool.true_and]
    refine Ev.step (f := fun k => spec_l01Name.l0 k b 0) (fun k => by simp [spec_l01Name.j0]) ?_
    have key := ev_all (fun k i => spec_l01Name.l0 k b i) (List.range b.size) 0 (fun i => nameC (bt b i)) false true (fun i hi hp s hs2 => ?_) (fun i hi hp => ?_) ?_
    ·
     revert key
     cases (List.range b.size).all fun i => nameC (bt b i) <;> exact id
    ·
     rw [List.length_range] at hi
     rw [getD_lt 0 (by simpa using hi), List.getElem_range] at hp
     refine Ev.step (fun k => ?_) hs2
     simp only [spec_l01Name.l0]
     rw [if_pos (by omega), if_pos (by omega), specSmall_eq, specDigit_eq]
     simp only [Option.bind_some]
     unfold nameC at hp
     cases h3 : smallC (bt b i) with
     | true => rw [if_pos rfl, w64 (by omega) (by omega)]; rfl
     | false =>
      rw [h3, Bool.false_or] at hp
      rw [hp, if_neg (by decide), if_pos rfl, w64 (by omega) (by omega)]
      rfl
    ·
     rw [List.length_range] at hi
     rw [getD_lt 0 (by simpa using hi), List.getElem_range] at hp
     refine Ev.step (f := fun _ => some false) (fun k => ?_) (Ev.now _)
     simp only [spec_l01Name.l0]
     unfold nameC at hp
     rw [Bool.or_eq_false_iff] at hp
     rw [if_pos (by omega), if_pos (by omega), specSmall_eq, specDigit_eq, hp.1, hp.2]
     rfl
    ·
     refine Ev.step (f := fun _ => some true) (fun k => ?_) (Ev.now _)
     simp only [spec_l01Name.l0]
     rw [List.length_range, if_neg (by omega)]
theorem specSett_ev (x : S71) : Ev (fun k => spec_l27Setting.f k [x]) (settOk x) := by
 unfold spec_l27Setting.f settOk
 have e : rd_T71 [x] 0 = x := rfl
 simp only [e, List.length_singleton, show (0 : Int) < ((1 : Nat) : Int) by decide, if_true, specIn_eq, Option.bind_some]
 refine Ev.bind (specName_ev x.f0) ?_
 cases nameOk x.f0 with
 | false => exact Ev.now _
 | true => exact Ev.now _
theorem specState_ev (l : List S71) (hl : l.length ≤ 1048576) : Ev (fun k => spec_l27State.f k l) (stateOk l) := by
 unfold spec_l27State.f
 have key := ev_all (fun k i => spec_l27State.l0 k l i) (List.range l.length) 0 (settAt l) false (decide (l.length ≤ 24)) (fun i hi hp s hs => ?_) (fun i hi hp => ?_) ?_
 ·
  unfold stateOk
  revert key
  cases (List.range l.length).all (settAt l) with
  | true => rw [Bool.and_true]; exact id
  | false => rw [Bool.and_false]; exact id
 ·
  rw [List.length_range] at hi
  rw [getD_lt 0 (by simpa using hi), List.getElem_range] at hp
  unfold settAt at hp
  rw [Bool.and_eq_true, Bool.or_eq_true, decide_eq_true_eq, decide_eq_true_eq] at hp
  refine Ev.succ ?_
  simp (disch := omega) only [spec_l27State.l0, if_pos, w64, rdSt]
  have h1 := specSett_ev (l.getD i z71)
  rw [hp.1] at h1
  refine Ev.bind h1 ?_
  by_cases h0 : 0 < i
  ·
   have := hp.2.resolve_left (by omega)
   simp (disch := omega) only [rdSts, if_pos, if_neg, bltB, this, if_true]
   exact hs
  ·
   simp (disch := omega) only [if_pos, if_neg]
   exact hs
 ·
  rw [List.length_range] at hi
  rw [getD_lt 0 (by simpa using hi), List.getElem_range] at hp
  unfold settAt at hp
  refine Ev.succ ?_
  simp (disch := omega) only [spec_l27State.l0, if_pos, w64, rdSt]
  refine Ev.bind (specSett_ev (l.getD i z71)) ?_
  cases ho : settOk (l.getD i z71) with
  | false => exact Ev.now _
  | true =>
   rw [ho, Bool.true_and, Bool.or_eq_false_iff, decide_eq_false_iff_not, decide_eq_false_iff_not] at hp
   simp (disch := omega) only [rdSts, if_pos, if_neg, bltB, hp.2, if_false]
   exact Ev.now _
 ·
  refine Ev.succ ?_
  simp only [spec_l27State.l0, List.length_range, Int.lt_irrefl, if_false]
  exact Ev.now' (by rw [decide_eq_decide]; omega)
theorem specHist_ev (l : List S104) (hl : l.length ≤ 1048576) (h2 : ∀ x ∈ l, x.f2.size ≤ 1048576 ∧ x.f3.length ≤ 1048576) : Ev (fun k => spec_l27Ok.f k l) (histOk l) := by
 unfold spec_l27Ok.f
 have key := ev_all (fun k i => spec_l27Ok.l0 k l i) (List.range l.length) 0 (verAt l) false (decide (l.length ≤ 32)) (fun i hi hp s hs => ?_) (fun i hi hp => ?_) ?_
 ·
  unfold histOk
  revert key
  cases (List.range l.length).all (verAt l) with
  | true => rw [Bool.and_true]; exact id
  | false => rw [Bool.and_false]; exact id
 ·
  rw [List.length_range] at hi
  rw [getD_lt 0 (by simpa using hi), List.getElem_range] at hp
  obtain ⟨m2, m3⟩ := h2 _ (getD_mem z104 hi)
  unfold verAt at hp
  simp only [Bool.and_eq_true, decide_eq_true_eq] at hp
  obtain ⟨a1, a2, a3, a4⟩ := hp
  refine Ev.succ ?_
  simp (disch := omega) only [spec_l27Ok.l0, if_pos, w64, rdV, a1, if_true, specIn_eq, Option.bind_some, a2]
  have e1 := specMemo_ev _ m2
  rw [a3] at e1
  have e2 := specState_ev _ m3
  rw [a4] at e2
  refine Ev.bind e1 ?_
  simp only [if_true]
  refine Ev.bind e2 ?_
  simp only [if_true]
  exact hs
 ·
  rw [List.length_range] at hi
  rw [getD_lt 0 (by simpa using hi), List.getElem_range] at hp
  obtain ⟨m2, m3⟩ := h2 _ (getD_mem z104 hi)
  unfold verAt at hp
  refine Ev.succ ?_
  simp (disch := omega) only [spec_l27Ok.l0, if_pos, w64, rdV, specIn_eq, Option.bind_some]
  by_cases c1 : (l.getD i z104).f0 = (i : Int) + 1
  ·
   rw [decide_eq_true c1, Bool.true_and] at hp
   simp only [c1, if_true]
   cases c2 : inR 0 (i : Int) (l.getD i z104).f1 with
   | false => exact Ev.now _
   | true =>
    rw [c2, Bool.true_and] at hp
    simp only [if_true]
    refine Ev.bind (specMemo_ev _ m2) ?_
    cases c3 : memoOk (l.getD i z104).f2 with
    | false => exact Ev.now _
    | true =>
     rw [c3, Bool.true_and] at hp
     simp only [if_true]
     have e2 := specState_ev _ m3
     rw [hp] at e2
     refine Ev.bind e2 ?_
     exact Ev.now _
  ·
   simp only [c1, if_false]
   exact Ev.now _
 ·
  refine Ev.succ ?_
  simp only [spec_l27Ok.l0, List.length_range, Int.lt_irrefl, if_false]
  exact Ev.now' (by rw [decide_eq_decide]; omega)
theorem implIn_eq (a lo hi : Int) : impl_within.f a lo hi = some (inR lo hi a) := rfl
theorem implBytes_ev (b : ByteArray) (hb : b.size ≤ 10) : Ev (fun k => impl_onlyNameBytes.f k b) ((List.range b.size).all fun i => nameC (bt b i)) := by
 unfold impl_onlyNameBytes.f
 have key := ev_all (fun k i => impl_onlyNameBytes.l0 k b b.size i) (List.range b.size) 0 (fun i => nameC (bt b i)) false true (fun i hi hp s hs2 => ?_) (fun i hi hp => ?_) ?_
 ·
  revert key
  cases (List.range b.size).all fun i => nameC (bt b i) <;> exact id
 ·
  rw [List.length_range] at hi
  rw [getD_lt 0 (by simpa using hi), List.getElem_range] at hp
  refine Ev.step (fun k => ?_) hs2
  simp only [impl_onlyNameBytes.l0]
  rw [if_pos (by omega), if_pos (by omega), if_pos (by omega), w64 (by omega) (by omega)]
  simp only [nameC, smallC, digitC, Bool.or_eq_true, Bool.and_eq_true, decide_eq_true_eq] at hp
  split
  ·
   rw [if_neg (by omega), if_neg (by omega)]; rfl
  ·
   split
   ·
    omega
   ·
    rfl
 ·
  rw [List.length_range] at hi
  rw [getD_lt 0 (by simpa using hi), List.getElem_range] at hp
  refine Ev.step (f := fun _ => some false) (fun k => ?_) (Ev.now _)
  simp only [impl_onlyNameBytes.l0]
  rw [if_pos (by omega), if_pos (by omega), if_pos (by omega)]
  simp only [nameC, smallC, digitC, Bool.or_eq_false_iff, Bool.and_eq_false_iff, decide_eq_false_iff_not] at hp
  split
  ·
   split
   ·
    rfl
   ·
    rw [if_pos (by omega)]
  ·
   split
   ·
    rw [if_neg (by omega), if_pos (by omega)]
   ·
    omega
 ·
  refine Ev.step (f := fun _ => some true) (fun k => ?_) (Ev.now _)
  simp only [impl_onlyNameBytes.l0]
  rw [List.length_range, if_neg (by omega)]
theorem implName_ev (b : ByteArray) : Ev (fun k => impl_IsName.f k b) (nameOk b) := by
 unfold impl_IsName.f nameOk
 by_cases h1 : b.size < 1
 ·
  rw [decide_eq_false (by omega), Bool.false_and]
  simp only [show (b.size : Int) < 1 by omega, if_true]
  exact Ev.now _
 ·
  rw [decide_eq_true (show 1 ≤ b.size by omega), Bool.true_and]
  simp only [show ¬ (b.size : Int) < 1 by omega, if_false]
  by_cases h10 : b.size > 10
  ·
   rw [decide_eq_false (show ¬ b.size ≤ 10 by omega), Bool.false_and]
   simp only [show (b.size : Int) > 10 by omega, if_true]
   exact Ev.now _
  ·
   rw [decide_eq_true (show b.size ≤ 10 by omega), Bool.true_and]
   simp only [show ¬ (b.size : Int) > 10 by omega, if_false, show 0 < (b.size : Int) by omega, if_true]
   unfold smallC
   by_cases g1 : bt b 0 < 97
   ·
    simp only [g1, if_true, decide_eq_false (show ¬ 97 ≤ bt b 0 by omega), Bool.false_and]
    exact Ev.now _
   ·
    simp only [g1, if_false, decide_eq_true (show 97 ≤ bt b 0 by omega), Bool.true_and]
    by_cases g2 : bt b 0 > 122
    ·
     simp only [g2, if_true, decide_eq_false (show ¬ bt b 0 ≤ 122 by omega), Bool.false_and]
     exact Ev.now _
    ·
     simp only [g2, if_false, decide_eq_true (show bt b 0 ≤ 122 by omega), Bool.true_and]
     refine Ev.bind (implBytes_ev b (by omega)) ?_
     exact Ev.now _
theorem implSett_ev (x : S71) : Ev (fun k => impl_Setting_valid.f k x.f0 x.f1) (settOk x) := by
 unfold impl_Setting_valid.f settOk
 simp only [implIn_eq, Option.bind_some]
 refine Ev.bind (implName_ev x.f0) ?_
 cases nameOk x.f0 with
 | false => exact Ev.now _
 | true => exact Ev.now _
theorem implState_ev (l : List S71) (hl : l.length ≤ 1048576) : Ev (fun k => impl_ValidState.f k l) (stateOk l) := by
 unfold impl_ValidState.f stateOk
 by_cases hn : l.length > 24
 ·
  rw [decide_eq_false (by omega), Bool.false_and]
  simp only [show (l.length : Int) > 24 by omega, if_true]
  exact Ev.now _
 rw [decide_eq_true (show l.length ≤ 24 by omega), Bool.true_and]
 simp only [show ¬ (l.length : Int) > 24 by omega, if_false]
 have key := ev_all (fun k i => impl_ValidState.l0 k l l l.length i) (List.range l.length) 0 (settAt l) false true (fun i hi hp s hs => ?_) (fun i hi hp => ?_) ?_
 ·
  revert key
  cases (List.range l.length).all (settAt l) <;> exact id
 ·
  rw [List.length_range] at hi
  rw [getD_lt 0 (by simpa using hi), List.getElem_range] at hp
  unfold settAt at hp
  rw [Bool.and_eq_true, Bool.or_eq_true, decide_eq_true_eq, decide_eq_true_eq] at hp
  refine Ev.succ ?_
  simp (disch := omega) only [impl_ValidState.l0, if_pos, w64, rdSt]
  have h1 := implSett_ev (l.getD i z71)
  rw [hp.1] at h1
  refine Ev.bind h1 ?_
  by_cases h0 : 0 < i
  ·
   have := hp.2.resolve_left (by omega)
   simp (disch := omega) only [rdSts, if_pos, if_neg, bltB, this, if_true]
   exact hs
  ·
   simp (disch := omega) only [if_pos, if_neg]
   exact hs
 ·
  rw [List.length_range] at hi
  rw [getD_lt 0 (by simpa using hi), List.getElem_range] at hp
  unfold settAt at hp
  refine Ev.succ ?_
  simp (disch := omega) only [impl_ValidState.l0, if_pos, w64, rdSt]
  refine Ev.bind (implSett_ev (l.getD i z71)) ?_
  cases ho : settOk (l.getD i z71) with
  | false => exact Ev.now _
  | true =>
   rw [ho, Bool.true_and, Bool.or_eq_false_iff, decide_eq_false_iff_not, decide_eq_false_iff_not] at hp
   simp (disch := omega) only [rdSts, if_pos, if_neg, bltB, hp.2, if_false]
   exact Ev.now _
 ·
  refine Ev.succ ?_
  simp only [impl_ValidState.l0, List.length_range, Int.lt_irrefl, if_false]
  exact Ev.now _
theorem implHist_ev (l : List S104) (hl : l.length ≤ 1048576) (h2 : ∀ x ∈ l, x.f2.size ≤ 1048576 ∧ x.f3.length ≤ 1048576) : Ev (fun k => impl_ValidHistory.f k l) (histOk l) := by
 unfold impl_ValidHistory.f histOk
 by_cases hn : l.length ≤ 32
 rotate_left
 ·
  rw [decide_eq_false hn, Bool.false_and]
  simp only [show ((l.length : Nat) : Int) > 32 by omega, if_true]
  exact Ev.now _
 rw [decide_eq_true hn, Bool.true_and]
 simp only [show ¬ ((l.length : Nat) : Int) > 32 by omega, if_false]
 have key := ev_all (fun k i => impl_ValidHistory.l0 k l (l.length : Int) i) (List.range l.length) 0 (verAt l) false true (fun i hi hp s hs => ?_) (fun i hi hp => ?_) ?_
 ·
  revert key
  cases (List.range l.length).all (verAt l) <;> exact id
 ·
  rw [List.length_range] at hi
  rw [getD_lt 0 (by simpa using hi), List.getElem_range] at hp
  obtain ⟨m2, m3⟩ := h2 _ (getD_mem z104 hi)
  unfold verAt at hp
  simp only [Bool.and_eq_true, decide_eq_true_eq] at hp
  obtain ⟨a1, a2, a3, a4⟩ := hp
  refine Ev.succ ?_
  simp (disch := omega) only [impl_ValidHistory.l0, if_pos, w64, rdV, a1, if_true, implIn_eq, Option.bind_some, a2]
  have e1 := implMemo_ev _ m2
  rw [a3] at e1
  have e2 := implState_ev _ m3
  rw [a4] at e2
  refine Ev.bind e1 ?_
  simp only [if_true]
  refine Ev.bind e2 ?_
  simp only [if_true]
  exact hs
 ·
  rw [List.length_range] at hi
  rw [getD_lt 0 (by simpa using hi), List.getElem_range] at hp
  obtain ⟨m2, m3⟩ := h2 _ (getD_mem z104 hi)
  unfold verAt at hp
  refine Ev.succ ?_
  simp (disch := omega) only [impl_ValidHistory.l0, if_pos, w64, rdV, implIn_eq, Option.bind_some]
  by_cases c1 : (l.getD i z104).f0 = (i : Int) + 1
  ·
   rw [decide_eq_true c1, Bool.true_and] at hp
   simp only [c1, if_true]
   cases c2 : inR 0 (i : Int) (l.getD i z104).f1 with
   | false => exact Ev.now _
   | true =>
    rw [c2, Bool.true_and] at hp
    simp only [if_true]
    refine Ev.bind (implMemo_ev _ m2) ?_
    cases c3 : memoOk (l.getD i z104).f2 with
    | false => exact Ev.now _
    | true =>
     rw [c3, Bool.true_and] at hp
     simp only [if_true]
     have e2 := implState_ev _ m3
     rw [hp] at e2
     refine Ev.bind e2 ?_
     exact Ev.now _
  ·
   simp only [c1, if_false]
   exact Ev.now _
 ·
  refine Ev.succ ?_
  simp only [impl_ValidHistory.l0, List.length_range, Int.lt_irrefl, if_false]
  exact Ev.now _
theorem code_ev (l : List S104) (hl : l.length ≤ 1048576) (h2 : ∀ x ∈ l, x.f2.size ≤ 1048576 ∧ x.f3.length ≤ 1048576) (p q : Int) : Ev (fun k => impl_versionsCode.f k l [p, q]) (if histOk l = true then (if inR 1 (l.length : Int) p && inR 1 (l.length : Int) q then 0 else 3) else 1) := by
 unfold impl_versionsCode.f
 refine Ev.bind (implHist_ev l hl h2) ?_
 cases histOk l with
 | false => exact Ev.now _
 | true =>
  have e : impl_allWithin.f [p, q] 1 (l.length : Int) = some (inR 1 (l.length : Int) p && inR 1 (l.length : Int) q) := by
   unfold impl_allWithin.f inB inR
   simp
  simp only [if_true, e, Option.bind_some]
  cases inR 1 (l.length : Int) p && inR 1 (l.length : Int) q <;> exact Ev.now _
def par (l : List S104) : Prop := ∀ i, i < l.length → 0 ≤ (l.getD i z104).f1 ∧ (l.getD i z104).f1 ≤ i
def lineL (l : List S104) : Nat → Int → List Int
 | 0, _ => []
 | k + 1, p => if p > 0 then p :: lineL l k (l.getD (p - 1).toNat z104).f1 else []
theorem lineL_mem {l : List S104} (h : par l) : ∀ (k : Nat) (p : Int), p ≤ l.length → ∀ x ∈ lineL l k p, 1 ≤ x ∧ x ≤ p
 | 0, _, _, x, hx => by cases hx
 | k + 1, p, hp, x, hx => by
  unfold lineL at hx
  by_cases c : p > 0
  ·
   rw [if_pos c] at hx
   obtain ⟨b1, b2⟩ := h (p - 1).toNat (by omega)
   rcases List.mem_cons.1 hx with rfl | hx
   ·
    omega
   ·
    have := lineL_mem h k _ (by omega) x hx
    omega
  ·
   rw [if_neg c] at hx
   cases hx
theorem lineL_len (l : List S104) : ∀ (k : Nat) (p : Int), (lineL l k p).length ≤ k
 | 0, _ => Nat.le_refl _
 | k + 1, p => by
  unfold lineL
  split
  ·
   have := lineL_len l k (l.getD (p - 1).toNat z104).f1
   rw [List.length_cons]; omega
  ·
   simp
theorem lineOf_ev {l : List S104} (hl : l.length ≤ 32) (h : par l) : ∀ (m : Nat) (p : Int), 0 ≤ p → p < m → p ≤ l.length → ∀ (acc : List Int), acc.length + m ≤ 100 → Ev (fun k => impl_lineOf.l0 k l p acc) (acc ++ lineL l m p) := by
 intro m
 induction m with
 | zero => intro p h0 h1; omega
 | succ m ih =>
  intro p h0 h1 h2 acc ha
  refine Ev.succ ?_
  unfold lineL
  by_cases c : p > 0
  ·
   obtain ⟨b1, b2⟩ := h (p - 1).toNat (by omega)
   have er : rd_T104 l (p - 1) = l.getD (p - 1).toNat z104 := rfl
   simp only [impl_lineOf.l0, c, if_true]
   simp (disch := omega) only [w64, if_pos, er]
   have e := ih _ b1 (by omega) (by omega) (acc ++ [p]) (by rw [List.length_append, List.length_singleton]; omega)
   rw [List.append_assoc] at e
   exact e
  ·
   simp only [impl_lineOf.l0, c, if_false, List.append_nil]
   exact Ev.now _
theorem contI_ev (l : List Int) (x : Int) (hl : l.length ≤ 1000) : Ev (fun k => slices_Contains_int64_int64.f k l x) (decide (x ∈ l)) := by
 unfold slices_Contains_int64_int64.f slices_Index_int64_int64.f
 have key : ∀ (m i : Nat), i + m = l.length → ∃ r, Ev (fun k => slices_Index_int64_int64.l0 k l x (l.length : Int) (i : Int)) r ∧ decide (r ≥ 0) = decide (x ∈ l.drop i) := by
  intro m
  induction m with
  | zero =>
   intro i hi
   refine ⟨-1, Ev.succ ?_, ?_⟩
   ·
    simp only [slices_Index_int64_int64.l0, show ¬ (i : Int) < (l.length : Int) by omega, if_false]
    exact Ev.now _
   ·
    rw [List.drop_eq_nil_of_le (by omega)]
    simp
  | succ m ih =>
   intro i hi
   have ed : l.drop i = l.getD i 0 :: l.drop (i + 1) := by
    rw [getD_lt _ (by omega)]
    exact List.drop_eq_getElem_cons (by omega)
   have er : rd l (i : Int) = l.getD i 0 := rd_nat _ _
   by_cases c : x = l.getD i 0
   ·
    refine ⟨i, Ev.succ ?_, ?_⟩
    ·
     simp only [slices_Index_int64_int64.l0, show (i : Int) < (l.length : Int) by omega, show (0 : Int) ≤ (i : Int) by omega, if_true, er, c]
     exact Ev.now _
    ·
     rw [ed, decide_eq_true (show (i : Int) ≥ 0 by omega), decide_eq_true (by rw [c]; exact List.mem_cons_self)]
   ·
    obtain ⟨r, e, q⟩ := ih (i + 1) (by omega)
    refine ⟨r, Ev.succ ?_, ?_⟩
    ·
     simp only [slices_Index_int64_int64.l0, show (i : Int) < (l.length : Int) by omega, show (0 : Int) ≤ (i : Int) by omega, if_true, er, c, if_false]
     simp (disch := omega) only [w64]
     exact e
    ·
     rw [q, ed]
     exact decide_eq_decide.2 ⟨fun h => List.mem_cons_of_mem _ h, fun h => (List.mem_cons.1 h).resolve_left c⟩
 obtain ⟨r, e, q⟩ := key l.length 0 (by omega)
 rw [List.drop_zero] at q
 rw [← q]
 exact Ev.bind e (Ev.now _)
def ancV (l : List S104) (p q : Int) : Int := ((lineL l 34 p).find? fun x => decide (x ∈ lineL l 34 q)).getD 0
theorem ancV_rng {l : List S104} (h : par l) {p q : Int} (h0 : 0 ≤ p) (h1 : 0 ≤ q) (hp : p ≤ l.length) (hq : q ≤ l.length) : 0 ≤ ancV l p q ∧ ancV l p q ≤ p ∧ ancV l p q ≤ q := by
 unfold ancV
 cases hf : (lineL l 34 p).find? fun x => decide (x ∈ lineL l 34 q) with
 | none => exact ⟨by decide, h0, h1⟩
 | some x =>
  have m1 := lineL_mem h 34 p hp x (List.mem_of_find?_eq_some hf)
  have m2 := lineL_mem h 34 q hq x (by simpa using List.find?_some hf)
  exact ⟨by show 0 ≤ x; omega, m1.2, m2.2⟩
theorem anc_ev {l : List S104} (hl : l.length ≤ 32) (h : par l) (p q : Int) (p0 : 0 ≤ p) (p1 : p ≤ l.length) (q0 : 0 ≤ q) (q1 : q ≤ l.length) : Ev (fun k => impl_commonAncestor.f k l p q) (ancV l p q) := by
 unfold impl_commonAncestor.f impl_lineOf.f
 have e1 := lineOf_ev hl h 34 q q0 (by omega) q1 [] (by simp)
 have e2 := lineOf_ev hl h 34 p p0 (by omega) p1 [] (by simp)
 rw [List.nil_append] at e1 e2
 refine Ev.bind e1 (Ev.bind e2 ?_)
 unfold ancV
 have l1 := lineL_len l 34 p
 have l2 := lineL_len l 34 q
 generalize lineL l 34 p = a at l1 ⊢
 generalize lineL l 34 q = b at l2 ⊢
 have key : ∀ (m i : Nat), i + m = a.length → Ev (fun k => impl_commonAncestor.l0 k b a (a.length : Int) (i : Int)) (((a.drop i).find? fun x => decide (x ∈ b)).getD 0) := by
  intro m
  induction m with
  | zero =>
   intro i hi
   refine Ev.succ ?_
   rw [List.drop_eq_nil_of_le (by omega)]
   simp only [impl_commonAncestor.l0, show ¬ (i : Int) < (a.length : Int) by omega, if_false]
   exact Ev.now _
  | succ m ih =>
   intro i hi
   have ed : a.drop i = a.getD i 0 :: a.drop (i + 1) := by
    rw [getD_lt _ (by omega)]
    exact List.drop_eq_getElem_cons (by omega)
   have er : rd a (i : Int) = a.getD i 0 := rd_nat _ _
   have hs := ih (i + 1) (by omega)
   rw [ed, List.find?_cons]
   refine Ev.succ ?_
   simp only [impl_commonAncestor.l0, show (i : Int) < (a.length : Int) by omega, show (0 : Int) ≤ (i : Int) by omega, if_true, er]
   refine Ev.bind (contI_ev b (a.getD i 0) (by omega)) ?_
   by_cases c : a.getD i 0 ∈ b
   ·
    simp only [decide_eq_true c, if_true]
    exact Ev.now _
   ·
    simp only [decide_eq_false c, Bool.false_eq_true, if_false]
    simp (disch := omega) only [w64]
    exact hs
 have := key a.length 0 (by omega)
 rw [List.drop_zero] at this
 exact this
theorem above_ev {l : List S104} (hl : l.length ≤ 32) (h : par l) : ∀ (m : Nat) (p : Int), 1 ≤ p → p < m + 1 → p ≤ l.length → ∀ (acc : List Int), acc.length + m ≤ 100 → Ev (fun k => spec_l27Above.l0 k l p acc) (acc ++ (lineL l (m + 1) p).drop 1) := by
 intro m
 induction m with
 | zero => intro p h0 h1; omega
 | succ m ih =>
  intro p h0 h1 h2 acc ha
  obtain ⟨b1, b2⟩ := h (p - 1).toNat (by omega)
  have er : rd_T104 l (p - 1) = l.getD (p - 1).toNat z104 := rfl
  have e1 : (lineL l (m + 1 + 1) p).drop 1 = lineL l (m + 1) (l.getD (p - 1).toNat z104).f1 := by
   show (if p > 0 then p :: lineL l (m + 1) _ else []).drop 1 = _
   rw [if_pos (by omega)]
   rfl
  rw [e1]
  refine Ev.succ ?_
  simp only [spec_l27Above.l0, show ¬ p = 0 by omega, if_false]
  simp (disch := omega) only [w64, if_pos, er]
  by_cases c : (l.getD (p - 1).toNat z104).f1 = 0
  ·
   simp only [c, if_true]
   have e2 : lineL l (m + 1) 0 = [] := rfl
   rw [e2, List.append_nil]
   refine Ev.succ ?_
   simp only [spec_l27Above.l0, if_true]
   exact Ev.now _
  ·
   simp only [c, if_false]
   have e := ih (l.getD (p - 1).toNat z104).f1 (by omega) (by omega) (by omega) (acc ++ [(l.getD (p - 1).toNat z104).f1]) (by rw [List.length_append, List.length_singleton]; omega)
   have e2 : lineL l (m + 1) (l.getD (p - 1).toNat z104).f1 = (l.getD (p - 1).toNat z104).f1 :: (lineL l (m + 1) (l.getD (p - 1).toNat z104).f1).drop 1 := by
    show (if _ > (0 : Int) then _ :: lineL l m _ else []) = _ :: (if _ > (0 : Int) then _ :: lineL l m _ else []).drop 1
    rw [if_pos (by omega)]
    rfl
   rw [e2]
   rw [List.append_assoc] at e
   exact e
theorem hasS_ev (l : List Int) (x : Int) (hl : l.length ≤ 1000) : Ev (fun k => spec_l00Has.f k l x) (decide (x ∈ l)) := by
 unfold spec_l00Has.f
 have key : ∀ (m i : Nat), i + m = l.length → Ev (fun k => spec_l00Has.l0 k l x (i : Int)) (decide (x ∈ l.drop i)) := by
  intro m
  induction m with
  | zero =>
   intro i hi
   refine Ev.succ ?_
   rw [List.drop_eq_nil_of_le (by omega)]
   simp only [spec_l00Has.l0, show ¬ (i : Int) < (l.length : Int) by omega, if_false]
   exact Ev.now' (by simp)
  | succ m ih =>
   intro i hi
   have ed : l.drop i = l.getD i 0 :: l.drop (i + 1) := by
    rw [getD_lt _ (by omega)]
    exact List.drop_eq_getElem_cons (by omega)
   have er : rd l (i : Int) = l.getD i 0 := rd_nat _ _
   have hs := ih (i + 1) (by omega)
   refine Ev.succ ?_
   simp only [spec_l00Has.l0, show (i : Int) < (l.length : Int) by omega, show (0 : Int) ≤ (i : Int) by omega, if_true, er]
   by_cases c : l.getD i 0 = x
   ·
    simp only [c, if_true]
    exact Ev.now' (by rw [ed, c]; exact (decide_eq_true List.mem_cons_self).symm)
   ·
    simp only [c, if_false]
    simp (disch := omega) only [w64]
    refine Ev.congr (fun _ => rfl) (by
     have : decide (x ∈ l.drop i) = decide (x ∈ l.drop (i + 1)) := by
      rw [ed]
      exact decide_eq_decide.2 ⟨fun h => (List.mem_cons.1 h).resolve_left (fun e => c e.symm), fun h => List.mem_cons_of_mem _ h⟩
     rw [this]; exact hs)
 have := key l.length 0 (by omega)
 rwa [List.drop_zero] at this
theorem lineL_one {l : List S104} (p : Int) (h : 1 ≤ p) (m : Nat) : p :: (lineL l (m + 1) p).drop 1 = lineL l (m + 1) p := by
 show p :: (if p > 0 then p :: lineL l m _ else []).drop 1 = (if p > 0 then p :: lineL l m _ else [])
 rw [if_pos (by omega)]
 rfl
theorem common_ev {l : List S104} (hl : l.length ≤ 32) (h : par l) (p q : Int) (p0 : 1 ≤ p) (p1 : p ≤ l.length) (q0 : 1 ≤ q) (q1 : q ≤ l.length) : Ev (fun k => spec_l27Common.f k l p q) (ancV l p q) := by
 unfold spec_l27Common.f spec_l27Above.f
 have e1 : Ev (fun k => spec_l27Above.l0 k l p []) ([] ++ (lineL l 34 p).drop 1) := above_ev hl h 33 p p0 (by omega) p1 [] (by simp)
 have e2 : Ev (fun k => spec_l27Above.l0 k l q []) ([] ++ (lineL l 34 q).drop 1) := above_ev hl h 33 q q0 (by omega) q1 [] (by simp)
 rw [List.nil_append] at e1 e2
 simp only [Option.bind_some]
 refine Ev.bind e1 ?_
 have d1 : [p] ++ (lineL l 34 p).drop 1 = lineL l 34 p := lineL_one p p0 33
 have d2 : [q] ++ (lineL l 34 q).drop 1 = lineL l 34 q := lineL_one q q0 33
 have l1 := lineL_len l 34 p
 have l2 := lineL_len l 34 q
 have l3 : ((lineL l 34 p).drop 1).length ≤ 34 := by rw [List.length_drop]; omega
 have l4 : ((lineL l 34 q).drop 1).length ≤ 34 := by rw [List.length_drop]; omega
 simp (disch := (first | omega | (simp only [List.length_append, List.length_cons, List.length_nil]; omega))) only [if_pos, d1]
 refine Ev.bind e2 ?_
 simp (disch := (first | omega | (simp only [List.length_append, List.length_cons, List.length_nil]; omega))) only [if_pos, d2]
 unfold ancV
 generalize lineL l 34 p = a at l1 ⊢
 generalize lineL l 34 q = b at l2 ⊢
 have key : ∀ (m i : Nat), i + m = a.length → Ev (fun k => spec_l27Common.l0 k a b (i : Int)) (((a.drop i).find? fun x => decide (x ∈ b)).getD 0) := by
  intro m
  induction m with
  | zero =>
   intro i hi
   refine Ev.succ ?_
   rw [List.drop_eq_nil_of_le (by omega)]
   simp only [spec_l27Common.l0, show ¬ (i : Int) < (a.length : Int) by omega, if_false]
   exact Ev.now _
  | succ m ih =>
   intro i hi
   have ed : a.drop i = a.getD i 0 :: a.drop (i + 1) := by
    rw [getD_lt _ (by omega)]
    exact List.drop_eq_getElem_cons (by omega)
   have er : rd a (i : Int) = a.getD i 0 := rd_nat _ _
   have hs := ih (i + 1) (by omega)
   rw [ed, List.find?_cons]
   refine Ev.succ ?_
   simp only [spec_l27Common.l0, show (i : Int) < (a.length : Int) by omega, show (0 : Int) ≤ (i : Int) by omega, if_true, er]
   refine Ev.bind (hasS_ev b (a.getD i 0) (by omega)) ?_
   by_cases c : a.getD i 0 ∈ b
   ·
    simp only [decide_eq_true c, if_true]
    exact Ev.now _
   ·
    simp only [decide_eq_false c, Bool.false_eq_true, if_false]
    simp (disch := omega) only [w64]
    exact hs
 have := key a.length 0 (by omega)
 rw [List.drop_zero] at this
 exact this
def addR (l : List S104) (p : Int) (b : ByteArray) (st : List S71) : List S104 × Int := if l.length = 32 then ([], 5) else (l ++ [⟨(l.length : Int) + 1, p, b, st⟩], 0)
theorem own_ev (l : List S104) (hl : l.length ≤ 1048576) (h2 : ∀ x ∈ l, x.f3.length ≤ 1048576) : Ev (fun k => spec_l27Own.f k l) l := by
 unfold spec_l27Own.f
 have key : ∀ (m i : Nat), i + m = l.length → Ev (fun k => spec_l27Own.l0 k l (l.take i) (i : Int)) l := by
  intro m
  induction m with
  | zero =>
   intro i hi
   refine Ev.succ ?_
   rw [List.take_of_length_le (by omega)]
   simp only [spec_l27Own.l0, show ¬ (i : Int) < (l.length : Int) by omega, if_false]
   exact Ev.now _
  | succ m ih =>
   intro i hi
   have ht : (l.take i).length = i := by rw [List.length_take]; omega
   have hx := h2 (l.getD i z104) (getD_mem _ (by omega))
   refine Ev.succ ?_
   simp only [spec_l27Own.l0, show (i : Int) < (l.length : Int) by omega, show (0 : Int) ≤ (i : Int) by omega, if_true, rdV, ht, Option.bind_some, List.length_nil, Nat.zero_add, List.nil_append]
   simp (disch := omega) only [if_pos, w64]
   have e : l.take i ++ [(⟨(l.getD i z104).f0, (l.getD i z104).f1, (l.getD i z104).f2, (l.getD i z104).f3⟩ : S104)] = l.take (i + 1) := by
    rw [getD_lt _ (by omega : i < l.length), List.take_succ_eq_append_getElem (by omega)]
   rw [e]
   exact ih (i + 1) (by omega)
 exact key l.length 0 (by omega)
theorem addS_ev (l : List S104) (hl : l.length ≤ 32) (h2 : ∀ x ∈ l, x.f3.length ≤ 1048576) (p : Int) (b : ByteArray) (st : List S71) (hst : st.length ≤ 1048576) : Ev (fun k => spec_l27Add.f k l p b st) (addR l p b st) := by
 unfold spec_l27Add.f addR
 by_cases c : l.length = 32
 ·
  simp only [c, show ((32 : Nat) : Int) = 32 from rfl, if_true]
  exact Ev.now _
 ·
  simp only [c, show ¬ (l.length : Int) = 32 by omega, if_false, Option.bind_some, List.length_nil, Nat.zero_add, List.nil_append]
  simp (disch := omega) only [if_pos, w64]
  refine Ev.bind (own_ev l (by omega) h2) ?_
  simp (disch := (simp only [List.length_singleton]; omega)) only [if_pos]
  exact Ev.now _
theorem addI_ev (l : List S104) (hl : l.length ≤ 32) (h2 : ∀ x ∈ l, x.f3.length ≤ 1048576) (p : Int) (b : ByteArray) (st : List S71) (hst : st.length ≤ 1048576) : Ev (fun k => impl_withVersion.f k l p b st) (addR l p b st) := by
 unfold impl_withVersion.f impl_Version.f addR
 by_cases c : l.length = 32
 ·
  simp only [c, show ((32 : Nat) : Int) = 32 from rfl, if_true]
  exact Ev.now _
 simp only [c, show ¬ (l.length : Int) = 32 by omega, if_false]
 simp (disch := omega) only [if_pos, Option.bind_some, w64]
 have hs : ∀ v ∈ l ++ [(⟨(l.length : Int) + 1, p, b, st⟩ : S104)], v.f3.length ≤ 1048576 := fun v hv => by
  rcases List.mem_append.1 hv with hv | hv
  ·
   exact h2 v hv
  ·
   obtain rfl := List.mem_singleton.1 hv
   exact hst
 have hlen : (l ++ [(⟨(l.length : Int) + 1, p, b, st⟩ : S104)]).length ≤ 33 := by rw [List.length_append, List.length_singleton]; omega
 generalize l ++ [(⟨(l.length : Int) + 1, p, b, st⟩ : S104)] = a at hs hlen ⊢
 have key : ∀ (m i : Nat), i + m = a.length → Ev (fun k => impl_withVersion.l0 k (a.take i) a (a.length : Int) (i : Int)) (a, 0) := by
  intro m
  induction m with
  | zero =>
   intro i hi
   refine Ev.succ ?_
   rw [List.take_of_length_le (by omega)]
   simp only [impl_withVersion.l0, show ¬ (i : Int) < (a.length : Int) by omega, if_false]
   exact Ev.now _
  | succ m ih =>
   intro i hi
   have ht : (a.take i).length = i := by rw [List.length_take]; omega
   have hx := hs (a.getD i z104) (getD_mem _ (by omega))
   have es : impl_Setting.f (a.getD i z104).f3 = some (a.getD i z104).f3 := by
    unfold impl_Setting.f
    rw [if_pos (by omega)]
   refine Ev.succ ?_
   simp only [impl_withVersion.l0, show (i : Int) < (a.length : Int) by omega, show (0 : Int) ≤ (i : Int) by omega, if_true, rdV, es, Option.bind_some, ht]
   simp (disch := omega) only [if_pos, w64]
   have e : a.take i ++ [(⟨(a.getD i z104).f0, (a.getD i z104).f1, (a.getD i z104).f2, (a.getD i z104).f3⟩ : S104)] = a.take (i + 1) := by
    rw [getD_lt _ (by omega : i < a.length), List.take_succ_eq_append_getElem (by omega)]
   rw [e]
   exact ih (i + 1) (by omega)
 exact key a.length 0 (by omega)
def stV (l : List S104) (p : Int) : List S71 := if p = 0 then [] else (l.getD (p - 1).toNat z104).f3
theorem stS_eq (l : List S104) (hl : l.length ≤ 32) (p : Int) (p0 : 0 ≤ p) (p1 : p ≤ l.length) : spec_l27StateOf.f l p = some (stV l p) := by
 unfold spec_l27StateOf.f stV
 by_cases c : p = 0
 ·
  rw [if_pos c, if_pos c]
 ·
  rw [if_neg c, if_neg c, w64 (by omega) (by omega), if_pos (by omega), if_pos (by omega)]
  rfl
theorem stI_eq (l : List S104) (hl : l.length ≤ 32) (p : Int) (p0 : 0 ≤ p) (p1 : p ≤ l.length) : impl_versionState.f l p = some (stV l p) := by
 unfold impl_versionState.f stV
 by_cases c : p = 0
 ·
  rw [if_pos c, if_pos c]
 ·
  rw [if_neg c, if_neg c, w64 (by omega) (by omega), if_pos (by omega), if_pos (by omega)]
  rfl
theorem stV_ok {l : List S104} (h : histOk l = true) (p : Int) (p0 : 0 ≤ p) (p1 : p ≤ l.length) : stateOk (stV l p) = true := by
 unfold stV
 by_cases c : p = 0
 ·
  rw [if_pos c]; rfl
 ·
  rw [if_neg c]
  exact ((histOk_facts h).2 (p - 1).toNat (by omega)).2.2.2.2
def setL (e : S71) : List S71 → Bool → List S71
 | [], done => if done = true then [] else [e]
 | x :: xs, done => if done = false ∧ ¬ skey x < skey e then e :: ((if x.f0 = e.f0 then [] else [x]) ++ setL e xs true) else (if x.f0 = e.f0 then [] else [x]) ++ setL e xs done
theorem setL_true (e : S71) : ∀ l : List S71, (∀ x ∈ l, skey e < skey x) → setL e l true = l
 | [], _ => rfl
 | x :: xs, h => by
  have h1 := h x List.mem_cons_self
  have h2 : ¬ x.f0 = e.f0 := fun h3 => by
   have : skey x = skey e := by unfold skey; rw [h3]
   rw [this] at h1
   exact bs_irr _ h1
  simp only [setL]
  rw [if_neg (by simp), if_neg h2, setL_true e xs (fun y hy => h y (List.mem_cons_of_mem _ hy))]
  rfl
theorem setL_keys (e : S71) : ∀ l : List S71, (l.map skey).Pairwise (· < ·) → (setL e l false).map skey = insU (skey e) (l.map skey)
 | [], _ => rfl
 | x :: xs, h => by
  rw [List.map_cons] at h
  obtain ⟨h1, h2⟩ := List.pairwise_cons.1 h
  have hk : ∀ y ∈ xs, skey x < skey y := fun y hy => h1 _ (List.mem_map.2 ⟨y, hy, rfl⟩)
  simp only [setL, List.map_cons, insU]
  by_cases a : skey x < skey e
  ·
   rw [if_neg (by simp [a]), if_pos a]
   have h3 : ¬ x.f0 = e.f0 := fun h3 => by
    have : skey x = skey e := by unfold skey; rw [h3]
    rw [this] at a
    exact bs_irr _ a
   rw [if_neg h3, List.map_append, setL_keys e xs h2]
   rfl
  ·
   rw [if_pos (by simp [a]), if_neg a]
   by_cases b : skey x = skey e
   ·
    have h3 : x.f0 = e.f0 := ext_data b
    rw [if_pos h3, if_pos b, List.nil_append, setL_true e xs (fun y hy => by rw [← b]; exact hk y hy), List.map_cons, b]
   ·
    have h3 : ¬ x.f0 = e.f0 := fun h3 => b (by unfold skey; rw [h3])
    have c : skey e < skey x := bs_tri a b
    rw [if_neg h3, if_neg b, setL_true e xs (fun y hy => bs_tr c (hk y hy))]
    rfl
theorem setL_len (e : S71) : ∀ (l : List S71) (d : Bool), (setL e l d).length ≤ l.length + 1
 | [], d => by cases d <;> simp [setL]
 | x :: xs, d => by
  have h1 := setL_len e xs true
  have h2 := setL_len e xs d
  have h3 : ((if x.f0 = e.f0 then [] else [x]) : List S71).length ≤ 1 := by split <;> simp
  simp only [setL]
  split
  ·
   rename_i h
   have h4 : ∀ ys : List S71, (setL e ys true).length ≤ ys.length := by
    intro ys
    induction ys with
    | nil => simp [setL]
    | cons y ys ih =>
     have h5 : ((if y.f0 = e.f0 then [] else [y]) : List S71).length ≤ 1 := by split <;> simp
     simp only [setL]
     rw [if_neg (by simp), List.length_append, List.length_cons]
     omega
   have := h4 xs
   simp only [List.length_cons, List.length_append]
   omega
  ·
   simp only [List.length_cons, List.length_append]
   omega
def allL (l acc : List S71) : List S71 := l.foldl (fun o e => setL e o false) acc
theorem allL_len : ∀ (l acc : List S71), (allL l acc).length ≤ acc.length + l.length
 | [], acc => by simp [allL]
 | e :: l, acc => by
  have h1 := allL_len l (setL e acc false)
  have h2 := setL_len e acc false
  unfold allL at h1 ⊢
  simp only [List.foldl_cons, List.length_cons]
  omega
theorem allL_keys : ∀ (l acc : List S71), (acc.map skey).Pairwise (· < ·) → (allL l acc).map skey = (l.map skey).foldl (fun o x => insU x o) (acc.map skey) ∧ ((allL l acc).map skey).Pairwise (· < ·)
 | [], acc, h => ⟨rfl, h⟩
 | e :: l, acc, h => by
  have h1 := setL_keys e acc h
  have h2 : ((setL e acc false).map skey).Pairwise (· < ·) := by rw [h1]; exact insU_strict _ _ h
  obtain ⟨h3, h4⟩ := allL_keys l (setL e acc false) h2
  refine ⟨?_, h4⟩
  rw [List.map_cons, List.foldl_cons, ← h1]
  exact h3
def nmB (base a b : List S71) : List Bs := ((base ++ (a ++ b)).map skey).foldl (fun o x => insU x o) []
theorem nmB_all (base a b : List S71) : (allL b (allL a (allL base []))).map skey = nmB base a b := by
 obtain ⟨h1, h2⟩ := allL_keys base [] List.Pairwise.nil
 obtain ⟨h3, h4⟩ := allL_keys a _ h2
 obtain ⟨h5, _⟩ := allL_keys b _ h4
 rw [h5, h3, h1]
 unfold nmB
 rw [List.map_append, List.map_append, List.foldl_append, List.foldl_append]
 rfl
theorem nmB_len (base a b : List S71) : (nmB base a b).length ≤ base.length + a.length + b.length := by
 have h1 := allL_len base []
 have h2 := allL_len a (allL base [])
 have h3 := allL_len b (allL a (allL base []))
 rw [← nmB_all, List.length_map]
 simp only [List.length_nil] at h1
 omega
theorem nmB_mem {base a b : List S71} {n : ByteArray} (h : n ∈ (nmB base a b).map mkB) : ∃ x, (x ∈ base ∨ x ∈ a ∨ x ∈ b) ∧ n = x.f0 := by
 obtain ⟨y, hy, rfl⟩ := List.mem_map.1 h
 unfold nmB at hy
 rw [(foldU_spec _ [] List.Pairwise.nil).2] at hy
 rcases hy with hy | hy
 ·
  obtain ⟨x, hx, rfl⟩ := List.mem_map.1 hy
  rw [List.mem_append, List.mem_append] at hx
  exact ⟨x, hx, rfl⟩
 ·
  cases hy
def fndS (l : List S71) (n : ByteArray) : Option S71 := l.find? fun x => decide (x.f0 = n)
def thS (l : List S71) (n : ByteArray) : Int × Bool := match fndS l n with | some x => (x.f1, true) | none => (0, false)
def getS (l : List S71) (n : ByteArray) : S71 := (fndS l n).getD ⟨⟨#[]⟩, 0⟩
def sameS (u v : S71) : Bool := u.f0.toList == v.f0.toList && (u.f1 == v.f1)
theorem fndS_some {l : List S71} {n : ByteArray} {x : S71} (h : fndS l n = some x) : x ∈ l ∧ x.f0 = n := by
 unfold fndS at h
 exact ⟨List.mem_of_find?_eq_some h, by simpa using List.find?_some h⟩
theorem toList_ne {n : ByteArray} (h : 1 ≤ n.size) : ¬ n.toList = ([] : List UInt8) := fun e => by
 rw [ByteArray.toList_eq] at e
 have h2 : n.size = ([] : List UInt8).length := by rw [← e]; rfl
 rw [h2] at h
 simp at h
theorem sameS_get (n : ByteArray) (h : 1 ≤ n.size) (l m : List S71) : sameS (getS l n) (getS m n) = sameT (thS l n) (thS m n) := by
 have hn := toList_ne h
 have he : (⟨#[]⟩ : ByteArray).toList = ([] : List UInt8) := by rw [ByteArray.toList_eq]
 have b1 : (n.toList == ([] : List UInt8)) = false := beq_eq_false_iff_ne.2 hn
 have b2 : (([] : List UInt8) == n.toList) = false := beq_eq_false_iff_ne.2 (fun e => hn e.symm)
 unfold getS thS sameS sameT
 cases h1 : fndS l n with
 | none =>
  cases h2 : fndS m n with
  | none => simp
  | some y => simp only [Option.getD_none, Option.getD_some, (fndS_some h2).2, he, b2, Bool.false_and]; simp
 | some x =>
  cases h2 : fndS m n with
  | none => simp only [Option.getD_none, Option.getD_some, (fndS_some h1).2, he, b1, Bool.false_and]; simp
  | some y => simp only [Option.getD_some, (fndS_some h1).2, (fndS_some h2).2]; simp
theorem getS_there (n : ByteArray) (h : 1 ≤ n.size) (l : List S71) : ((getS l n).f0.toList = ([] : List UInt8) ↔ (thS l n).2 = false) ∧ ((thS l n).2 = true → getS l n = ⟨n, (thS l n).1⟩) := by
 have hn := toList_ne h
 unfold getS thS
 cases h1 : fndS l n with
 | none => exact ⟨by simp [ByteArray.toList_eq], fun e => by cases e⟩
 | some x =>
  have e := (fndS_some h1).2
  refine ⟨by simp [e, hn], fun _ => ?_⟩
  rw [← e]
  rfl
def confP (base a b : List S71) (n : ByteArray) : Bool := !keepT (thS base n) (thS a n) (thS b n)
def confL (base a b : List S71) : List ByteArray := ((nmB base a b).map mkB).filter (confP base a b)
theorem ev_filterMap {α β ρ : Type} (L : Nat → List β → Int → Option ρ) (xs : List α) (d : α) (g : α → Option β) (r : ρ)
  (step : ∀ (i : Nat) (acc : List β), i < xs.length → acc.length ≤ i → Ev (fun k => L k (acc ++ (g (xs.getD i d)).toList) ((i : Int) + 1)) r → Ev (fun k => L k acc (i : Int)) r)
  (fin : Ev (fun k => L k (xs.filterMap g) (xs.length : Int)) r) : Ev (fun k => L k [] 0) r := by
 have key : ∀ (m i : Nat), i + m = xs.length → Ev (fun k => L k ((xs.take i).filterMap g) (i : Int)) r := by
  intro m
  induction m with
  | zero =>
   intro i hi
   have : i = xs.length := by omega
   subst this
   rw [List.take_length]
   exact fin
  | succ m ih =>
   intro i hi
   have hlt : i < xs.length := by omega
   have h1 : ((xs.take i).filterMap g).length ≤ i := Nat.le_trans (List.length_filterMap_le _ _) (by rw [List.length_take]; omega)
   refine step i _ hlt h1 ?_
   have h := ih (i + 1) (by omega)
   rw [take_succ_getD xs d hlt, List.filterMap_append] at h
   cases hg : g (xs.getD i d) with
   | none =>
    simp only [List.filterMap_cons, hg, List.filterMap_nil, Option.toList] at h ⊢
    exact h
   | some y =>
    simp only [List.filterMap_cons, hg, List.filterMap_nil, Option.toList] at h ⊢
    exact h
 exact key xs.length 0 (by omega)
def mrgT (base a b : List S71) (n : ByteArray) : Int × Bool := if sameT (thS a n) (thS base n) = true then thS b n else thS a n
def mrgO (base a b : List S71) (n : ByteArray) : Option S71 := if (mrgT base a b n).2 = true then some ⟨n, (mrgT base a b n).1⟩ else none
def mrgL (base a b : List S71) : List S71 := ((nmB base a b).map mkB).filterMap (mrgO base a b)
def mrgR (base a b : List S71) : List S71 × Int := if (confL base a b).length > 0 then ([], 6) else if (mrgL base a b).length > 24 then ([], 5) else (mrgL base a b, 0)
theorem ev_build {β ρ : Type} (L : Nat → List β → Int → Option ρ) (n : Nat) (f : Nat → β) (r : ρ)
  (step : ∀ i acc, i < n → acc.length = i → acc = (List.range i).map f → Ev (fun k => L k (acc ++ [f i]) ((i + 1 : Nat) : Int)) r → Ev (fun k => L k acc (i : Int)) r)
  (fin : Ev (fun k => L k ((List.range n).map f) (n : Int)) r) : Ev (fun k => L k [] 0) r := by
 have key : ∀ (m i : Nat), i + m = n → Ev (fun k => L k ((List.range i).map f) (i : Int)) r := by
  intro m
  induction m with
  | zero =>
   intro i hi
   have : i = n := by omega
   subst this
   exact fin
  | succ m ih =>
   intro i hi
   refine step i _ (by omega) (by simp) rfl ?_
   have := ih (i + 1) (by omega)
   rwa [List.range_succ, List.map_append] at this
 exact key n 0 (by omega)
theorem ev_fill {β ρ : Type} (L : Nat → List β → Int → Option ρ) (base : List β) (d : β) (f : Nat → β) (r : ρ)
  (step : ∀ i acc, i < base.length → acc.length = base.length → acc.getD i d = base.getD i d → Ev (fun k => L k (acc.set i (f i)) ((i + 1 : Nat) : Int)) r → Ev (fun k => L k acc (i : Int)) r)
  (fin : Ev (fun k => L k ((List.range base.length).map f) (base.length : Int)) r) : Ev (fun k => L k base 0) r := by
 have key : ∀ (m i : Nat), i + m = base.length → Ev (fun k => L k ((List.range i).map f ++ base.drop i) (i : Int)) r := by
  intro m
  induction m with
  | zero =>
   intro i hi
   have : i = base.length := by omega
   subst this
   rw [List.drop_length, List.append_nil]
   exact fin
  | succ m ih =>
   intro i hi
   have hlt : i < base.length := by omega
   refine step i _ hlt (by simp; omega) ?_ ?_
   ·
    rw [List.getD_eq_getElem?_getD, List.getD_eq_getElem?_getD, List.getElem?_append_right (by simp)]
    simp
   ·
    have := ih (i + 1) (by omega)
    rw [List.range_succ, List.map_append, List.append_assoc] at this
    have e : ((List.range i).map f ++ base.drop i).set i (f i) = (List.range i).map f ++ ([i].map f ++ base.drop (i + 1)) := by
     rw [List.set_append_right _ _ (by simp), List.drop_eq_getElem_cons hlt, List.length_map, List.length_range, Nat.sub_self, List.set_cons_zero]
     rfl
    rw [e]
    exact this
 exact key base.length 0 (by omega)
theorem getD_map_range {β : Type} (n : Nat) (f : Nat → β) (d : β) {i : Nat} (h : i < n) : ((List.range n).map f).getD i d = f i := by
 rw [List.getD_eq_getElem?_getD, List.getElem?_map, List.getElem?_range h]; rfl
theorem specSet_ev (l : List S71) (e : S71) (hl : l.length ≤ 1048576) : Ev (fun k => spec_l27Set.f k l e.f0 e.f1) (setL e l false) := by
 unfold spec_l27Set.f
 have key : ∀ (m i : Nat) (out : List S71) (done : Bool), i + m = l.length → out.length ≤ 2 * i → Ev (fun k => spec_l27Set.l0 k l out done i e.f0 e.f1) (out ++ setL e (l.drop i) done) := by
  intro m
  induction m with
  | zero =>
   intro i out done hi ho
   rw [List.drop_of_length_le (by omega)]
   refine Ev.succ ?_
   simp (disch := omega) only [spec_l27Set.l0, if_neg]
   cases done with
   | true => simp only [if_true, setL, List.append_nil]; exact Ev.now _
   | false =>
    simp only [Bool.false_eq_true, if_false, setL]
    simp (disch := omega) only [if_pos]
    exact Ev.now _
  | succ m ih =>
   intro i out done hi ho
   have hlt : i < l.length := by omega
   rw [List.drop_eq_getElem_cons hlt]
   have er : rd_T71 l (i : Int) = l[i] := by rw [rdSt, getD_lt _ hlt]
   generalize hx : l[i] = x at er
   have eta : (⟨x.f0, x.f1⟩ : S71) = x := rfl
   have eta2 : (⟨e.f0, e.f1⟩ : S71) = e := rfl
   have tailE : ∀ (out2 : List S71) (d2 : Bool), out2.length ≤ 2 * i + 1 →
     (Ev (fun k => spec_l27Set.l0 k l (out2 ++ if x.f0 = e.f0 then [] else [x]) d2 ((i : Int) + 1) e.f0 e.f1) (out2 ++ ((if x.f0 = e.f0 then [] else [x]) ++ setL e (l.drop (i + 1)) d2))) := by
    intro out2 d2 h2
    have h3 : ((if x.f0 = e.f0 then [] else [x]) : List S71).length ≤ 1 := by split <;> simp
    have h := ih (i + 1) (out2 ++ if x.f0 = e.f0 then [] else [x]) d2 (by omega) (by rw [List.length_append]; omega)
    rw [List.append_assoc] at h
    exact h
   simp only [setL]
   by_cases hc : done = false ∧ ¬ skey x < skey e
   ·
    rw [if_pos hc]
    obtain ⟨hd, hn⟩ := hc
    subst hd
    have hb : Op.bytesLess x.f0.toList e.f0.toList = false := by
     cases hq : Op.bytesLess x.f0.toList e.f0.toList with
     | false => rfl
     | true => exact absurd ((bltB _ _).1 hq) hn
    have h := tailE (out ++ [e]) true (by rw [List.length_append, List.length_singleton]; omega)
    have h4 : (out ++ [e]).length < 5864062014805 := by rw [List.length_append, List.length_singleton]; omega
    refine Ev.succ ?_
    simp (disch := omega) only [spec_l27Set.l0, if_pos, er, hb, Bool.not_false, Bool.false_eq_true, if_false]
    refine Ev.succ ?_
    simp (disch := omega) only [spec_l27Set.j1, if_true, if_pos, er, eta, eta2, Option.bind_some, w64, beqB, h4]
    rw [show out ++ (e :: ((if x.f0 = e.f0 then [] else [x]) ++ setL e (l.drop (i + 1)) true)) = out ++ [e] ++ ((if x.f0 = e.f0 then [] else [x]) ++ setL e (l.drop (i + 1)) true) by simp]
    by_cases hne : x.f0 = e.f0
    ·
     simp only [hne, if_true, List.append_nil] at h ⊢
     exact h
    ·
     simp only [hne, if_false] at h ⊢
     exact h
   ·
    rw [if_neg hc]
    have h := tailE out done (by omega)
    refine Ev.succ ?_
    have hj : Ev (fun k => spec_l27Set.j1 k l out done i false e.f0 e.f1) (out ++ ((if x.f0 = e.f0 then [] else [x]) ++ setL e (l.drop (i + 1)) done)) := by
     refine Ev.succ ?_
     simp (disch := omega) only [spec_l27Set.j1, Bool.false_eq_true, if_false, if_pos, er, eta, Option.bind_some, w64, beqB]
     by_cases hne : x.f0 = e.f0
     ·
      simp only [hne, if_true, List.append_nil] at h ⊢
      exact h
     ·
      simp only [hne, if_false] at h ⊢
      exact h
    cases done with
    | true =>
     simp (disch := omega) only [spec_l27Set.l0, if_pos, if_true]
     exact hj
    | false =>
     have hb : Op.bytesLess x.f0.toList e.f0.toList = true := (bltB _ _).2 (Classical.byContradiction fun h5 => hc ⟨rfl, h5⟩)
     simp (disch := omega) only [spec_l27Set.l0, if_pos, er, hb, Bool.not_true, Bool.false_eq_true, if_false]
     exact hj
 have := key l.length 0 [] false (by omega) (by simp)
 simpa using this
theorem specNames_ev (base a b : List S71) (h0 : base.length ≤ 24) (h1 : a.length ≤ 24) (h2 : b.length ≤ 24) : Ev (fun k => spec_l27Names.f k base a b) ((nmB base a b).map mkB) := by
 unfold spec_l27Names.f
 have k3 : ∀ (all : List S71), all.length ≤ 100 → Ev (fun k => spec_l27Names.l3 k all [] 0) (all.map fun x => x.f0) := by
  intro all ha
  have e : all.map (fun x => x.f0) = (List.range all.length).map (fun i => (all.getD i z71).f0) := by
   refine List.ext_getElem (by simp) fun i q1 q2 => ?_
   rw [List.getElem_map, List.getElem_map, List.getElem_range, getD_lt _ (by simpa using q1)]
  rw [e]
  refine ev_build (fun k acc i => spec_l27Names.l3 k all acc i) all.length (fun i => (all.getD i z71).f0) _ (fun i acc hi hl _ hs => ?_) ?_
  ·
   refine Ev.succ ?_
   simp (disch := omega) only [spec_l27Names.l3, if_pos, w64, rdSt]
   exact hs
  ·
   refine Ev.succ ?_
   simp only [spec_l27Names.l3, Int.lt_irrefl, if_false]
   exact Ev.now _
 have k2 : ∀ (m i : Nat) (acc : List S71), i + m = b.length → acc.length ≤ 48 + i → Ev (fun k => spec_l27Names.l2 k b acc i) ((allL (b.drop i) acc).map fun x => x.f0) := by
  intro m
  induction m with
  | zero =>
   intro i acc hi ha
   rw [List.drop_of_length_le (by omega)]
   refine Ev.succ ?_
   simp (disch := omega) only [spec_l27Names.l2, if_neg]
   exact k3 acc (by omega)
  | succ m ih =>
   intro i acc hi ha
   have hlt : i < b.length := by omega
   rw [List.drop_eq_getElem_cons hlt]
   refine Ev.succ ?_
   simp (disch := omega) only [spec_l27Names.l2, if_pos, w64, rdSt, getD_lt _ hlt]
   have hs := setL_len b[i] acc false
   exact Ev.bind (specSet_ev acc b[i] (by omega)) (ih (i + 1) _ (by omega) (by omega))
 have k1 : ∀ (m i : Nat) (acc : List S71), i + m = a.length → acc.length ≤ 24 + i → Ev (fun k => spec_l27Names.l1 k a b acc i) ((allL b (allL (a.drop i) acc)).map fun x => x.f0) := by
  intro m
  induction m with
  | zero =>
   intro i acc hi ha
   rw [List.drop_of_length_le (by omega)]
   refine Ev.succ ?_
   simp (disch := omega) only [spec_l27Names.l1, if_neg]
   exact k2 b.length 0 acc (by omega) (by omega)
  | succ m ih =>
   intro i acc hi ha
   have hlt : i < a.length := by omega
   rw [List.drop_eq_getElem_cons hlt]
   refine Ev.succ ?_
   simp (disch := omega) only [spec_l27Names.l1, if_pos, w64, rdSt, getD_lt _ hlt]
   have hs := setL_len a[i] acc false
   exact Ev.bind (specSet_ev acc a[i] (by omega)) (ih (i + 1) _ (by omega) (by omega))
 have k0 : ∀ (m i : Nat) (acc : List S71), i + m = base.length → acc.length ≤ i → Ev (fun k => spec_l27Names.l0 k base a b acc i) ((allL b (allL a (allL (base.drop i) acc))).map fun x => x.f0) := by
  intro m
  induction m with
  | zero =>
   intro i acc hi ha
   rw [List.drop_of_length_le (by omega)]
   refine Ev.succ ?_
   simp (disch := omega) only [spec_l27Names.l0, if_neg]
   exact k1 a.length 0 acc (by omega) (by omega)
  | succ m ih =>
   intro i acc hi ha
   have hlt : i < base.length := by omega
   rw [List.drop_eq_getElem_cons hlt]
   refine Ev.succ ?_
   simp (disch := omega) only [spec_l27Names.l0, if_pos, w64, rdSt, getD_lt _ hlt]
   have hs := setL_len base[i] acc false
   exact Ev.bind (specSet_ev acc base[i] (by omega)) (ih (i + 1) _ (by omega) (by omega))
 have h := k0 base.length 0 [] (by omega) (by simp)
 rw [List.drop_zero] at h
 rw [← nmB_all, List.map_map]
 exact h
theorem specGet_ev (l : List S71) (n : ByteArray) (hl : l.length ≤ 1048576) : Ev (fun k => spec_l27Get.f k l n) ((getS l n).f0, (getS l n).f1) := by
 have hat : ∀ (m i : Nat), i + m = l.length → ∃ r : Int, Ev (fun k => spec_l27At.l0 k l n i) r ∧ ((r = -1 ∧ fndS (l.drop i) n = none) ∨ ∃ j : Nat, r = j ∧ j < l.length ∧ fndS (l.drop i) n = some (l.getD j z71)) := by
  intro m
  induction m with
  | zero =>
   intro i hi
   refine ⟨-1, ?_, .inl ⟨rfl, ?_⟩⟩
   ·
    refine Ev.succ ?_
    simp (disch := omega) only [spec_l27At.l0, if_neg]
    exact Ev.now _
   ·
    rw [List.drop_of_length_le (by omega)]
    rfl
  | succ m ih =>
   intro i hi
   have hlt : i < l.length := by omega
   by_cases hn : l[i].f0 = n
   ·
    refine ⟨(i : Int), ?_, .inr ⟨i, rfl, hlt, ?_⟩⟩
    ·
     refine Ev.succ ?_
     simp (disch := omega) only [spec_l27At.l0, if_pos, rdSt, getD_lt _ hlt, beqB]
     (try simp only [hn, if_true])
     exact Ev.now _
    ·
     rw [List.drop_eq_getElem_cons hlt, getD_lt _ hlt]
     unfold fndS
     simp only [List.find?_cons, hn, decide_true]
   ·
    obtain ⟨r, h1, h2⟩ := ih (i + 1) (by omega)
    refine ⟨r, ?_, ?_⟩
    ·
     refine Ev.succ ?_
     simp (disch := omega) only [spec_l27At.l0, if_pos, rdSt, getD_lt _ hlt, beqB, w64]
     simp only [hn, if_false]
     exact h1
    ·
     have e : fndS (l.drop i) n = fndS (l.drop (i + 1)) n := by
      rw [List.drop_eq_getElem_cons hlt]
      unfold fndS
      simp only [List.find?_cons, hn, decide_false]
     rw [e]
     exact h2
 obtain ⟨r, h1, h2⟩ := hat l.length 0 (by omega)
 rw [List.drop_zero] at h2
 unfold spec_l27Get.f
 refine Ev.bind (show Ev (fun k => spec_l27At.f k l n) r from h1) ?_
 unfold getS
 rcases h2 with ⟨rfl, h2⟩ | ⟨j, rfl, hj, h2⟩
 ·
  rw [h2]
  simp only [show (-1 : Int) < 0 by decide, if_true]
  exact Ev.now _
 ·
  rw [h2]
  simp (disch := omega) only [if_neg, if_pos, rdSt]
  exact Ev.now _
theorem ev_filter {α ρ : Type} (L : Nat → List α → Int → Option ρ) (xs : List α) (d : α) (p : α → Bool) (r : ρ)
  (step : ∀ (i : Nat) (acc : List α), i < xs.length → acc.length ≤ i → Ev (fun k => L k (if p (xs.getD i d) = true then acc ++ [xs.getD i d] else acc) ((i : Int) + 1)) r → Ev (fun k => L k acc (i : Int)) r)
  (fin : Ev (fun k => L k (xs.filter p) (xs.length : Int)) r) : Ev (fun k => L k [] 0) r := by
 have key : ∀ (m i : Nat), i + m = xs.length → Ev (fun k => L k ((xs.take i).filter p) (i : Int)) r := by
  intro m
  induction m with
  | zero =>
   intro i hi
   have : i = xs.length := by omega
   subst this
   rw [List.take_length]
   exact fin
  | succ m ih =>
   intro i hi
   have hlt : i < xs.length := by omega
   have h1 : ((xs.take i).filter p).length ≤ i := Nat.le_trans (List.length_filter_le _ _) (by rw [List.length_take]; omega)
   refine step i _ hlt h1 ?_
   have h := ih (i + 1) (by omega)
   rw [take_succ_getD xs d hlt, List.filter_append, List.filter_cons] at h
   split
   ·
    rename_i hp
    simp only [hp, if_true, List.filter_nil] at h
    exact h
   ·
    rename_i hp
    simp only [hp, Bool.false_eq_true, if_false, List.filter_nil, List.append_nil] at h
    exact h
 exact key xs.length 0 (by omega)
theorem ev_each {α β : Type} (f : α → Nat → Option β) (g : α → β) : ∀ xs : List α, (∀ x ∈ xs, Ev (f x) (g x)) → ∃ K, ∀ k, K ≤ k → ∀ x ∈ xs, f x k = some (g x)
 | [], _ => ⟨0, fun _ _ x hx => by cases hx⟩
 | y :: ys, h => by
  obtain ⟨K, hK⟩ := ev_each f g ys (fun x hx => h x (List.mem_cons_of_mem _ hx))
  obtain ⟨K', hK'⟩ := h y List.mem_cons_self
  refine ⟨max K K', fun k hk x hx => ?_⟩
  rcases List.mem_cons.1 hx with e | m
  ·
   subst e; exact hK' k (by omega)
  ·
   exact hK k (by omega) x m
theorem specConf_ev (base a b : List S71) (h0 : base.length ≤ 24) (h1 : a.length ≤ 24) (h2 : b.length ≤ 24) (hn : ∀ n ∈ (nmB base a b).map mkB, 1 ≤ n.size) : Ev (fun k => spec_l27Conflicts.f k base a b) (confL base a b) := by
 unfold spec_l27Conflicts.f
 refine Ev.bind (specNames_ev base a b h0 h1 h2) ?_
 have hlen := nmB_len base a b
 have hlen2 : ((nmB base a b).map mkB).length ≤ 100 := by rw [List.length_map]; omega
 unfold confL
 generalize (nmB base a b).map mkB = ns at hn hlen2 ⊢
 refine ev_filter (fun k acc i => spec_l27Conflicts.l0 k base a b ns acc i) ns ByteArray.empty (confP base a b) _ (fun i acc hi ha hs => ?_) ?_
 ·
  have er : rdOf ByteArray.empty ns (i : Int) = ns.getD i ByteArray.empty := by unfold rdOf; rw [Int.toNat_natCast]
  have hs1 : 1 ≤ (ns.getD i ByteArray.empty).size := hn _ (getD_mem _ hi)
  generalize ns.filter (confP base a b) = R at hs ⊢
  refine Ev.succ ?_
  simp (disch := omega) only [spec_l27Conflicts.l0, if_pos, w64, er]
  generalize ns.getD i ByteArray.empty = n at hs hs1 ⊢
  refine Ev.bind (specGet_ev base n (by omega)) ?_
  refine Ev.bind (specGet_ev a n (by omega)) ?_
  refine Ev.bind (specGet_ev b n (by omega)) ?_
  have q1 : ∀ u v : S71, (!(u.f0.toList == v.f0.toList) || (!(u.f1 == v.f1))) = !sameS u v := fun u v => by unfold sameS; rw [Bool.not_and]
  simp only [q1, sameS_get n hs1]
  have sym : ∀ u v, sameT u v = sameT v u := fun u v => by unfold sameT; rw [Bool.beq_comm (a := u.1), Bool.beq_comm (a := u.2)]
  unfold confP keepT at hs
  rw [sym (thS a n) (thS base n), sym (thS b n) (thS base n)] at hs
  revert hs
  cases sameT (thS base n) (thS a n) <;> cases sameT (thS base n) (thS b n) <;> cases sameT (thS a n) (thS b n) <;> intro hs <;> simp at hs ⊢ <;> first | exact hs | (simp (disch := omega) only [if_pos]; exact hs)
 ·
  refine Ev.succ ?_
  simp only [spec_l27Conflicts.l0, Int.lt_irrefl, if_false]
  exact Ev.now _
theorem implThing_ev (l : List S71) (n : ByteArray) (hl : l.length ≤ 1048576) : Ev (fun k => impl_thingAt.f k l n) (thS l n) := by
 have hat : ∀ (m i : Nat), i + m = l.length → Ev (fun k => impl_valueAt.l0 k n l l.length i) (thS (l.drop i) n) := by
  intro m
  induction m with
  | zero =>
   intro i hi
   rw [List.drop_of_length_le (by omega)]
   refine Ev.succ ?_
   simp (disch := omega) only [impl_valueAt.l0, if_neg]
   exact Ev.now _
  | succ m ih =>
   intro i hi
   have hlt : i < l.length := by omega
   refine Ev.succ ?_
   simp (disch := omega) only [impl_valueAt.l0, if_pos, rdSt, getD_lt _ hlt, beqB, w64]
   rw [List.drop_eq_getElem_cons hlt]
   by_cases hn : l[i].f0 = n
   ·
    have e : thS (l[i] :: l.drop (i + 1)) n = (l[i].f1, true) := by unfold thS fndS; simp only [List.find?_cons, hn, decide_true]
    rw [e]
    simp only [hn, if_true]
    exact Ev.now _
   ·
    have e : thS (l[i] :: l.drop (i + 1)) n = thS (l.drop (i + 1)) n := by unfold thS fndS; simp only [List.find?_cons, hn, decide_false]
    rw [e]
    simp only [hn, if_false]
    exact ih (i + 1) (by omega)
 have h := hat l.length 0 (by omega)
 rw [List.drop_zero] at h
 unfold impl_thingAt.f
 exact Ev.bind (show Ev (fun k => impl_valueAt.f k l n) (thS l n) from h) (Ev.now _)
theorem implNames_eq (base a b : List S71) (h0 : base.length ≤ 24) (h1 : a.length ≤ 24) (h2 : b.length ≤ 24) : impl_namesOf.f [base, a, b] = some ((nmB base a b).map mkB) := by
 unfold impl_namesOf.f
 have e : [base, a, b].flatten = base ++ (a ++ b) := by simp
 rw [if_pos ⟨by simp, by rw [e]; simp; omega⟩, e]
 unfold namL nmB
 rw [fold_eq_compact]
 rfl
theorem implConf_ev (base a b : List S71) (h0 : base.length ≤ 24) (h1 : a.length ≤ 24) (h2 : b.length ≤ 24) : Ev (fun k => impl_conflictsOf.f k base a b) (confL base a b) := by
 unfold impl_conflictsOf.f
 rw [implNames_eq base a b h0 h1 h2]
 simp only [Option.bind_some]
 have hlen := nmB_len base a b
 have hlen2 : ((nmB base a b).map mkB).length ≤ 100 := by rw [List.length_map]; omega
 unfold confL
 generalize (nmB base a b).map mkB = ns at hlen2 ⊢
 obtain ⟨K0, e0⟩ := ev_each (fun n k => impl_thingAt.f k base n) (thS base) ns (fun n _ => implThing_ev base n (by omega))
 obtain ⟨K1, e1⟩ := ev_each (fun n k => impl_thingAt.f k a n) (thS a) ns (fun n _ => implThing_ev a n (by omega))
 obtain ⟨K2, e2⟩ := ev_each (fun n k => impl_thingAt.f k b n) (thS b) ns (fun n _ => implThing_ev b n (by omega))
 refine ⟨max K0 (max K1 K2), fun k hk => ?_⟩
 have e0 := e0 k (by omega)
 have e1 := e1 k (by omega)
 have e2 := e2 k (by omega)
 refine (if_pos ⟨by omega, fun x hx => by rw [e0 x hx, e1 x hx, e2 x hx]; simp⟩).trans ?_
 congr 1
 refine List.filter_congr fun x hx => ?_
 unfold thgT confP
 rw [e0 x hx, e1 x hx, e2 x hx]
 rfl
theorem names_pos {base a b : List S71} (h0 : stateOk base = true) (h1 : stateOk a = true) (h2 : stateOk b = true) : ∀ n ∈ (nmB base a b).map mkB, 1 ≤ n.size := by
 intro n hn
 obtain ⟨x, hx, rfl⟩ := nmB_mem hn
 rcases hx with hx | hx | hx
 ·
  exact settOk_pos ((stateOk_facts h0).2.2 x hx)
 ·
  exact settOk_pos ((stateOk_facts h1).2.2 x hx)
 ·
  exact settOk_pos ((stateOk_facts h2).2.2 x hx)
theorem specMrg_ev (base a b : List S71) (h0 : base.length ≤ 24) (h1 : a.length ≤ 24) (h2 : b.length ≤ 24) (hn : ∀ n ∈ (nmB base a b).map mkB, 1 ≤ n.size) : Ev (fun k => spec_l27Merge.f k base a b) (mrgR base a b) := by
 unfold spec_l27Merge.f mrgR
 refine Ev.bind (specConf_ev base a b h0 h1 h2 hn) ?_
 by_cases hc : (confL base a b).length > 0
 ·
  rw [if_pos hc]
  simp only [show ((confL base a b).length : Int) > 0 by omega, if_true]
  exact Ev.now _
 ·
  rw [if_neg hc]
  simp only [show ¬ ((confL base a b).length : Int) > 0 by omega, if_false]
  refine Ev.bind (specNames_ev base a b h0 h1 h2) ?_
  have hlen := nmB_len base a b
  have hlen2 : ((nmB base a b).map mkB).length ≤ 100 := by rw [List.length_map]; omega
  unfold mrgL
  generalize (nmB base a b).map mkB = ns at hn hlen2 ⊢
  refine ev_filterMap (fun k acc i => spec_l27Merge.l0 k base a b ns acc i) ns ByteArray.empty (mrgO base a b) _ (fun i acc hi ha hs => ?_) ?_
  ·
   have er : rdOf ByteArray.empty ns (i : Int) = ns.getD i ByteArray.empty := by unfold rdOf; rw [Int.toNat_natCast]
   have hs1 : 1 ≤ (ns.getD i ByteArray.empty).size := hn _ (getD_mem _ hi)
   generalize (if (ns.filterMap (mrgO base a b)).length > 24 then ([], 5) else (ns.filterMap (mrgO base a b), 0) : List S71 × Int) = R at hs ⊢
   refine Ev.succ ?_
   simp (disch := omega) only [spec_l27Merge.l0, if_pos, w64, er]
   generalize ns.getD i ByteArray.empty = n at hs hs1 ⊢
   refine Ev.bind (specGet_ev a n (by omega)) ?_
   refine Ev.bind (specGet_ev base n (by omega)) ?_
   have q1 : ∀ u v : S71, (u.f0.toList == v.f0.toList && (u.f1 == v.f1)) = sameS u v := fun u v => rfl
   simp only [q1, sameS_get n hs1]
   unfold mrgO mrgT at hs
   by_cases hs2 : sameT (thS a n) (thS base n) = true
   ·
    simp only [hs2, if_true] at hs ⊢
    refine Ev.bind (specGet_ev b n (by omega)) ?_
    obtain ⟨g1, g2⟩ := getS_there n hs1 b
    cases ht : (thS b n).2 with
    | false =>
     have g3 := g1.2 ht
     simp only [ht, Bool.false_eq_true, if_false, Option.toList, List.append_nil, g3, if_true] at hs ⊢
     exact hs
    | true =>
     have g3 : ¬ (getS b n).f0.toList = ([] : List UInt8) := fun e => by rw [g1.1 e] at ht; cases ht
     have g4 := g2 ht
     simp only [ht, if_true, Option.toList, g4, toList_ne hs1, if_false] at hs ⊢
     (try simp (disch := omega) only [if_pos])
     exact hs
   ·
    simp only [hs2, Bool.false_eq_true, if_false] at hs ⊢
    obtain ⟨g1, g2⟩ := getS_there n hs1 a
    cases ht : (thS a n).2 with
    | false =>
     have g3 := g1.2 ht
     simp only [ht, Bool.false_eq_true, if_false, Option.toList, List.append_nil, g3, if_true] at hs ⊢
     exact hs
    | true =>
     have g3 : ¬ (getS a n).f0.toList = ([] : List UInt8) := fun e => by rw [g1.1 e] at ht; cases ht
     have g4 := g2 ht
     simp only [ht, if_true, Option.toList, g4, toList_ne hs1, if_false] at hs ⊢
     (try simp (disch := omega) only [if_pos])
     exact hs
  ·
   refine Ev.succ ?_
   simp only [spec_l27Merge.l0, Int.lt_irrefl, if_false]
   by_cases h24 : (ns.filterMap (mrgO base a b)).length > 24
   ·
    simp only [h24, if_true, show ((ns.filterMap (mrgO base a b)).length : Int) > 24 by omega]
    exact Ev.now _
   ·
    simp only [h24, if_false, show ¬ ((ns.filterMap (mrgO base a b)).length : Int) > 24 by omega]
    exact Ev.now _
theorem implMrg_ev (base a b : List S71) (h0 : base.length ≤ 24) (h1 : a.length ≤ 24) (h2 : b.length ≤ 24) : Ev (fun k => impl_MergeStates.j0 k base a b false) (mrgR base a b) := by
 refine Ev.succ ?_
 simp only [impl_MergeStates.j0, Bool.false_eq_true, if_false]
 unfold mrgR
 refine Ev.bind (implConf_ev base a b h0 h1 h2) ?_
 by_cases hc : (confL base a b).length > 0
 ·
  rw [if_pos hc]
  simp only [show ((confL base a b).length : Int) > 0 by omega, if_true]
  exact Ev.now _
 ·
  rw [if_neg hc]
  simp only [show ¬ ((confL base a b).length : Int) > 0 by omega, if_false, implNames_eq base a b h0 h1 h2, Option.bind_some]
  have hlen := nmB_len base a b
  have hlen2 : ((nmB base a b).map mkB).length ≤ 100 := by rw [List.length_map]; omega
  unfold mrgL
  generalize (nmB base a b).map mkB = ns at hlen2 ⊢
  refine ev_filterMap (fun k acc i => impl_MergeStates.l0 k base a b acc ns ns.length i) ns ByteArray.empty (mrgO base a b) _ (fun i acc hi ha hs => ?_) ?_
  ·
   have er : rdOf ByteArray.empty ns (i : Int) = ns.getD i ByteArray.empty := by unfold rdOf; rw [Int.toNat_natCast]
   generalize (if (ns.filterMap (mrgO base a b)).length > 24 then ([], 5) else (ns.filterMap (mrgO base a b), 0) : List S71 × Int) = R at hs ⊢
   refine Ev.succ ?_
   simp (disch := omega) only [impl_MergeStates.l0, if_pos, w64, er]
   generalize ns.getD i ByteArray.empty = n at hs ⊢
   refine Ev.bind (implThing_ev a n (by omega)) ?_
   refine Ev.bind (implThing_ev base n (by omega)) ?_
   have q1 : ∀ u v : Int × Bool, (u.1 == v.1 && (u.2 == v.2)) = sameT u v := fun u v => rfl
   simp only [q1]
   unfold mrgO mrgT at hs
   by_cases hs2 : sameT (thS a n) (thS base n) = true
   ·
    simp only [hs2, if_true] at hs ⊢
    refine Ev.bind (implThing_ev b n (by omega)) ?_
    cases ht : (thS b n).2 with
    | false =>
     simp only [ht, Bool.false_eq_true, if_false, Option.toList, List.append_nil] at hs ⊢
     exact hs
    | true =>
     simp only [ht, if_true, Option.toList] at hs ⊢
     (try simp (disch := omega) only [if_pos])
     exact hs
   ·
    simp only [hs2, Bool.false_eq_true, if_false] at hs ⊢
    cases ht : (thS a n).2 with
    | false =>
     simp only [ht, Bool.false_eq_true, if_false, Option.toList, List.append_nil] at hs ⊢
     exact hs
    | true =>
     simp only [ht, if_true, Option.toList] at hs ⊢
     (try simp (disch := omega) only [if_pos])
     exact hs
  ·
   refine Ev.succ ?_
   simp only [impl_MergeStates.l0, Int.lt_irrefl, if_false]
   by_cases h24 : (ns.filterMap (mrgO base a b)).length > 24
   ·
    simp only [h24, if_true, show ((ns.filterMap (mrgO base a b)).length : Int) > 24 by omega]
    exact Ev.now _
   ·
    simp only [h24, if_false, show ¬ ((ns.filterMap (mrgO base a b)).length : Int) > 24 by omega]
    exact Ev.now _
def cvSetting (x : S65) : S71 := ⟨x.f0, x.f1⟩
def okSetting1 (x : S71) : Prop := x.f0.size ≤ 1048576 ∧ (-9223372036854775808 ≤ x.f1 ∧ x.f1 ≤ 9223372036854775807)
def okSettingS (l : List S71) : Prop := l.length ≤ 1048576 ∧ ∀ x ∈ l, okSetting1 x
def cvSettingS (l : List S65) : List S71 := l.map cvSetting
theorem thS_ok {l : List S71} (h : okSettingS l) (n : ByteArray) : -9223372036854775808 ≤ (thS l n).1 ∧ (thS l n).1 ≤ 9223372036854775807 := by
 unfold thS
 cases hf : fndS l n with
 | none => exact ⟨by decide, by decide⟩
 | some x => exact (h.2 x (fndS_some hf).1).2
theorem mrg_ok {base a b : List S71} (o0 : okSettingS base) (o1 : okSettingS a) (o2 : okSettingS b) (h0 : base.length ≤ 24) (h1 : a.length ≤ 24) (h2 : b.length ≤ 24) : okSettingS (mrgL base a b) := by
 refine ⟨?_, fun x hx => ?_⟩
 ·
  have g1 := List.length_filterMap_le (mrgO base a b) ((nmB base a b).map mkB)
  have g2 := nmB_len base a b
  rw [List.length_map] at g1
  unfold mrgL
  omega
 ·
  obtain ⟨n, hn, he⟩ := List.mem_filterMap.1 hx
  unfold mrgO at he
  split at he
  ·
   obtain rfl := Option.some.inj he
   obtain ⟨y, hy, rfl⟩ := nmB_mem hn
   refine ⟨?_, ?_⟩
   ·
    rcases hy with hy | hy | hy
    ·
     exact (o0.2 y hy).1
    ·
     exact (o1.2 y hy).1
    ·
     exact (o2.2 y hy).1
   ·
    show -9223372036854775808 ≤ (mrgT base a b y.f0).1 ∧ (mrgT base a b y.f0).1 ≤ 9223372036854775807
    unfold mrgT
    split
    ·
     exact thS_ok o2 _
    ·
     exact thS_ok o1 _
  ·
   cases he
def cvVersion (x : S97) : S104 := ⟨x.f0, x.f1, x.f2, cvSettingS x.f3⟩
def okVersion1 (x : S104) : Prop := (-9223372036854775808 ≤ x.f0 ∧ x.f0 ≤ 9223372036854775807) ∧ (-9223372036854775808 ≤ x.f1 ∧ x.f1 ≤ 9223372036854775807) ∧ x.f2.size ≤ 1048576 ∧ okSettingS x.f3
theorem szSetting_eq (x : S65) (a : Int) (w0 : x.f0.size ≤ maxLen) (h0 : 0 ≤ a) (h1 : a ≤ 1048576) : ∃ r, laws_szSetting.f (x.f0) (x.f1) a = some r ∧ (r < 0 ∨ (0 ≤ r ∧ r ≤ a ∧ x.f0.size ≤ 1048576)) := by
 unfold maxLen at w0
 unfold laws_szSetting.f wrap64
 repeat' split
 all_goals exact ⟨_, rfl, by omega⟩
theorem szSettingS_evo (l : List S65) (a : Int) (hw : l.length ≤ maxLen ∧ ∀ x0 ∈ l, x0.f0.size ≤ maxLen ∧ (Lit.int .i64 x0.f1).wf = true) (h0 : 0 ≤ a) (h1 : a ≤ 1048576) :
  ∃ r, Ev (fun k => laws_szSettingS.f k l a) r ∧ (r < 0 ∨ (0 ≤ r ∧ r ≤ a ∧ okSettingS (cvSettingS l))) := by
 obtain ⟨hl, hw⟩ := hw
 unfold maxLen at hl
 unfold laws_szSettingS.f
 rw [w64 (by omega) (by omega)]
 by_cases h : a - l.length < 0
 ·
  simp only [h, if_true]
  exact ⟨-1, Ev.now _, .inl (by decide)⟩
 ·
  simp only [h, if_false]
  obtain ⟨r, hr, hq⟩ := ev_sz (fun k a i => laws_szSettingS.l0 k l a i) l z65 (fun x => x.f0.size ≤ 1048576) (fun i a hi h0 h1 => by
   have hx := hw _ (getD_mem z65 hi)
   obtain ⟨r, hr, hq⟩ := szSetting_eq (l.getD i z65) a (hx.1) h0 h1
   have e : ∀ k, laws_szSettingS.l0 (k + 1) l a i = if r < 0 then some (-1) else laws_szSettingS.l0 k l r ((i + 1 : Nat) : Int) := fun k => by
    simp only [laws_szSettingS.l0]
    rw [if_pos (by omega), if_pos (by omega)]
    unfold rd_T65
    rw [Int.toNat_natCast, hr]
    simp only [Option.bind_some]
    rw [w64 (by omega) (by omega)]
    rfl
   rcases hq with hq | ⟨q0, q1, q2⟩
   ·
    exact .inl (Ev.step (f := fun _ => some (-1)) (fun k => by rw [e, if_pos hq]) (Ev.now _))
   ·
    exact .inr ⟨r, q0, q1, q2, fun s hs => Ev.step (fun k => by rw [e, if_neg (by omega)]) hs⟩) (fun a => Ev.step (f := fun _ => some a) (fun k => by simp only [laws_szSettingS.l0]; rw [if_neg (by omega)]) (Ev.now _)) (a - l.length) (by omega) (by omega)
  refine ⟨r, hr, hq.imp_right fun ⟨q0, q1, q2⟩ => ⟨q0, by omega, by simp only [cvSettingS, List.length_map]; omega, fun x hx => ?_⟩⟩
  obtain ⟨y, hy, rfl⟩ := List.mem_map.1 hx
  have hs := q2 y hy
  have hw := hw y hy
  exact ⟨hs, lit_i64 (hw.2)⟩
theorem szVersion_ev (x : S97) (a : Int) (w0 : x.f2.size ≤ maxLen) (w1 : x.f3.length ≤ maxLen ∧ ∀ x0 ∈ x.f3, x0.f0.size ≤ maxLen ∧ (Lit.int .i64 x0.f1).wf = true) (h0 : 0 ≤ a) (h1 : a ≤ 1048576) : ∃ r, Ev (fun k => laws_szVersion.f k x.f0 x.f1 x.f2 x.f3 a) r ∧ (r < 0 ∨ (0 ≤ r ∧ r ≤ a ∧ (x.f2.size ≤ 1048576 ∧ okSettingS (cvSettingS x.f3)))) := by
 unfold maxLen at w0
 unfold laws_szVersion.f
 rw [w64 (by omega) (by omega)]
 by_cases h : a - x.f2.size < 0
 ·
  simp only [h, if_true]
  exact ⟨-1, Ev.now _, .inl (by decide)⟩
 ·
  simp only [h, if_false]
  obtain ⟨r, hr, hq⟩ := szSettingS_evo x.f3 (a - x.f2.size) w1 (by omega) (by omega)
  rcases hq with hq | ⟨q0, q1, q2⟩
  ·
   refine ⟨-1, Ev.bind hr ?_, .inl (by decide)⟩
   simp only [hq, if_true]
   exact Ev.now _
  ·
   refine ⟨r, Ev.bind hr ?_, .inr ⟨q0, by omega, by omega, q2⟩⟩
   simp only [show ¬ r < 0 by omega, if_false]
   exact Ev.now _
def okVersionS (l : List S104) : Prop := l.length ≤ 1048576 ∧ ∀ x ∈ l, okVersion1 x
def cvVersionS (l : List S97) : List S104 := l.map cvVersion
theorem szVersionS_evo (l : List S97) (a : Int) (hw : l.length ≤ maxLen ∧ ∀ x0 ∈ l, (Lit.int .i64 x0.f0).wf = true ∧ (Lit.int .i64 x0.f1).wf = true ∧ x0.f2.size ≤ maxLen ∧ (x0.f3.length ≤ maxLen ∧ ∀ x1 ∈ x0.f3, x1.f0.size ≤ maxLen ∧ (Lit.int .i64 x1.f1).wf = true)) (h0 : 0 ≤ a) (h1 : a ≤ 1048576) :
  ∃ r, Ev (fun k => laws_szVersionS.f k l a) r ∧ (r < 0 ∨ (0 ≤ r ∧ r ≤ a ∧ okVersionS (cvVersionS l))) := by
 obtain ⟨hl, hw⟩ := hw
 unfold maxLen at hl
 unfold laws_szVersionS.f
 rw [w64 (by omega) (by omega)]
 by_cases h : a - l.length < 0
 ·
  simp only [h, if_true]
  exact ⟨-1, Ev.now _, .inl (by decide)⟩
 ·
  simp only [h, if_false]
  obtain ⟨r, hr, hq⟩ := ev_sz (fun k a i => laws_szVersionS.l0 k l a i) l z97 (fun x => x.f2.size ≤ 1048576 ∧ okSettingS (cvSettingS x.f3)) (fun i a hi h0 h1 => by
   have hx := hw _ (getD_mem z97 hi)
   have er : rd_T97 l (i : Int) = l.getD i z97 := by unfold rd_T97; rw [Int.toNat_natCast]
   obtain ⟨r, hr, hq⟩ := szVersion_ev (l.getD i z97) a hx.2.2.1 hx.2.2.2 h0 h1
   rcases hq with hq | ⟨q0, q1, q2⟩
   ·
    refine .inl (Ev.succ ?_)
    simp (disch := omega) only [laws_szVersionS.l0, if_pos, er]
    refine Ev.bind hr ?_
    simp only [hq, if_true]
    exact Ev.now _
   ·
    refine .inr ⟨r, q0, q1, q2, fun s hs => Ev.succ ?_⟩
    simp (disch := omega) only [laws_szVersionS.l0, if_pos, er, w64]
    refine Ev.bind hr ?_
    simp only [show ¬ r < 0 by omega, if_false]
    exact hs) (fun a => Ev.succ (by simp only [laws_szVersionS.l0, Int.lt_irrefl, if_false]; exact Ev.now _)) (a - l.length) (by omega) (by omega)
  refine ⟨r, hr, hq.imp_right fun ⟨q0, q1, q2⟩ => ⟨q0, by omega, by simp only [cvVersionS, List.length_map]; omega, fun x hx => ?_⟩⟩
  obtain ⟨y, hy, rfl⟩ := List.mem_map.1 hx
  have hs := q2 y hy
  have hw := hw y hy
  exact ⟨lit_i64 hw.1, lit_i64 hw.2.1, hs.1, hs.2⟩
theorem toSetting_eq (x : S65) : laws_toSetting.f (x.f0) (x.f1) = some (x.f0, x.f1) := by
 unfold laws_toSetting.f
 rfl
theorem ev_cmap {α β : Type} (L : Nat → List β → Int → Option (List β)) (xs : List α) (d : α) (d' : β) (g : α → β)
  (step : ∀ (ys : List β) (i : Nat), i < xs.length → ys.length = xs.length → ∀ r, Ev (fun k => L k (ys.set i (g (xs.getD i d))) ((i + 1 : Nat) : Int)) r → Ev (fun k => L k ys (i : Int)) r)
  (fin : ∀ ys, Ev (fun k => L k ys (xs.length : Int)) ys) : Ev (fun k => L k (List.replicate xs.length d') 0) (xs.map g) := by
 have e : xs.map g = (List.range xs.length).map (fun i => g (xs.getD i d)) := by
  refine List.ext_getElem (by simp) fun i h1 h2 => ?_
  rw [List.getElem_map, List.getElem_map, List.getElem_range, getD_lt d (by simpa using h1)]
 have key := ev_fill L (List.replicate xs.length d') d' (fun i => g (xs.getD i d)) (xs.map g) (fun i acc hi hl _ hs => ?_) ?_
 ·
  exact key
 ·
  rw [List.length_replicate] at hi hl
  exact step acc i hi hl _ hs
 ·
  rw [List.length_replicate, ← e]
  exact fin _
theorem toSettingS_evo (l : List S65) (h : okSettingS (cvSettingS l)) : Ev (fun k => laws_toSettingS.f k l) (cvSettingS l) := by
 have hl : l.length ≤ 1048576 := by have := h.1; simpa [cvSettingS] using this
 refine Ev.congr (f := fun k => laws_toSettingS.l0 k l (List.replicate l.length z71) 0) (fun k => ?_) ?_
 ·
  unfold laws_toSettingS.f
  rw [if_pos (by omega), if_pos (by omega), Int.toNat_natCast]
 ·
  refine ev_cmap (fun k ys i => laws_toSettingS.l0 k l ys i) l z65 z71 cvSetting (fun ys i hi hl r hr => ?_) (fun ys => ?_)
  ·
   refine Ev.step (fun k => ?_) hr
   simp only [laws_toSettingS.l0]
   rw [if_pos (by omega), if_pos (by omega), toSetting_eq]
   simp only [Option.bind_some]
   rw [if_pos (by omega), w64 (by omega) (by omega), Int.toNat_natCast]
   unfold rd_T65
   rw [Int.toNat_natCast]
   rfl
  ·
   refine Ev.step (f := fun _ => some ys) (fun k => ?_) (Ev.now _)
   simp only [laws_toSettingS.l0]
   rw [if_neg (by omega)]
theorem toVersion_ev (x : S97) (h : okSettingS (cvSettingS x.f3)) : Ev (fun k => laws_toVersion.f k x.f0 x.f1 x.f2 x.f3) (x.f0, x.f1, x.f2, cvSettingS x.f3) := by
 unfold laws_toVersion.f
 exact Ev.bind (toSettingS_evo x.f3 h) (Ev.now _)
theorem toVersionS_evo (l : List S97) (h : okVersionS (cvVersionS l)) : Ev (fun k => laws_toVersionS.f k l) (cvVersionS l) := by
 have hl : l.length ≤ 1048576 := by have := h.1; simpa [cvVersionS] using this
 have hx : ∀ x ∈ l, okSettingS (cvSettingS x.f3) := fun x hx => (h.2 _ (List.mem_map.2 ⟨x, hx, rfl⟩)).2.2.2
 refine Ev.congr (f := fun k => laws_toVersionS.l0 k l (List.replicate l.length z104) 0) (fun k => ?_) ?_
 ·
  unfold laws_toVersionS.f
  rw [if_pos (by omega), if_pos (by omega), Int.toNat_natCast]
 ·
  refine ev_cmap (fun k ys i => laws_toVersionS.l0 k l ys i) l z97 z104 cvVersion (fun ys i hi hl r hr => ?_) (fun ys => ?_)
  ·
   have er : rd_T97 l (i : Int) = l.getD i z97 := by unfold rd_T97; rw [Int.toNat_natCast]
   refine Ev.succ ?_
   simp (disch := omega) only [laws_toVersionS.l0, if_pos, er]
   refine Ev.bind (toVersion_ev _ (hx _ (getD_mem _ hi))) ?_
   simp (disch := omega) only [if_pos, w64, Int.toNat_natCast]
   exact hr
  ·
   refine Ev.succ ?_
   simp only [laws_toVersionS.l0, Int.lt_irrefl, if_false]
   exact Ev.now _
theorem eqSetting_eq (x : S71) : laws_eqSetting.f (x.f0) (x.f1) (x.f0) (x.f1) = some true := by
 unfold laws_eqSetting.f
 simp
theorem eqSettingS_evo (l : List S71) (h : okSettingS l) : Ev (fun k => laws_eqSettingS.f k l l) true := by
 have h := h.1
 refine Ev.congr (f := fun k => laws_eqSettingS.l0 k l l 0) (fun k => ?_) ?_
 ·
  unfold laws_eqSettingS.f
  rw [if_pos rfl]
 ·
  refine ev_eq laws_eqSettingS.l0 l (fun i hi hr => ?_) ?_
  ·
   refine Ev.step (fun k => ?_) hr
   simp only [laws_eqSettingS.l0]
   rw [if_pos (by omega), if_pos (by omega), if_pos (by omega), eqSetting_eq]
   simp only [Option.bind_some, if_true]
   rw [w64 (by omega) (by omega)]
   rfl
  ·
   refine Ev.step (f := fun _ => some true) (fun k => ?_) (Ev.now _)
   simp only [laws_eqSettingS.l0]
   rw [if_neg (by omega)]
theorem eqVersion_ev (x : S104) (h : okSettingS x.f3) : Ev (fun k => laws_eqVersion.f k x.f0 x.f1 x.f2 x.f3 x.f0 x.f1 x.f2 x.f3) true := by
 unfold laws_eqVersion.f
 simp only [if_true]
 refine Ev.bind (eqSettingS_evo x.f3 h) ?_
 simp only [if_true]
 exact Ev.now _
theorem eqVersionS_evo (l : List S104) (h : okVersionS l) : Ev (fun k => laws_eqVersionS.f k l l) true := by
 have hx := h.2
 have h := h.1
 refine Ev.congr (f := fun k => laws_eqVersionS.l0 k l l 0) (fun k => ?_) ?_
 ·
  unfold laws_eqVersionS.f
  rw [if_pos rfl]
 ·
  refine ev_eq laws_eqVersionS.l0 l (fun i hi hr => ?_) ?_
  ·
   have er : rd_T104 l (i : Int) = l.getD i z104 := by unfold rd_T104; rw [Int.toNat_natCast]
   refine Ev.succ ?_
   simp (disch := omega) only [laws_eqVersionS.l0, if_pos, er]
   refine Ev.bind (eqVersion_ev _ (hx _ (getD_mem _ hi)).2.2.2) ?_
   simp (disch := omega) only [if_true, w64]
   exact hr
  ·
   refine Ev.succ ?_
   simp only [laws_eqVersionS.l0, Int.lt_irrefl, if_false]
   exact Ev.now _
theorem markText_ev0 (m : Nat) : ∀ (n : Nat) (x : Int) (s : ByteArray), 0 ≤ x → x < n → s.size + n ≤ 1000000000000000001 → n ≤ m → ∃ t, Ev (fun k => laws_markText.l0 k x s) t := by
 induction m with
 | zero => intro n x s h0 h1 h2 h3; omega
 | succ m ih =>
  intro n x s h0 h1 h2 h3
  by_cases hx : x > 0
  ·
   have hd : Int.tdiv x 10 = x / 10 := Int.tdiv_eq_ediv_of_nonneg h0
   have hs : ∀ c : Int, (strOfNums [c]).size = 1 := fun _ => rfl
   have hs2 : ∀ c : Int, (strOfNums [c] ++ s).size = 1 + s.size := fun c => by rw [ByteArray.size_append, hs]
   obtain ⟨t, ht⟩ := ih (n - 1) (x / 10) (strOfNums [(wrap64 (48 + (Int.tmod x 10))) % 256] ++ s) (by omega) (by omega) (by rw [hs2]; omega) (by omega)
   refine ⟨t, Ev.succ ?_⟩
   simp only [laws_markText.l0, hx, if_true, Option.bind_some, hs, hd]
   rw [w64 (x := x / 10) (by omega) (by omega)]
   simp only [show 1 + s.size ≤ 9223372036854775807 by omega, if_true]
   exact ht
  ·
   refine ⟨(⟨#[109]⟩ : ByteArray) ++ s, Ev.succ ?_⟩
   simp only [laws_markText.l0, hx, if_false, show 1 + s.size ≤ 9223372036854775807 by omega, if_true]
   exact Ev.now _
theorem markText_ex (x : Int) : ∃ t, x ≤ 1000000000000000000 → Ev (fun k => laws_markText.f k x) t := by
 by_cases hb : x ≤ 1000000000000000000
 ·
  by_cases h : x ≤ 0
  ·
   refine ⟨⟨#[109, 48]⟩, fun _ => ?_⟩
   unfold laws_markText.f
   simp only [h, if_true]
   exact Ev.now _
  ·
   obtain ⟨t, ht⟩ := markText_ev0 _ (x.toNat + 1) x ⟨#[]⟩ (by omega) (by omega) (by show 0 + _ ≤ _; omega) (Nat.le_refl _)
   refine ⟨t, fun _ => ?_⟩
   unfold laws_markText.f
   simp only [h, if_false]
   exact ht
 ·
  exact ⟨⟨#[]⟩, fun h => absurd h hb⟩
noncomputable def mtx (x : Int) : ByteArray := Classical.choose (markText_ex x)
theorem markText_ev (x : Int) (h : x ≤ 1000000000000000000) : Ev (fun k => laws_markText.f k x) (mtx x) := Classical.choose_spec (markText_ex x) h
noncomputable def mk1Setting (k : Int) : S71 := ⟨mtx (k), k + 1⟩
noncomputable def mkSettingS (l : List S71) (k : Int) : List S71 := (List.range l.length).map fun i : Nat => mk1Setting (k + 2 * (i : Int))
def cntSettingS (l : List S71) : Int := 2 * (l.length : Int)
theorem mkSettingS_len (l : List S71) (k : Int) : (mkSettingS l k).length = l.length := by simp [mkSettingS]
theorem cntSettingS_bd (l : List S71) (h : okSettingS l) : 0 ≤ cntSettingS l ∧ cntSettingS l ≤ 2000000000000 := by have h := h.1; unfold cntSettingS; omega
theorem rdsetSetting (l : List S71) (i : Nat) (v : S71) (h : i < l.length) : rd_T71 (l.set i v) (i : Int) = v := by
 unfold rd_T71
 rw [Int.toNat_natCast, getD_lt _ (by simpa using h), List.getElem_set_self]
set_option maxRecDepth 10000 in
theorem markSettingS_ev (l : List S71) (k0 : Int) (h : okSettingS l) (h0 : 0 ≤ k0) (h1 : k0 ≤ 1000000000000000) : Ev (fun k => laws_markSettingS.f k l k0) (k0 + cntSettingS l, mkSettingS l k0) := by
 have h := h.1
 unfold laws_markSettingS.f
 have key := ev_fill (fun k acc i => laws_markSettingS.l0 k acc (k0 + 2 * i) i) l z71 (fun i => mk1Setting (k0 + 2 * (i : Int))) (k0 + cntSettingS l, mkSettingS l k0) (fun i acc hi hl _ hs => ?_) ?_
 ·
  simpa using key
 ·
  refine Ev.succ ?_
  simp (disch := omega) only [laws_markSettingS.l0, if_pos, w64, Option.bind_some, Int.toNat_natCast]
  refine Ev.bind (markText_ev _ (by omega)) ?_
  (try simp (disch := omega) only [if_pos, w64, Option.bind_some, Int.toNat_natCast])
  simp (disch := (first | omega | (simp only [List.length_set]; omega))) only [rdsetSetting, List.set_set]
  refine Ev.congr (fun k => ?_) hs
  simp only [mk1Setting]
  congr 1
  all_goals first | rfl | omega | (push_cast; omega)
 ·
  refine Ev.succ ?_
  simp only [laws_markSettingS.l0]
  simp only [mkSettingS, List.length_map, List.length_range, Int.lt_irrefl, if_false]
  exact Ev.now' (by unfold cntSettingS; rfl)
theorem heldSettingS_ev (l : List S71) (k0 : Int) (h : okSettingS l) (h0 : 0 ≤ k0) (h1 : k0 ≤ 1000000000000000) : Ev (fun k => laws_heldSettingS.f k (mkSettingS l k0) k0) (k0 + cntSettingS l) := by
 have h := h.1
 unfold laws_heldSettingS.f
 have key : ∀ (m i : Nat), i + m = l.length → Ev (fun k => laws_heldSettingS.l0 k (mkSettingS l k0) (k0 + 2 * i) i) (k0 + cntSettingS l) := by
  intro m
  induction m with
  | zero =>
   intro i hi
   refine Ev.succ ?_
   simp only [laws_heldSettingS.l0, mkSettingS_len, show ¬ (i : Int) < (l.length : Int) by omega, if_false]
   exact Ev.now' (by unfold cntSettingS; omega)
  | succ m ih =>
   intro i hi
   have hs := ih (i + 1) (by omega)
   have e : rd_T71 (mkSettingS l k0) (i : Int) = mk1Setting (k0 + 2 * (i : Int)) := by
    unfold rd_T71
    rw [Int.toNat_natCast]
    exact getD_map_range _ _ _ (by omega)
   refine Ev.succ ?_
   simp only [laws_heldSettingS.l0, mkSettingS_len, e, mk1Setting]
   simp (disch := first | omega | rfl) only [if_pos, if_true, w64, Option.bind_some]
   refine Ev.bind (markText_ev _ (by omega)) ?_
   (try simp (disch := first | omega | rfl) only [if_pos, if_true, w64, Option.bind_some])
   refine Ev.congr (fun k => ?_) hs
   congr 1
   all_goals first | rfl | omega | (push_cast; omega)
 simpa using key l.length 0 (by omega)
noncomputable def mk1Version (x : S104) (k : Int) : S104 := ⟨k, k + 1, mtx (k + 2), mkSettingS x.f3 (k + 3)⟩
def cnt1Version (x : S104) : Int := 3 + cntSettingS x.f3
def cntVersionS : List S104 → Int
 | [] => 0
 | x :: xs => cnt1Version x + cntVersionS xs
noncomputable def mkVersionS : List S104 → Int → List S104
 | [], _ => []
 | x :: xs, k => mk1Version x k :: mkVersionS xs (k + cnt1Version x)
theorem mkVersionS_len : ∀ (l : List S104) (k : Int), (mkVersionS l k).length = l.length
 | [], _ => rfl
 | x :: xs, k => by simp [mkVersionS, mkVersionS_len xs]
theorem cntVersionS_bd0 : ∀ (l : List S104), (∀ x ∈ l, x.f3.length ≤ 1048576) → 0 ≤ cntVersionS l ∧ cntVersionS l ≤ l.length * 2097155
 | [], _ => by simp [cntVersionS]
 | x :: xs, h => by
  have h1 := cntVersionS_bd0 xs (fun y hy => h y (List.mem_cons_of_mem _ hy))
  have h2 := h x List.mem_cons_self
  simp only [cntVersionS, cnt1Version, cntSettingS, List.length_cons]
  omega
theorem cntVersionS_bd (l : List S104) (h : okVersionS l) : 0 ≤ cntVersionS l ∧ cntVersionS l ≤ 3000000000000 := by
 have := cntVersionS_bd0 l (fun x hx => (h.2 x hx).2.2.2.1)
 have := h.1
 omega
theorem cntVersionS_append : ∀ (a b : List S104), cntVersionS (a ++ b) = cntVersionS a + cntVersionS b
 | [], b => by simp [cntVersionS]
 | x :: xs, b => by simp only [List.cons_append, cntVersionS, cntVersionS_append xs b]; omega
theorem mkVersionS_append : ∀ (a b : List S104) (k : Int), mkVersionS (a ++ b) k = mkVersionS a k ++ mkVersionS b (k + cntVersionS a)
 | [], b, k => by simp [mkVersionS, cntVersionS]
 | x :: xs, b, k => by simp only [List.cons_append, mkVersionS, cntVersionS, mkVersionS_append xs b]; congr 3; omega
theorem heldVersionS_ev (l : List S104) (k0 : Int) (h : okVersionS l) (h0 : 0 ≤ k0) (h1 : k0 ≤ 900000000000000) : Ev (fun k => laws_heldVersionS.f k (mkVersionS l k0) k0) (k0 + cntVersionS l) := by
 have hb := cntVersionS_bd l h
 obtain ⟨hlen, hrow⟩ := h
 unfold laws_heldVersionS.f
 have key : ∀ (rest done : List S104), done ++ rest = l → Ev (fun k => laws_heldVersionS.l0 k (mkVersionS l k0) (k0 + cntVersionS done) (done.length : Nat)) (k0 + cntVersionS l) := by
  intro rest
  induction rest with
  | nil =>
   intro done hd
   rw [List.append_nil] at hd
   subst hd
   refine Ev.succ ?_
   simp only [laws_heldVersionS.l0, mkVersionS_len, Int.lt_irrefl, if_false]
   exact Ev.now _
  | cons x rest ih =>
   intro done hd
   have hl : l.length = done.length + (rest.length + 1) := by rw [← hd, List.length_append, List.length_cons]
   have hx : okSettingS x.f3 := (hrow x (by rw [← hd]; simp)).2.2.2
   have hc : cntVersionS l = cntVersionS done + (cnt1Version x + cntVersionS rest) := by rw [← hd, cntVersionS_append]; rfl
   have hb1 := cntVersionS_bd0 done (fun y hy => (hrow y (by rw [← hd]; exact List.mem_append_left _ hy)).2.2.2.1)
   have hb2 := cntVersionS_bd0 rest (fun y hy => (hrow y (by rw [← hd]; simp [hy])).2.2.2.1)
   have hb3 := cntSettingS_bd _ hx
   have e : rd_T104 (mkVersionS l k0) (done.length : Int) = mk1Version x (k0 + cntVersionS done) := by
    unfold rd_T104
    rw [Int.toNat_natCast, ← hd, mkVersionS_append, List.getD_eq_getElem?_getD, List.getElem?_append_right (by rw [mkVersionS_len]; exact Nat.le_refl _), mkVersionS_len, Nat.sub_self]
    rfl
   have ihx := ih (done ++ [x]) (by rw [List.append_assoc]; exact hd)
   have e1 : k0 + cntVersionS done + 3 + cntSettingS x.f3 = k0 + cntVersionS (done ++ [x]) := by rw [cntVersionS_append]; simp only [cntVersionS, cnt1Version]; omega
   unfold cnt1Version at hc
   refine Ev.succ ?_
   simp only [laws_heldVersionS.l0, mkVersionS_len, e, mk1Version]
   simp (disch := first | omega | rfl) only [if_pos, if_true, w64, Option.bind_some]
   rw [show k0 + cntVersionS done + 1 + 1 = k0 + cntVersionS done + 2 by omega]
   refine Ev.bind (markText_ev _ (by omega)) ?_
   (try simp (disch := first | omega | rfl) only [if_pos, if_true, w64, Option.bind_some])
   rw [show k0 + cntVersionS done + 2 + 1 = k0 + cntVersionS done + 3 by omega]
   refine Ev.bind (heldSettingS_ev x.f3 _ hx (by omega) (by omega)) ?_
   simp only [show ¬ k0 + cntVersionS done + 3 + cntSettingS x.f3 < 0 by omega, if_false]
   rw [e1]
   simpa using ihx
 simpa [cntVersionS] using key l [] rfl
def mvR (l : List S104) (p q : Int) (b : ByteArray) : List S104 × Int :=
 if (mrgR (stV l (ancV l p q)) (stV l p) (stV l q)).2 = 0 then addR l p b (mrgR (stV l (ancV l p q)) (stV l p) (stV l q)).1 else ([], (mrgR (stV l (ancV l p q)) (stV l p) (stV l q)).2)
theorem core : ∀ (l0 : List (S104)) (a1 : Int) (a2 : Int) (a3 : ByteArray) (o0 : okVersionS l0) (w1 : (Lit.int .i64 a1).wf = true) (w2 : (Lit.int .i64 a2).wf = true) (w3 : a3.size ≤ 140737488351232) (o3 : a3.size ≤ 1048576), ∃ (r1 : List (S104)) (r2 : Int), Ev (fun k => spec_MergeVersions.f k l0 a1 a2 a3) (r1, r2) ∧ Ev (fun k => impl_MergeVersions.f k l0 a1 a2 a3) (r1, r2) ∧ okVersionS r1 := by
 intro l p q b o0 w1 w2 w3 o3
 have okn : okVersionS [] := ⟨by simp, fun x hx => by cases hx⟩
 have wp := lit_i64 w1
 have wq := lit_i64 w2
 have h2 : ∀ x ∈ l, x.f2.size ≤ 1048576 ∧ x.f3.length ≤ 1048576 := fun x hx => ⟨(o0.2 x hx).2.2.1, (o0.2 x hx).2.2.2.1⟩
 have s0 := specHist_ev l o0.1 h2
 have i0 := code_ev l o0.1 h2 p q
 have s1 := specMemo_ev b o3
 have i1 := implMemo_ev b o3
 have badS : Ev (fun k => spec_MergeVersions.j0 k l p q b true) ([], 1) := Ev.succ (by simp only [spec_MergeVersions.j0, if_true]; exact Ev.now _)
 have badI : ∀ c, Ev (fun k => impl_MergeVersions.j0 k l p q b c true) ([], 1) := fun c => Ev.succ (by simp only [impl_MergeVersions.j0, if_true]; exact Ev.now _)
 unfold spec_MergeVersions.f impl_MergeVersions.f
 cases hh : histOk l with
 | false =>
  rw [hh] at s0 i0
  refine ⟨[], 1, Ev.bind s0 ?_, Ev.bind i0 ?_, okn⟩
  ·
   simpa using badS
  ·
   simpa using badI 1
 | true =>
  rw [hh] at s0 i0
  obtain ⟨hl, hv⟩ := histOk_facts hh
  have hp : par l := fun i hi => ⟨(hv i hi).2.1, (hv i hi).2.2.1⟩
  have hc : ∀ c : Int, (if (true : Bool) = true then (if inR 1 (l.length : Int) p && inR 1 (l.length : Int) q then (0 : Int) else 3) else 1) = c → ¬ c = 1 := fun c e => by
   rw [if_pos rfl] at e
   split at e <;> omega
  obtain ⟨c, hcc⟩ : ∃ c, (if (true : Bool) = true then (if inR 1 (l.length : Int) p && inR 1 (l.length : Int) q then (0 : Int) else 3) else 1) = c := ⟨_, rfl⟩
  have hc1 := hc c hcc
  rw [hcc] at i0
  cases hm : memoOk b with
  | false =>
   rw [hm] at s1 i1
   refine ⟨[], 1, Ev.bind s0 ?_, Ev.bind i0 ?_, okn⟩
   ·
    simp only [if_true]
    exact Ev.bind s1 badS
   ·
    simp only [hc1, if_false]
    exact Ev.bind i1 (badI c)
  | true =>
   rw [hm] at s1 i1
   have go : ∀ r1 r2, Ev (fun k => spec_MergeVersions.j0 k l p q b false) (r1, r2) → Ev (fun k => impl_MergeVersions.j0 k l p q b c false) (r1, r2) → okVersionS r1 → ∃ (r1 : List S104) (r2 : Int), Ev (fun k => (spec_l27Ok.f k l).bind fun t => if t = true then (spec_l27Memo.f k b).bind fun t2 => spec_MergeVersions.j0 k l p q b (!t2) else spec_MergeVersions.j0 k l p q b true) (r1, r2) ∧ Ev (fun k => (impl_versionsCode.f k l [p, q]).bind fun t => if t = 1 then impl_MergeVersions.j0 k l p q b t true else (impl_memoValid.f k b).bind fun t2 => impl_MergeVersions.j0 k l p q b t (!t2)) (r1, r2) ∧ okVersionS r1 := fun r1 r2 e1 e2 e3 => by
    refine ⟨r1, r2, Ev.bind s0 ?_, Ev.bind i0 ?_, e3⟩
    ·
     simp only [if_true]
     exact Ev.bind s1 e1
    ·
     simp only [hc1, if_false]
     exact Ev.bind i1 e2
   have n1 : spec_l27Number.f l p = some (inR 1 (l.length : Int) p) := by unfold spec_l27Number.f; rw [specIn_eq]; rfl
   have n2 : spec_l27Number.f l q = some (inR 1 (l.length : Int) q) := by unfold spec_l27Number.f; rw [specIn_eq]; rfl
   by_cases hr : (inR 1 (l.length : Int) p && inR 1 (l.length : Int) q) = true
   ·
    rw [if_pos rfl, if_pos hr] at hcc
    subst hcc
    rw [Bool.and_eq_true] at hr
    have rp := hr.1
    have rq := hr.2
    unfold inR at rp rq
    rw [Bool.and_eq_true, decide_eq_true_eq, decide_eq_true_eq] at rp rq
    obtain ⟨a0, a1, a2⟩ := ancV_rng hp (p := p) (q := q) (by omega) (by omega) rp.2 rq.2
    have g0 := stV_ok hh (ancV l p q) a0 (by omega)
    have g1 := stV_ok hh p (by omega) rp.2
    have g2 := stV_ok hh q (by omega) rq.2
    have f0 := (stateOk_facts g0).1
    have f1 := (stateOk_facts g1).1
    have f2 := (stateOk_facts g2).1
    have em : Ev (fun k => impl_MergeStates.f k (stV l (ancV l p q)) (stV l p) (stV l q)) (mrgR (stV l (ancV l p q)) (stV l p) (stV l q)) := by
     have j0 := implState_ev (stV l (ancV l p q)) (by omega)
     have j1 := implState_ev (stV l p) (by omega)
     have j2 := implState_ev (stV l q) (by omega)
     rw [g0] at j0
     rw [g1] at j1
     rw [g2] at j2
     unfold impl_MergeStates.f
     exact Ev.bind j0 (Ev.bind j1 (Ev.bind j2 (implMrg_ev _ _ _ f0 f1 f2)))
    have hst : (mrgR (stV l (ancV l p q)) (stV l p) (stV l q)).1.length ≤ 24 := by
     unfold mrgR
     split
     ·
      simp
     ·
      split
      ·
       simp
      ·
       show (mrgL _ _ _).length ≤ 24
       omega
    have hok : okSettingS (mrgR (stV l (ancV l p q)) (stV l p) (stV l q)).1 := by
     have os : ∀ r, 0 ≤ r → r ≤ (l.length : Int) → okSettingS (stV l r) := fun r r0 r1 => by
      unfold stV
      split
      ·
       exact ⟨by simp, fun x hx => by cases hx⟩
      ·
       exact (o0.2 _ (getD_mem _ (by omega))).2.2.2
     unfold mrgR
     split
     ·
      exact ⟨by simp, fun x hx => by cases hx⟩
     ·
      split
      ·
       exact ⟨by simp, fun x hx => by cases hx⟩
      ·
       exact mrg_ok (os _ a0 (by omega)) (os _ (by omega) rp.2) (os _ (by omega) rq.2) f0 f1 f2
    have h3 : ∀ x ∈ l, x.f3.length ≤ 1048576 := fun x hx => (h2 x hx).2
    refine go (mvR l p q b).1 (mvR l p q b).2 (Ev.succ ?_) (Ev.succ ?_) ?_
    ·
     simp only [spec_MergeVersions.j0, Bool.false_eq_true, if_false, n1, n2, Option.bind_some, hr.1, hr.2, if_true, Bool.not_true]
     refine Ev.succ ?_
     simp only [spec_MergeVersions.j1, Bool.false_eq_true, if_false]
     refine Ev.bind (common_ev hl hp p q rp.1 rp.2 rq.1 rq.2) ?_
     simp only [stS_eq l hl _ a0 (show ancV l p q ≤ l.length by omega), stS_eq l hl p (by omega) rp.2, stS_eq l hl q (by omega) rq.2, Option.bind_some]
     refine Ev.bind (specMrg_ev _ _ _ f0 f1 f2 (names_pos g0 g1 g2)) ?_
     unfold mvR
     by_cases c0 : (mrgR (stV l (ancV l p q)) (stV l p) (stV l q)).2 = 0
     ·
      simp only [c0, if_true]
      exact Ev.bind (addS_ev l hl h3 p b _ (by omega)) (Ev.now _)
     ·
      simp only [c0, if_false]
      exact Ev.now _
    ·
     simp only [impl_MergeVersions.j0, Bool.false_eq_true, if_false, if_true]
     refine Ev.bind (anc_ev hl hp p q (by omega) rp.2 (by omega) rq.2) ?_
     simp only [stI_eq l hl _ a0 (show ancV l p q ≤ l.length by omega), stI_eq l hl p (by omega) rp.2, stI_eq l hl q (by omega) rq.2, Option.bind_some]
     refine Ev.bind em ?_
     unfold mvR
     by_cases c0 : (mrgR (stV l (ancV l p q)) (stV l p) (stV l q)).2 = 0
     ·
      simp only [c0, if_true]
      exact Ev.bind (addI_ev l hl h3 p b _ (by omega)) (Ev.now _)
     ·
      simp only [c0, if_false]
      exact Ev.now _
    ·
     unfold mvR
     split
     ·
      unfold addR
      split
      ·
       exact okn
      ·
       refine ⟨by rw [List.length_append, List.length_singleton]; omega, fun x hx => ?_⟩
       rcases List.mem_append.1 hx with hx | hx
       ·
        exact o0.2 x hx
       ·
        obtain rfl := List.mem_singleton.1 hx
        exact ⟨⟨by show -9223372036854775808 ≤ (l.length : Int) + 1; omega, by show (l.length : Int) + 1 ≤ 9223372036854775807; omega⟩, ⟨by show -9223372036854775808 ≤ p; omega, by show p ≤ 9223372036854775807; omega⟩, by show b.size ≤ 1048576; omega, hok⟩
     ·
      exact okn
   ·
    rw [if_pos rfl, if_neg hr] at hcc
    subst hcc
    refine go [] 3 (Ev.succ ?_) (Ev.succ ?_) okn
    ·
     have bad3 : Ev (fun k => spec_MergeVersions.j1 k l p q b true) ([], 3) := Ev.succ (by simp only [spec_MergeVersions.j1, if_true]; exact Ev.now _)
     simp only [spec_MergeVersions.j0, Bool.false_eq_true, if_false, n1, n2, Option.bind_some]
     cases hp1 : inR 1 (l.length : Int) p with
     | false => simpa using bad3
     | true =>
      rw [hp1, Bool.true_and, Bool.not_eq_true] at hr
      simp only [if_true, hr, Bool.not_false]
      exact bad3
    ·
     simp only [impl_MergeVersions.j0, Bool.false_eq_true, if_false, show ¬ (3 : Int) = 0 by decide]
     exact Ev.now _
end Go.Proofs.Ytenjhbkpcelidaa.Pure
