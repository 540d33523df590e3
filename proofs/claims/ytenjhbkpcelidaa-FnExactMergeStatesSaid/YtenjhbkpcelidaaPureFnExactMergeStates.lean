/- The program's MergeStates returns what the reference's returns, for all arguments. No condition beyond the statement's own. -/
import Derived.Test.YtenjhbkpcelidaaPFnExactMergeStatesx0
import Derived.Test.YtenjhbkpcelidaaPFnExactMergeStatesx1
import Derived.Test.YtenjhbkpcelidaaPFnExactMergeStatesx2
import Derived.Test.YtenjhbkpcelidaaPFnExactMergeStatesx3
import Derived.Test.YtenjhbkpcelidaaPFnExactMergeStatesx4
import Derived.Test.YtenjhbkpcelidaaPFnExactMergeStatesx5
import Derived.Test.YtenjhbkpcelidaaPFnExactMergeStatesx6
import Derived.Test.YtenjhbkpcelidaaPFnExactMergeStatesx7
import Derived.Test.YtenjhbkpcelidaaPFnExactMergeStatesx8
import Derived.Test.YtenjhbkpcelidaaPFnExactMergeStatesx9
import Derived.Test.YtenjhbkpcelidaaPFnExactMergeStatesx10
import Derived.Test.YtenjhbkpcelidaaPFnExactMergeStatesx11
import Derived.Test.YtenjhbkpcelidaaPFnExactMergeStatesx12
namespace Go.Proofs.Ytenjhbkpcelidaa.Pure
open Go.RowKit Go.Proofs.Ytenjhbkpcelidaa.PFnExactMergeStates Go.Proofs.YtenjhbkpcelidaaW.PrintWords Go.Proofs.YtenjhbkpcelidaaW.PrintLast Go.Proofs.YtenjhbkpcelidaaW.PrintMore
set_option linter.unusedVariables false
set_option linter.unusedSimpArgs false

def smallC (c : Int) : Bool := decide (97 ≤ c) && decide (c ≤ 122)
def digitC (c : Int) : Bool := decide (48 ≤ c) && decide (c ≤ 57)
def nameC (c : Int) : Bool := smallC c || digitC c
/-- A name: 1 to 10 bytes, the first one a small letter, all of them small letters or digits. -/
def nameOk (b : ByteArray) : Bool := decide (1 ≤ b.size) && (decide (b.size ≤ 10) && (smallC (bt b 0) && (List.range b.size).all fun i => nameC (bt b i)))

def inR (lo hi x : Int) : Bool := decide (lo ≤ x) && decide (x ≤ hi)
theorem inR_iff {lo hi x : Int} : inR lo hi x = true ↔ lo ≤ x ∧ x ≤ hi := by simp [inR]
theorem inR_no {lo hi x : Int} : inR lo hi x = false ↔ ¬ (lo ≤ x ∧ x ≤ hi) := by rw [← inR_iff]; simp

theorem w64 {x : Int} (h0 : -9223372036854775808 ≤ x) (h1 : x ≤ 9223372036854775807) : wrap64 x = x := by unfold wrap64; omega
theorem rd_nat (l : List Int) (i : Nat) : rd l (i : Int) = l.getD i 0 := by unfold rd; rw [Int.toNat_natCast]
theorem getD_mem {α : Type} {l : List α} {i : Nat} (d : α) (h : i < l.length) : l.getD i d ∈ l := by
  rw [List.getD_eq_getElem?_getD, List.getElem?_eq_getElem h]; exact List.getElem_mem _
theorem getD_lt {α : Type} {l : List α} {i : Nat} (d : α) (h : i < l.length) : l.getD i d = l[i] := by
  rw [List.getD_eq_getElem?_getD, List.getElem?_eq_getElem h]; rfl
theorem take_succ_getD {α : Type} (l : List α) (d : α) {i : Nat} (h : i < l.length) : l.take (i + 1) = l.take i ++ [l.getD i d] := by
  rw [List.take_succ_eq_append_getElem h, getD_lt d h]
/-- A loop that copies a list, element by element. -/
theorem ev_copy {α : Type} (L : Nat → List α → List α → Int → Option (List α)) (xs : List α) (d d' : α)
    (step : ∀ ys i, i < xs.length → ys.length = xs.length → ∀ r, Ev (fun k => L k xs (ys.set i (xs.getD i d)) ((i + 1 : Nat) : Int)) r → Ev (fun k => L k xs ys (i : Int)) r)
    (fin : ∀ ys, Ev (fun k => L k xs ys (xs.length : Int)) ys) : Ev (fun k => L k xs (List.replicate xs.length d') 0) xs := by
  have key : ∀ (m i : Nat) (ys : List α), i + m = xs.length → ys.length = xs.length → (∀ j, j < i → ys[j]? = xs[j]?) → Ev (fun k => L k xs ys (i : Int)) xs := by
    intro m
    induction m with
    | zero =>
      intro i ys hi hl hj
      have e : ys = xs := List.ext_getElem? (fun j => by
        by_cases h : j < xs.length
        · exact hj j (by omega)
        · rw [List.getElem?_eq_none (by omega), List.getElem?_eq_none (by omega)])
      have : i = xs.length := by omega
      subst this
      rw [e]
      exact fin xs
    | succ m ih =>
      intro i ys hi hl hj
      refine step ys i (by omega) hl xs (ih (i + 1) _ (by omega) (by rw [List.length_set]; exact hl) (fun j hjj => ?_))
      by_cases h : j = i
      · subst h
        rw [List.getElem?_set_self (by omega), getD_lt d (by omega), List.getElem?_eq_getElem (by omega)]
      · rw [List.getElem?_set_ne (by omega)]
        exact hj j (by omega)
  exact key xs.length 0 _ (by omega) (List.length_replicate ..) (fun j hj => absurd hj (Nat.not_lt_zero _))
/-- A loop that compares two lists. -/
theorem ev_eq {α : Type} (L : Nat → List α → List α → Int → Option Bool) (xs : List α) 
    (step : ∀ i, i < xs.length → Ev (fun k => L k xs xs ((i + 1 : Nat) : Int)) true → Ev (fun k => L k xs xs (i : Int)) true)
    (fin : Ev (fun k => L k xs xs (xs.length : Int)) true) : Ev (fun k => L k xs xs 0) true := by
  have key : ∀ (m i : Nat), i + m = xs.length → Ev (fun k => L k xs xs (i : Int)) true := by
    intro m
    induction m with
    | zero =>
      intro i hi
      have : i = xs.length := by omega
      subst this
      exact fin
    | succ m ih => intro i hi; exact step i (by omega) (ih (i + 1) (by omega))
  exact key xs.length 0 (by omega)

abbrev Bs := List UInt8
theorem bs_irr (x : Bs) : ¬ x < x := List.lt_irrefl x
theorem bs_tr {x y z : Bs} (h1 : x < y) (h2 : y < z) : x < z := List.lt_trans h1 h2
theorem bs_tri {x y : Bs} (h1 : ¬ x < y) (h2 : x ≠ y) : y < x := by
  refine Classical.byContradiction fun h3 => h2 ?_
  exact List.le_antisymm (List.not_lt.1 h3) (List.not_lt.1 h1)
/-- Two lists in strict order with the same elements are one. -/
theorem strict_ext : ∀ (xs ys : List Bs), xs.Pairwise (· < ·) → ys.Pairwise (· < ·) → (∀ a, a ∈ xs ↔ a ∈ ys) → xs = ys
  | [], [], _, _, _ => rfl
  | [], y :: ys, _, _, h => absurd ((h y).2 List.mem_cons_self) (by simp)
  | x :: xs, [], _, _, h => absurd ((h x).1 List.mem_cons_self) (by simp)
  | x :: xs, y :: ys, hx, hy, h => by
    obtain ⟨hx1, hx2⟩ := List.pairwise_cons.1 hx
    obtain ⟨hy1, hy2⟩ := List.pairwise_cons.1 hy
    have e : x = y := by
      rcases List.mem_cons.1 ((h x).1 List.mem_cons_self) with e | m1
      · exact e
      · rcases List.mem_cons.1 ((h y).2 List.mem_cons_self) with e | m2
        · exact e.symm
        · exact absurd (bs_tr (hy1 x m1) (hx1 y m2)) (bs_irr y)
    subst e
    congr 1
    refine strict_ext xs ys hx2 hy2 fun a => ⟨fun ha => ?_, fun ha => ?_⟩
    · rcases List.mem_cons.1 ((h a).1 (List.mem_cons_of_mem _ ha)) with e | m
      · subst e; exact absurd (hx1 a ha) (bs_irr a)
      · exact m
    · rcases List.mem_cons.1 ((h a).2 (List.mem_cons_of_mem _ ha)) with e | m
      · subst e; exact absurd (hy1 a ha) (bs_irr a)
      · exact m
/-- x set into its place, if it is not there. -/
def insU (x : Bs) : List Bs → List Bs
  | [] => [x]
  | y :: ys => if y < x then y :: insU x ys else if y = x then y :: ys else x :: y :: ys
theorem insU_mem (x a : Bs) : ∀ ys : List Bs, a ∈ insU x ys ↔ a = x ∨ a ∈ ys
  | [] => by simp [insU]
  | y :: ys => by
    unfold insU
    split
    · rw [List.mem_cons, insU_mem x a ys, List.mem_cons]
      constructor
      · rintro (h | h | h) <;> simp [h]
      · rintro (h | h | h) <;> simp [h]
    · split
      · rename_i e
        subst e
        simp
      · simp
theorem insU_strict (x : Bs) : ∀ ys : List Bs, ys.Pairwise (· < ·) → (insU x ys).Pairwise (· < ·)
  | [], _ => by simp [insU]
  | y :: ys, h => by
    obtain ⟨h1, h2⟩ := List.pairwise_cons.1 h
    unfold insU
    split
    · rename_i hyx
      refine List.pairwise_cons.2 ⟨fun a ha => ?_, insU_strict x ys h2⟩
      rcases (insU_mem x a ys).1 ha with e | m
      · subst e; exact hyx
      · exact h1 a m
    · split
      · exact h
      · rename_i h3 h4
        have hxy := bs_tri h3 h4
        refine List.pairwise_cons.2 ⟨fun a ha => ?_, h⟩
        rcases List.mem_cons.1 ha with e | m
        · subst e; exact hxy
        · exact bs_tr hxy (h1 a m)
theorem foldU_spec : ∀ (xs out : List Bs), out.Pairwise (· < ·) → (xs.foldl (fun o x => insU x o) out).Pairwise (· < ·) ∧ ∀ a, a ∈ xs.foldl (fun o x => insU x o) out ↔ a ∈ xs ∨ a ∈ out
  | [], out, h => ⟨h, fun a => by simp⟩
  | x :: xs, out, h => by
    obtain ⟨h1, h2⟩ := foldU_spec xs (insU x out) (insU_strict x out h)
    refine ⟨h1, fun a => ?_⟩
    rw [List.foldl_cons, h2 a, insU_mem, List.mem_cons]
    constructor
    · rintro (h | h | h) <;> simp [h]
    · rintro ((h | h) | h) <;> simp [h]
/-- What is left of a row in order, each run once: in strict order, of the same elements. -/
theorem compact_spec (zs : List Bs) (hs : zs.Pairwise (· ≤ ·)) : (Lib.compact zs).Pairwise (· < ·) ∧ ∀ a, a ∈ Lib.compact zs ↔ a ∈ zs := by
  have hle : ∀ i j, i ≤ j → j < zs.length → zs[i]! ≤ zs[j]! := by
    intro i j hij hj
    rcases Nat.lt_or_eq_of_le hij with h | h
    · have := List.pairwise_iff_getElem.1 hs i j (by omega) hj h
      rwa [getElem!_pos zs i (by omega), getElem!_pos zs j hj]
    · subst h; exact List.le_refl _
  have key : ∀ m, m ≤ zs.length → (Lib.compactUpTo zs.toArray m).Pairwise (· < ·) ∧ (∀ a, a ∈ Lib.compactUpTo zs.toArray m ↔ ∃ j, j < m ∧ a = zs[j]!) := by
    intro m
    induction m with
    | zero => intro _; exact ⟨by simp [Lib.compactUpTo], by simp [Lib.compactUpTo]⟩
    | succ m ih =>
      intro hm
      obtain ⟨h1, h2⟩ := ih (by omega)
      have hg : ∀ j : Nat, zs.toArray[j]! = zs[j]! := fun j => by simp
      rw [Lib.compactUpTo_succ]
      cases hk : Lib.keeps zs.toArray m with
      | true =>
        rw [if_pos rfl, hg]
        refine ⟨List.pairwise_append.2 ⟨h1, List.pairwise_singleton _ _, fun a ha b hb => ?_⟩, fun a => ?_⟩
        · obtain ⟨j, hj, rfl⟩ := (h2 a).1 ha
          rw [List.mem_singleton] at hb
          subst hb
          have h3 := hle j (m - 1) (by omega) (by omega)
          have h4 := hle (m - 1) m (by omega) (by omega)
          have h5 : zs[m]! ≠ zs[m - 1]! := by
            simp only [Lib.keeps, decide_eq_true_eq, hg] at hk
            rcases hk with hk | hk
            · omega
            · exact hk
          have h6 : zs[m - 1]! < zs[m]! := Classical.byContradiction fun h7 => h5 (List.le_antisymm (List.not_lt.1 h7) h4)
          exact Classical.byContradiction fun h7 => (List.not_lt.2 (List.le_trans (List.not_lt.1 h7) h3)) h6
        · rw [List.mem_append, h2 a, List.mem_singleton]
          constructor
          · rintro (⟨j, hj, e⟩ | e)
            · exact ⟨j, by omega, e⟩
            · exact ⟨m, by omega, e⟩
          · rintro ⟨j, hj, e⟩
            by_cases hjm : j = m
            · subst hjm; exact .inr e
            · exact .inl ⟨j, by omega, e⟩
      | false =>
        rw [if_neg (by decide), List.append_nil]
        refine ⟨h1, fun a => ?_⟩
        rw [h2 a]
        have hm0 : 0 < m ∧ zs[m]! = zs[m - 1]! := by
          simp only [Lib.keeps, decide_eq_false_iff_not, hg] at hk
          exact ⟨by omega, Classical.byContradiction fun h => hk (.inr h)⟩
        constructor
        · rintro ⟨j, hj, e⟩; exact ⟨j, by omega, e⟩
        · rintro ⟨j, hj, e⟩
          by_cases hjm : j = m
          · subst hjm; exact ⟨j - 1, by omega, by rw [e, hm0.2]⟩
          · exact ⟨j, by omega, e⟩
  obtain ⟨h1, h2⟩ := key zs.length (Nat.le_refl _)
  refine ⟨h1, fun a => ?_⟩
  unfold Lib.compact
  rw [h2 a]
  constructor
  · rintro ⟨j, hj, rfl⟩
    rw [getElem!_pos zs j hj]
    exact List.getElem_mem _
  · intro ha
    obtain ⟨j, hj, rfl⟩ := List.mem_iff_getElem.1 ha
    exact ⟨j, hj, by rw [getElem!_pos zs j hj]⟩
theorem sort_spec (zs : List Bs) : (zs.mergeSort fun x y => decide (x ≤ y)).Pairwise (· ≤ ·) ∧ ∀ a, a ∈ (zs.mergeSort fun x y => decide (x ≤ y)) ↔ a ∈ zs := by
  refine ⟨?_, fun a => List.mem_mergeSort⟩
  have tr : ∀ a b c : Bs, decide (a ≤ b) = true → decide (b ≤ c) = true → decide (a ≤ c) = true := fun a b c h1 h2 => by simp only [decide_eq_true_eq] at *; exact List.le_trans h1 h2
  have tt : ∀ a b : Bs, (decide (a ≤ b) || decide (b ≤ a)) = true := fun a b => by simp only [Bool.or_eq_true, decide_eq_true_eq]; exact List.le_total a b
  exact (List.pairwise_mergeSort tr tt zs).imp fun h => of_decide_eq_true h
theorem fold_eq_compact (zs : List Bs) : zs.foldl (fun o x => insU x o) [] = Lib.compact (zs.mergeSort fun x y => decide (x ≤ y)) := by
  obtain ⟨h1, h2⟩ := foldU_spec zs [] List.Pairwise.nil
  obtain ⟨h3, h4⟩ := sort_spec zs
  obtain ⟨h5, h6⟩ := compact_spec _ h3
  exact strict_ext _ _ h1 h5 fun a => by rw [h2 a, h6 a, h4 a]; simp

theorem bytesLess_iff : ∀ (a b : List UInt8), Op.bytesLess a b = true ↔ a < b
  | [], [] => by simp [Op.bytesLess]
  | [], y :: ys => by simp [Op.bytesLess]
  | x :: xs, [] => by simp [Op.bytesLess]
  | x :: xs, y :: ys => by
    have ih := bytesLess_iff xs ys
    simp only [Op.bytesLess, List.cons_lt_cons_iff]
    by_cases h : x = y
    · subst h
      simp [ih]
    · simp [h]
def mkB (x : Bs) : ByteArray := ⟨x.toArray⟩
theorem mkB_toList (x : Bs) : (mkB x).toList = x := by rw [ByteArray.toList_eq]; rfl
theorem mkB_data (x : ByteArray) : mkB x.data.toList = x := rfl

theorem bltB (a b : ByteArray) : (Op.bytesLess a.toList b.toList = true) ↔ a.data.toList < b.data.toList := by
  rw [bytesLess_iff, ByteArray.toList_eq, ByteArray.toList_eq]
theorem beqB (a b : ByteArray) : (a.toList = b.toList) ↔ a = b := by
  rw [ByteArray.toList_eq, ByteArray.toList_eq]
  constructor
  · intro h
    cases a; cases b
    congr 1
    exact Array.ext' h
  · intro h; rw [h]
theorem ext_data {a b : ByteArray} (h : a.data.toList = b.data.toList) : a = b := by
  cases a; cases b
  congr 1
  exact Array.ext' h

def settOk (x : S71) : Bool := nameOk x.f0 && inR 0 1000 x.f1
def settAt (l : List S71) (i : Nat) : Bool := settOk (l.getD i z71) && (decide (i = 0) || decide ((l.getD (i - 1) z71).f0.data.toList < (l.getD i z71).f0.data.toList))
def stateOk (l : List S71) : Bool := decide (l.length ≤ 24) && (List.range l.length).all (settAt l)
theorem rdSt (l : List S71) (i : Nat) : rd_T71 l (i : Int) = l.getD i z71 := by unfold rd_T71; rw [Int.toNat_natCast]
theorem rdSts (l : List S71) (i : Nat) (h : 0 < i) : rd_T71 l ((i : Int) - 1) = l.getD (i - 1) z71 := by
  unfold rd_T71
  congr 1
  omega
def skey (x : S71) : Bs := x.f0.data.toList
/-- What a state that is valid is: short, its names in strict order, each valid. -/
theorem stateOk_facts {l : List S71} (h : stateOk l = true) : l.length ≤ 24 ∧ (l.map skey).Pairwise (· < ·) ∧ ∀ x ∈ l, settOk x = true := by
  unfold stateOk at h
  rw [Bool.and_eq_true, decide_eq_true_eq, List.all_eq_true] at h
  obtain ⟨h1, h2⟩ := h
  have h3 : ∀ i, i < l.length → settAt l i = true := fun i hi => h2 i (List.mem_range.2 hi)
  refine ⟨h1, ?_, fun x hx => ?_⟩
  · rw [List.pairwise_iff_getElem]
    have step : ∀ i, (hi : i + 1 < l.length) → skey l[i] < skey l[i + 1] := fun i hi => by
      have := h3 (i + 1) hi
      unfold settAt at this
      rw [Bool.and_eq_true, Bool.or_eq_true, decide_eq_true_eq, decide_eq_true_eq] at this
      have h4 := this.2.resolve_left (by omega)
      rw [Nat.add_sub_cancel, getD_lt _ (by omega), getD_lt _ hi] at h4
      exact h4
    have far : ∀ m i, (hi : i + m + 1 < l.length) → skey (l[i]'(by omega)) < skey (l[i + m + 1]'hi) := by
      intro m
      induction m with
      | zero => intro i hi; exact step i hi
      | succ m ih =>
        intro i hi
        exact bs_tr (ih i (by omega)) (step (i + m + 1) hi)
    intro i j hi hj hij
    rw [List.length_map] at hi hj
    rw [List.getElem_map, List.getElem_map]
    have e : j = i + (j - i - 1) + 1 := by omega
    have := far (j - i - 1) i (by omega)
    simpa only [← e] using this
  · obtain ⟨i, hi, rfl⟩ := List.mem_iff_getElem.1 hx
    have := h3 i hi
    unfold settAt at this
    rw [Bool.and_eq_true, getD_lt _ hi] at this
    exact this.1
theorem settOk_pos {x : S71} (h : settOk x = true) : 1 ≤ x.f0.size := by
  unfold settOk nameOk at h
  rw [Bool.and_eq_true, Bool.and_eq_true, decide_eq_true_eq] at h
  exact h.1.1

theorem specIn_eq (a lo hi : Int) : spec_l00In.f a lo hi = some (inR lo hi a) := by
  unfold spec_l00In.f inR
  by_cases h : a ≥ lo
  · rw [if_pos h, decide_eq_true (show lo ≤ a from h)]; rfl
  · rw [if_neg h, decide_eq_false (show ¬ lo ≤ a from h)]; rfl

/-- A loop that looks at all elements: on, or out with b; at the end c. -/
theorem ev_all {α ρ : Type} (L : Nat → Int → Option ρ) (xs : List α) (d : α) (p : α → Bool) (b c : ρ)
    (step : ∀ i, i < xs.length → p (xs.getD i d) = true → ∀ r, Ev (fun k => L k ((i + 1 : Nat) : Int)) r → Ev (fun k => L k (i : Int)) r)
    (bad : ∀ i, i < xs.length → p (xs.getD i d) = false → Ev (fun k => L k (i : Int)) b)
    (fin : Ev (fun k => L k (xs.length : Int)) c) : Ev (fun k => L k 0) (if xs.all p = true then c else b) := by
  have key : ∀ (m i : Nat), i + m = xs.length → Ev (fun k => L k (i : Int)) (if (xs.drop i).all p = true then c else b) := by
    intro m
    induction m with
    | zero =>
      intro i hi
      have : i = xs.length := by omega
      subst this
      rw [List.drop_length]
      exact fin
    | succ m ih =>
      intro i hi
      have hlt : i < xs.length := by omega
      rw [List.drop_eq_getElem_cons hlt, List.all_cons, ← getD_lt d hlt]
      cases hp : p (xs.getD i d) with
      | true => rw [Bool.true_and]; exact step i hlt hp _ (ih (i + 1) (by omega))
      | false => rw [Bool.false_and, if_neg (by decide)]; exact bad i hlt hp
  exact key xs.length 0 (by omega)
/-- The loop that counts what is read. -/
theorem ev_sz {α : Type} (L : Nat → Int → Int → Option Int) (xs : List α) (d : α) (B : α → Prop)
    (step : ∀ i a, i < xs.length → 0 ≤ a → a ≤ 1048576 → Ev (fun k => L k a (i : Int)) (-1) ∨ (∃ a', 0 ≤ a' ∧ a' ≤ a ∧ B (xs.getD i d) ∧ ∀ r, Ev (fun k => L k a' ((i + 1 : Nat) : Int)) r → Ev (fun k => L k a (i : Int)) r))
    (fin : ∀ a, Ev (fun k => L k a (xs.length : Int)) a) : ∀ a, 0 ≤ a → a ≤ 1048576 → ∃ r, Ev (fun k => L k a 0) r ∧ (r < 0 ∨ (0 ≤ r ∧ r ≤ a ∧ ∀ x ∈ xs, B x)) := by
  have key : ∀ (m i : Nat) (a : Int), i + m = xs.length → 0 ≤ a → a ≤ 1048576 → ∃ r, Ev (fun k => L k a (i : Int)) r ∧ (r < 0 ∨ (0 ≤ r ∧ r ≤ a ∧ ∀ j, i ≤ j → j < xs.length → B (xs.getD j d))) := by
    intro m
    induction m with
    | zero =>
      intro i a hi h0 h1
      have : i = xs.length := by omega
      subst this
      exact ⟨a, fin a, .inr ⟨h0, Int.le_refl _, fun j h2 h3 => by omega⟩⟩
    | succ m ih =>
      intro i a hi h0 h1
      rcases step i a (by omega) h0 h1 with h | ⟨a', h2, h3, hB, h⟩
      · exact ⟨-1, h, .inl (by decide)⟩
      · obtain ⟨r, hr, hq⟩ := ih (i + 1) a' (by omega) h2 (by omega)
        refine ⟨r, h r hr, ?_⟩
        rcases hq with hq | ⟨q0, q1, q2⟩
        · exact .inl hq
        · refine .inr ⟨q0, by omega, fun j h4 h5 => ?_⟩
          by_cases e : j = i
          · subst e; exact hB
          · exact q2 j (by omega) h5
  intro a h0 h1
  obtain ⟨r, hr, hq⟩ := key xs.length 0 a (by omega) h0 h1
  refine ⟨r, hr, hq.imp_right fun ⟨q0, q1, q2⟩ => ⟨q0, q1, fun x hx => ?_⟩⟩
  obtain ⟨j, hj, rfl⟩ := List.mem_iff_getElem.1 hx
  rw [← getD_lt d hj]
  exact q2 j (Nat.zero_le _) hj

theorem specSmall_eq (c : Int) : spec_l01Small.f c = some (smallC c) := by
  unfold spec_l01Small.f smallC
  by_cases h : c ≥ 97
  · rw [if_pos h, decide_eq_true (show 97 ≤ c from h)]; rfl
  · rw [if_neg h, decide_eq_false (show ¬ 97 ≤ c from h)]; rfl
theorem specDigit_eq (c : Int) : spec_l01Digit.f c = some (digitC c) := by
  unfold spec_l01Digit.f digitC
  by_cases h : c ≥ 48
  · rw [if_pos h, decide_eq_true (show 48 ≤ c from h)]; rfl
  · rw [if_neg h, decide_eq_false (show ¬ 48 ≤ c from h)]; rfl
theorem specName_ev (b : ByteArray) : Ev (fun k => spec_l01Name.f k b) (nameOk b) := by
  unfold spec_l01Name.f nameOk
  have hz : b.toList = ([] : List UInt8) ↔ b.size = 0 := by
    rw [ByteArray.toList_eq, show b.size = b.data.toList.length from rfl]
    exact List.length_eq_zero_iff.symm
  by_cases h1 : b.size < 1
  · rw [decide_eq_false (by omega), Bool.false_and]
    simp only [show b.toList = ([] : List UInt8) from hz.2 (by omega), if_true]
    exact Ev.step (f := fun _ => some false) (fun k => by simp [spec_l01Name.j0]) (Ev.now _)
  · rw [decide_eq_true (show 1 ≤ b.size by omega), Bool.true_and]
    simp only [show ¬ b.toList = ([] : List UInt8) from fun e => by have := hz.1 e; omega, if_false]
    by_cases h10 : b.size > 10
    · rw [decide_eq_false (show ¬ b.size ≤ 10 by omega), Bool.false_and]
      simp only [show (b.size : Int) > 10 by omega, if_true]
      exact Ev.step (f := fun _ => some false) (fun k => by simp [spec_l01Name.j0]) (Ev.now _)
    · rw [decide_eq_true (show b.size ≤ 10 by omega), Bool.true_and]
      simp only [show ¬ (b.size : Int) > 10 by omega, if_false, show 0 < (b.size : Int) by omega, if_true, specSmall_eq, Option.bind_some]
      cases hs : smallC (bt b 0) with
      | false =>
        rw [Bool.false_and]
        exact Ev.step (f := fun _ => some false) (fun k => by simp [spec_l01Name.j0]) (Ev.now _)
      | true =>
        rw [Bool.true_and]
        refine Ev.step (f := fun k => spec_l01Name.l0 k b 0) (fun k => by simp [spec_l01Name.j0]) ?_
        have key := ev_all (fun k i => spec_l01Name.l0 k b i) (List.range b.size) 0 (fun i => nameC (bt b i)) false true (fun i hi hp s hs2 => ?_) (fun i hi hp => ?_) ?_
        · revert key
          cases (List.range b.size).all fun i => nameC (bt b i) <;> exact id
        · rw [List.length_range] at hi
          rw [getD_lt 0 (by simpa using hi), List.getElem_range] at hp
          refine Ev.step (fun k => ?_) hs2
          simp only [spec_l01Name.l0]
          rw [if_pos (by omega), if_pos (by omega), specSmall_eq, specDigit_eq]
          simp only [Option.bind_some]
          unfold nameC at hp
          cases h3 : smallC (bt b i) with
          | true => rw [if_pos rfl, w64 (by omega) (by omega)]; rfl
          | false =>
            rw [h3, Bool.false_or] at hp
            rw [hp, if_neg (by decide), if_pos rfl, w64 (by omega) (by omega)]
            rfl
        · rw [List.length_range] at hi
          rw [getD_lt 0 (by simpa using hi), List.getElem_range] at hp
          refine Ev.step (f := fun _ => some false) (fun k => ?_) (Ev.now _)
          simp only [spec_l01Name.l0]
          unfold nameC at hp
          rw [Bool.or_eq_false_iff] at hp
          rw [if_pos (by omega), if_pos (by omega), specSmall_eq, specDigit_eq, hp.1, hp.2]
          rfl
        · refine Ev.step (f := fun _ => some true) (fun k => ?_) (Ev.now _)
          simp only [spec_l01Name.l0]
          rw [List.length_range, if_neg (by omega)]

theorem Ev.succ {α : Type} {g : Nat → Option α} {r : α} (h : Ev (fun k => g (k + 1)) r) : Ev g r := Ev.step (fun _ => rfl) h
theorem Ev.now' {α : Type} {a b : α} (h : a = b) : Ev (fun _ => some a) b := h ▸ Ev.now a
theorem Ev.uniq {α : Type} {g : Nat → Option α} {a b : α} (h : Ev g a) (k : Ev g b) : a = b := by
  obtain ⟨K, h⟩ := h
  obtain ⟨K', k⟩ := k
  have h1 := h (max K K') (by omega)
  have h2 := k (max K K') (by omega)
  rw [h1] at h2
  exact Option.some.inj h2
theorem lit_i64 {x : Int} (h : (Lit.int .i64 x).wf = true) : -9223372036854775808 ≤ x ∧ x ≤ 9223372036854775807 := by
  have h2 : (decide (IntKind.i64.min ≤ x) && decide (x ≤ IntKind.i64.max)) = true := h
  simp only [Bool.and_eq_true, decide_eq_true_eq] at h2
  exact h2
/-- A loop over a list: on with another state, or out. -/
def runL {α σ ρ : Type} (body : Nat → σ → α → σ ⊕ ρ) (fin : σ → ρ) : Nat → List α → σ → ρ
  | _, [], s => fin s
  | i, x :: xs, s => match body i s x with | .inl s' => runL body fin (i + 1) xs s' | .inr r => r
theorem ev_run {α σ ρ : Type} (L : Nat → σ → Int → Option ρ) (body : Nat → σ → α → σ ⊕ ρ) (f : σ → ρ) (xs : List α) (d : α) (I : Nat → σ → Prop) (s0 : σ) (h0 : I 0 s0)
    (step : ∀ i s, i < xs.length → I i s → ∀ r, (match body i s (xs.getD i d) with | .inl s' => I (i + 1) s' ∧ Ev (fun k => L k s' ((i : Int) + 1)) r | .inr r' => r' = r) → Ev (fun k => L k s i) r)
    (keep : ∀ i s s', i < xs.length → I i s → body i s (xs.getD i d) = .inl s' → I (i + 1) s')
    (fin : ∀ s, I xs.length s → Ev (fun k => L k s xs.length) (f s)) : Ev (fun k => L k s0 0) (runL body f 0 xs s0) := by
  have key : ∀ (m i : Nat) (s : σ), i + m = xs.length → I i s → Ev (fun k => L k s (i : Int)) (runL body f i (xs.drop i) s) := by
    intro m
    induction m with
    | zero =>
      intro i s hi hI
      have : i = xs.length := by omega
      subst this
      rw [List.drop_length]
      exact fin s hI
    | succ m ih =>
      intro i s hi hI
      have hlt : i < xs.length := by omega
      refine step i s hlt hI _ ?_
      rw [List.drop_eq_getElem_cons hlt]
      simp only [runL]
      rw [← getD_lt d hlt]
      cases hb : body i s (xs.getD i d) with
      | inl s' => exact ⟨keep i s s' hlt hI hb, ih (i + 1) s' (by omega) (keep i s s' hlt hI hb)⟩
      | inr r => rfl
  exact key xs.length 0 s0 (by omega) h0

theorem specSett_ev (x : S71) : Ev (fun k => spec_l27Setting.f k [x]) (settOk x) := by
  unfold spec_l27Setting.f settOk
  have e : rd_T71 [x] 0 = x := rfl
  simp only [e, List.length_singleton, show (0 : Int) < ((1 : Nat) : Int) by decide, if_true, specIn_eq, Option.bind_some]
  refine Ev.bind (specName_ev x.f0) ?_
  cases nameOk x.f0 with
  | false => exact Ev.now _
  | true => exact Ev.now _
theorem specState_ev (l : List S71) (hl : l.length ≤ 1048576) : Ev (fun k => spec_l27State.f k l) (stateOk l) := by
  unfold spec_l27State.f
  have key := ev_all (fun k i => spec_l27State.l0 k l i) (List.range l.length) 0 (settAt l) false (decide (l.length ≤ 24)) (fun i hi hp s hs => ?_) (fun i hi hp => ?_) ?_
  · unfold stateOk
    revert key
    cases (List.range l.length).all (settAt l) with
    | true => rw [Bool.and_true]; exact id
    | false => rw [Bool.and_false]; exact id
  · rw [List.length_range] at hi
    rw [getD_lt 0 (by simpa using hi), List.getElem_range] at hp
    unfold settAt at hp
    rw [Bool.and_eq_true, Bool.or_eq_true, decide_eq_true_eq, decide_eq_true_eq] at hp
    refine Ev.succ ?_
    simp (disch := omega) only [spec_l27State.l0, if_pos, w64, rdSt]
    have h1 := specSett_ev (l.getD i z71)
    rw [hp.1] at h1
    refine Ev.bind h1 ?_
    by_cases h0 : 0 < i
    · have := hp.2.resolve_left (by omega)
      simp (disch := omega) only [rdSts, if_pos, if_neg, bltB, this, if_true]
      exact hs
    · simp (disch := omega) only [if_pos, if_neg]
      exact hs
  · rw [List.length_range] at hi
    rw [getD_lt 0 (by simpa using hi), List.getElem_range] at hp
    unfold settAt at hp
    refine Ev.succ ?_
    simp (disch := omega) only [spec_l27State.l0, if_pos, w64, rdSt]
    refine Ev.bind (specSett_ev (l.getD i z71)) ?_
    cases ho : settOk (l.getD i z71) with
    | false => exact Ev.now _
    | true =>
      rw [ho, Bool.true_and, Bool.or_eq_false_iff, decide_eq_false_iff_not, decide_eq_false_iff_not] at hp
      simp (disch := omega) only [rdSts, if_pos, if_neg, bltB, hp.2, if_false]
      exact Ev.now _
  · refine Ev.succ ?_
    simp only [spec_l27State.l0, List.length_range, Int.lt_irrefl, if_false]
    exact Ev.now' (by rw [decide_eq_decide]; omega)

theorem implIn_eq (a lo hi : Int) : impl_within.f a lo hi = some (inR lo hi a) := rfl

theorem implBytes_ev (b : ByteArray) (hb : b.size ≤ 10) : Ev (fun k => impl_onlyNameBytes.f k b) ((List.range b.size).all fun i => nameC (bt b i)) := by
  unfold impl_onlyNameBytes.f
  have key := ev_all (fun k i => impl_onlyNameBytes.l0 k b b.size i) (List.range b.size) 0 (fun i => nameC (bt b i)) false true (fun i hi hp s hs2 => ?_) (fun i hi hp => ?_) ?_
  · revert key
    cases (List.range b.size).all fun i => nameC (bt b i) <;> exact id
  · rw [List.length_range] at hi
    rw [getD_lt 0 (by simpa using hi), List.getElem_range] at hp
    refine Ev.step (fun k => ?_) hs2
    simp only [impl_onlyNameBytes.l0]
    rw [if_pos (by omega), if_pos (by omega), if_pos (by omega), w64 (by omega) (by omega)]
    simp only [nameC, smallC, digitC, Bool.or_eq_true, Bool.and_eq_true, decide_eq_true_eq] at hp
    split
    · rw [if_neg (by omega), if_neg (by omega)]; rfl
    · split
      · omega
      · rfl
  · rw [List.length_range] at hi
    rw [getD_lt 0 (by simpa using hi), List.getElem_range] at hp
    refine Ev.step (f := fun _ => some false) (fun k => ?_) (Ev.now _)
    simp only [impl_onlyNameBytes.l0]
    rw [if_pos (by omega), if_pos (by omega), if_pos (by omega)]
    simp only [nameC, smallC, digitC, Bool.or_eq_false_iff, Bool.and_eq_false_iff, decide_eq_false_iff_not] at hp
    split
    · split
      · rfl
      · rw [if_pos (by omega)]
    · split
      · rw [if_neg (by omega), if_pos (by omega)]
      · omega
  · refine Ev.step (f := fun _ => some true) (fun k => ?_) (Ev.now _)
    simp only [impl_onlyNameBytes.l0]
    rw [List.length_range, if_neg (by omega)]
theorem implName_ev (b : ByteArray) : Ev (fun k => impl_IsName.f k b) (nameOk b) := by
  unfold impl_IsName.f nameOk
  by_cases h1 : b.size < 1
  · rw [decide_eq_false (by omega), Bool.false_and]
    simp only [show (b.size : Int) < 1 by omega, if_true]
    exact Ev.now _
  · rw [decide_eq_true (show 1 ≤ b.size by omega), Bool.true_and]
    simp only [show ¬ (b.size : Int) < 1 by omega, if_false]
    by_cases h10 : b.size > 10
    · rw [decide_eq_false (show ¬ b.size ≤ 10 by omega), Bool.false_and]
      simp only [show (b.size : Int) > 10 by omega, if_true]
      exact Ev.now _
    · rw [decide_eq_true (show b.size ≤ 10 by omega), Bool.true_and]
      simp only [show ¬ (b.size : Int) > 10 by omega, if_false, show 0 < (b.size : Int) by omega, if_true]
      unfold smallC
      by_cases g1 : bt b 0 < 97
      · simp only [g1, if_true, decide_eq_false (show ¬ 97 ≤ bt b 0 by omega), Bool.false_and]
        exact Ev.now _
      · simp only [g1, if_false, decide_eq_true (show 97 ≤ bt b 0 by omega), Bool.true_and]
        by_cases g2 : bt b 0 > 122
        · simp only [g2, if_true, decide_eq_false (show ¬ bt b 0 ≤ 122 by omega), Bool.false_and]
          exact Ev.now _
        · simp only [g2, if_false, decide_eq_true (show bt b 0 ≤ 122 by omega), Bool.true_and]
          refine Ev.bind (implBytes_ev b (by omega)) ?_
          exact Ev.now _

theorem implSett_ev (x : S71) : Ev (fun k => impl_Setting_valid.f k x.f0 x.f1) (settOk x) := by
  unfold impl_Setting_valid.f settOk
  simp only [implIn_eq, Option.bind_some]
  refine Ev.bind (implName_ev x.f0) ?_
  cases nameOk x.f0 with
  | false => exact Ev.now _
  | true => exact Ev.now _
theorem implState_ev (l : List S71) (hl : l.length ≤ 1048576) : Ev (fun k => impl_ValidState.f k l) (stateOk l) := by
  unfold impl_ValidState.f stateOk
  by_cases hn : l.length > 24
  · rw [decide_eq_false (by omega), Bool.false_and]
    simp only [show (l.length : Int) > 24 by omega, if_true]
    exact Ev.now _
  rw [decide_eq_true (show l.length ≤ 24 by omega), Bool.true_and]
  simp only [show ¬ (l.length : Int) > 24 by omega, if_false]
  have key := ev_all (fun k i => impl_ValidState.l0 k l l l.length i) (List.range l.length) 0 (settAt l) false true (fun i hi hp s hs => ?_) (fun i hi hp => ?_) ?_
  · revert key
    cases (List.range l.length).all (settAt l) <;> exact id
  · rw [List.length_range] at hi
    rw [getD_lt 0 (by simpa using hi), List.getElem_range] at hp
    unfold settAt at hp
    rw [Bool.and_eq_true, Bool.or_eq_true, decide_eq_true_eq, decide_eq_true_eq] at hp
    refine Ev.succ ?_
    simp (disch := omega) only [impl_ValidState.l0, if_pos, w64, rdSt]
    have h1 := implSett_ev (l.getD i z71)
    rw [hp.1] at h1
    refine Ev.bind h1 ?_
    by_cases h0 : 0 < i
    · have := hp.2.resolve_left (by omega)
      simp (disch := omega) only [rdSts, if_pos, if_neg, bltB, this, if_true]
      exact hs
    · simp (disch := omega) only [if_pos, if_neg]
      exact hs
  · rw [List.length_range] at hi
    rw [getD_lt 0 (by simpa using hi), List.getElem_range] at hp
    unfold settAt at hp
    refine Ev.succ ?_
    simp (disch := omega) only [impl_ValidState.l0, if_pos, w64, rdSt]
    refine Ev.bind (implSett_ev (l.getD i z71)) ?_
    cases ho : settOk (l.getD i z71) with
    | false => exact Ev.now _
    | true =>
      rw [ho, Bool.true_and, Bool.or_eq_false_iff, decide_eq_false_iff_not, decide_eq_false_iff_not] at hp
      simp (disch := omega) only [rdSts, if_pos, if_neg, bltB, hp.2, if_false]
      exact Ev.now _
  · refine Ev.succ ?_
    simp only [impl_ValidState.l0, List.length_range, Int.lt_irrefl, if_false]
    exact Ev.now _

/-- A state with another setting. -/
def setL (e : S71) : List S71 → Bool → List S71
  | [], done => if done = true then [] else [e]
  | x :: xs, done => if done = false ∧ ¬ skey x < skey e then e :: ((if x.f0 = e.f0 then [] else [x]) ++ setL e xs true) else (if x.f0 = e.f0 then [] else [x]) ++ setL e xs done
theorem setL_true (e : S71) : ∀ l : List S71, (∀ x ∈ l, skey e < skey x) → setL e l true = l
  | [], _ => rfl
  | x :: xs, h => by
    have h1 := h x List.mem_cons_self
    have h2 : ¬ x.f0 = e.f0 := fun h3 => by
      have : skey x = skey e := by unfold skey; rw [h3]
      rw [this] at h1
      exact bs_irr _ h1
    simp only [setL]
    rw [if_neg (by simp), if_neg h2, setL_true e xs (fun y hy => h y (List.mem_cons_of_mem _ hy))]
    rfl
theorem setL_keys (e : S71) : ∀ l : List S71, (l.map skey).Pairwise (· < ·) → (setL e l false).map skey = insU (skey e) (l.map skey)
  | [], _ => rfl
  | x :: xs, h => by
    rw [List.map_cons] at h
    obtain ⟨h1, h2⟩ := List.pairwise_cons.1 h
    have hk : ∀ y ∈ xs, skey x < skey y := fun y hy => h1 _ (List.mem_map.2 ⟨y, hy, rfl⟩)
    simp only [setL, List.map_cons, insU]
    by_cases a : skey x < skey e
    · rw [if_neg (by simp [a]), if_pos a]
      have h3 : ¬ x.f0 = e.f0 := fun h3 => by
        have : skey x = skey e := by unfold skey; rw [h3]
        rw [this] at a
        exact bs_irr _ a
      rw [if_neg h3, List.map_append, setL_keys e xs h2]
      rfl
    · rw [if_pos (by simp [a]), if_neg a]
      by_cases b : skey x = skey e
      · have h3 : x.f0 = e.f0 := ext_data b
        rw [if_pos h3, if_pos b, List.nil_append, setL_true e xs (fun y hy => by rw [← b]; exact hk y hy), List.map_cons, b]
      · have h3 : ¬ x.f0 = e.f0 := fun h3 => b (by unfold skey; rw [h3])
        have c : skey e < skey x := bs_tri a b
        rw [if_neg h3, if_neg b, setL_true e xs (fun y hy => bs_tr c (hk y hy))]
        rfl
theorem setL_len (e : S71) : ∀ (l : List S71) (d : Bool), (setL e l d).length ≤ l.length + 1
  | [], d => by cases d <;> simp [setL]
  | x :: xs, d => by
    have h1 := setL_len e xs true
    have h2 := setL_len e xs d
    have h3 : ((if x.f0 = e.f0 then [] else [x]) : List S71).length ≤ 1 := by split <;> simp
    simp only [setL]
    split
    · rename_i h
      have h4 : ∀ ys : List S71, (setL e ys true).length ≤ ys.length := by
        intro ys
        induction ys with
        | nil => simp [setL]
        | cons y ys ih =>
          have h5 : ((if y.f0 = e.f0 then [] else [y]) : List S71).length ≤ 1 := by split <;> simp
          simp only [setL]
          rw [if_neg (by simp), List.length_append, List.length_cons]
          omega
      have := h4 xs
      simp only [List.length_cons, List.length_append]
      omega
    · simp only [List.length_cons, List.length_append]
      omega
def allL (l acc : List S71) : List S71 := l.foldl (fun o e => setL e o false) acc
theorem allL_len : ∀ (l acc : List S71), (allL l acc).length ≤ acc.length + l.length
  | [], acc => by simp [allL]
  | e :: l, acc => by
    have h1 := allL_len l (setL e acc false)
    have h2 := setL_len e acc false
    unfold allL at h1 ⊢
    simp only [List.foldl_cons, List.length_cons]
    omega
theorem allL_keys : ∀ (l acc : List S71), (acc.map skey).Pairwise (· < ·) → (allL l acc).map skey = (l.map skey).foldl (fun o x => insU x o) (acc.map skey) ∧ ((allL l acc).map skey).Pairwise (· < ·)
  | [], acc, h => ⟨rfl, h⟩
  | e :: l, acc, h => by
    have h1 := setL_keys e acc h
    have h2 : ((setL e acc false).map skey).Pairwise (· < ·) := by rw [h1]; exact insU_strict _ _ h
    obtain ⟨h3, h4⟩ := allL_keys l (setL e acc false) h2
    refine ⟨?_, h4⟩
    rw [List.map_cons, List.foldl_cons, ← h1]
    exact h3
def nmB (base a b : List S71) : List Bs := ((base ++ (a ++ b)).map skey).foldl (fun o x => insU x o) []
theorem nmB_all (base a b : List S71) : (allL b (allL a (allL base []))).map skey = nmB base a b := by
  obtain ⟨h1, h2⟩ := allL_keys base [] List.Pairwise.nil
  obtain ⟨h3, h4⟩ := allL_keys a _ h2
  obtain ⟨h5, _⟩ := allL_keys b _ h4
  rw [h5, h3, h1]
  unfold nmB
  rw [List.map_append, List.map_append, List.foldl_append, List.foldl_append]
  rfl
theorem mkB_skey (x : S71) : mkB (skey x) = x.f0 := rfl
theorem nmB_len (base a b : List S71) : (nmB base a b).length ≤ base.length + a.length + b.length := by
  have h1 := allL_len base []
  have h2 := allL_len a (allL base [])
  have h3 := allL_len b (allL a (allL base []))
  rw [← nmB_all, List.length_map]
  simp only [List.length_nil] at h1
  omega
theorem nmB_mem {base a b : List S71} {n : ByteArray} (h : n ∈ (nmB base a b).map mkB) : ∃ x, (x ∈ base ∨ x ∈ a ∨ x ∈ b) ∧ n = x.f0 := by
  obtain ⟨y, hy, rfl⟩ := List.mem_map.1 h
  unfold nmB at hy
  rw [(foldU_spec _ [] List.Pairwise.nil).2] at hy
  rcases hy with hy | hy
  · obtain ⟨x, hx, rfl⟩ := List.mem_map.1 hy
    rw [List.mem_append, List.mem_append] at hx
    exact ⟨x, hx, rfl⟩
  · cases hy

/-- A loop that appends one element a round. -/
theorem ev_build {β ρ : Type} (L : Nat → List β → Int → Option ρ) (n : Nat) (f : Nat → β) (r : ρ)
    (step : ∀ i acc, i < n → acc.length = i → acc = (List.range i).map f → Ev (fun k => L k (acc ++ [f i]) ((i + 1 : Nat) : Int)) r → Ev (fun k => L k acc (i : Int)) r)
    (fin : Ev (fun k => L k ((List.range n).map f) (n : Int)) r) : Ev (fun k => L k [] 0) r := by
  have key : ∀ (m i : Nat), i + m = n → Ev (fun k => L k ((List.range i).map f) (i : Int)) r := by
    intro m
    induction m with
    | zero =>
      intro i hi
      have : i = n := by omega
      subst this
      exact fin
    | succ m ih =>
      intro i hi
      refine step i _ (by omega) (by simp) rfl ?_
      have := ih (i + 1) (by omega)
      rwa [List.range_succ, List.map_append] at this
  exact key n 0 (by omega)
/-- A loop that stores one element a round. -/
theorem ev_fill {β ρ : Type} (L : Nat → List β → Int → Option ρ) (base : List β) (d : β) (f : Nat → β) (r : ρ)
    (step : ∀ i acc, i < base.length → acc.length = base.length → acc.getD i d = base.getD i d → Ev (fun k => L k (acc.set i (f i)) ((i + 1 : Nat) : Int)) r → Ev (fun k => L k acc (i : Int)) r)
    (fin : Ev (fun k => L k ((List.range base.length).map f) (base.length : Int)) r) : Ev (fun k => L k base 0) r := by
  have key : ∀ (m i : Nat), i + m = base.length → Ev (fun k => L k ((List.range i).map f ++ base.drop i) (i : Int)) r := by
    intro m
    induction m with
    | zero =>
      intro i hi
      have : i = base.length := by omega
      subst this
      rw [List.drop_length, List.append_nil]
      exact fin
    | succ m ih =>
      intro i hi
      have hlt : i < base.length := by omega
      refine step i _ hlt (by simp; omega) ?_ ?_
      · rw [List.getD_eq_getElem?_getD, List.getD_eq_getElem?_getD, List.getElem?_append_right (by simp)]
        simp
      · have := ih (i + 1) (by omega)
        rw [List.range_succ, List.map_append, List.append_assoc] at this
        have e : ((List.range i).map f ++ base.drop i).set i (f i) = (List.range i).map f ++ ([i].map f ++ base.drop (i + 1)) := by
          rw [List.set_append_right _ _ (by simp), List.drop_eq_getElem_cons hlt, List.length_map, List.length_range, Nat.sub_self, List.set_cons_zero]
          rfl
        rw [e]
        exact this
  exact key base.length 0 (by omega)
theorem getD_map_range {β : Type} (n : Nat) (f : Nat → β) (d : β) {i : Nat} (h : i < n) : ((List.range n).map f).getD i d = f i := by
  rw [List.getD_eq_getElem?_getD, List.getElem?_map, List.getElem?_range h]; rfl

theorem specSet_ev (l : List S71) (e : S71) (hl : l.length ≤ 1048576) : Ev (fun k => spec_l27Set.f k l e.f0 e.f1) (setL e l false) := by
  unfold spec_l27Set.f
  have key : ∀ (m i : Nat) (out : List S71) (done : Bool), i + m = l.length → out.length ≤ 2 * i → Ev (fun k => spec_l27Set.l0 k l out done i e.f0 e.f1) (out ++ setL e (l.drop i) done) := by
    intro m
    induction m with
    | zero =>
      intro i out done hi ho
      rw [List.drop_of_length_le (by omega)]
      refine Ev.succ ?_
      simp (disch := omega) only [spec_l27Set.l0, if_neg]
      cases done with
      | true => simp only [if_true, setL, List.append_nil]; exact Ev.now _
      | false =>
        simp only [Bool.false_eq_true, if_false, setL]
        simp (disch := omega) only [if_pos]
        exact Ev.now _
    | succ m ih =>
      intro i out done hi ho
      have hlt : i < l.length := by omega
      rw [List.drop_eq_getElem_cons hlt]
      have er : rd_T71 l (i : Int) = l[i] := by rw [rdSt, getD_lt _ hlt]
      generalize hx : l[i] = x at er
      have eta : (⟨x.f0, x.f1⟩ : S71) = x := rfl
      have eta2 : (⟨e.f0, e.f1⟩ : S71) = e := rfl
      have tailE : ∀ (out2 : List S71) (d2 : Bool), out2.length ≤ 2 * i + 1 →
          (Ev (fun k => spec_l27Set.l0 k l (out2 ++ if x.f0 = e.f0 then [] else [x]) d2 ((i : Int) + 1) e.f0 e.f1) (out2 ++ ((if x.f0 = e.f0 then [] else [x]) ++ setL e (l.drop (i + 1)) d2))) := by
        intro out2 d2 h2
        have h3 : ((if x.f0 = e.f0 then [] else [x]) : List S71).length ≤ 1 := by split <;> simp
        have h := ih (i + 1) (out2 ++ if x.f0 = e.f0 then [] else [x]) d2 (by omega) (by rw [List.length_append]; omega)
        rw [List.append_assoc] at h
        exact h
      simp only [setL]
      by_cases hc : done = false ∧ ¬ skey x < skey e
      · rw [if_pos hc]
        obtain ⟨hd, hn⟩ := hc
        subst hd
        have hb : Op.bytesLess x.f0.toList e.f0.toList = false := by
          cases hq : Op.bytesLess x.f0.toList e.f0.toList with
          | false => rfl
          | true => exact absurd ((bltB _ _).1 hq) hn
        have h := tailE (out ++ [e]) true (by rw [List.length_append, List.length_singleton]; omega)
        have h4 : (out ++ [e]).length < 5864062014805 := by rw [List.length_append, List.length_singleton]; omega
        refine Ev.succ ?_
        simp (disch := omega) only [spec_l27Set.l0, if_pos, er, hb, Bool.not_false, Bool.false_eq_true, if_false]
        refine Ev.succ ?_
        simp (disch := omega) only [spec_l27Set.j1, if_true, if_pos, er, eta, eta2, Option.bind_some, w64, beqB, h4]
        rw [show out ++ (e :: ((if x.f0 = e.f0 then [] else [x]) ++ setL e (l.drop (i + 1)) true)) = out ++ [e] ++ ((if x.f0 = e.f0 then [] else [x]) ++ setL e (l.drop (i + 1)) true) by simp]
        by_cases hne : x.f0 = e.f0
        · simp only [hne, if_true, List.append_nil] at h ⊢
          exact h
        · simp only [hne, if_false] at h ⊢
          exact h
      · rw [if_neg hc]
        have h := tailE out done (by omega)
        refine Ev.succ ?_
        have hj : Ev (fun k => spec_l27Set.j1 k l out done i false e.f0 e.f1) (out ++ ((if x.f0 = e.f0 then [] else [x]) ++ setL e (l.drop (i + 1)) done)) := by
          refine Ev.succ ?_
          simp (disch := omega) only [spec_l27Set.j1, Bool.false_eq_true, if_false, if_pos, er, eta, Option.bind_some, w64, beqB]
          by_cases hne : x.f0 = e.f0
          · simp only [hne, if_true, List.append_nil] at h ⊢
            exact h
          · simp only [hne, if_false] at h ⊢
            exact h
        cases done with
        | true =>
          simp (disch := omega) only [spec_l27Set.l0, if_pos, if_true]
          exact hj
        | false =>
          have hb : Op.bytesLess x.f0.toList e.f0.toList = true := (bltB _ _).2 (Classical.byContradiction fun h5 => hc ⟨rfl, h5⟩)
          simp (disch := omega) only [spec_l27Set.l0, if_pos, er, hb, Bool.not_true, Bool.false_eq_true, if_false]
          exact hj
  have := key l.length 0 [] false (by omega) (by simp)
  simpa using this
theorem specNames_ev (base a b : List S71) (h0 : base.length ≤ 24) (h1 : a.length ≤ 24) (h2 : b.length ≤ 24) : Ev (fun k => spec_l27Names.f k base a b) ((nmB base a b).map mkB) := by
  unfold spec_l27Names.f
  have k3 : ∀ (all : List S71), all.length ≤ 100 → Ev (fun k => spec_l27Names.l3 k all [] 0) (all.map fun x => x.f0) := by
    intro all ha
    have e : all.map (fun x => x.f0) = (List.range all.length).map (fun i => (all.getD i z71).f0) := by
      refine List.ext_getElem (by simp) fun i q1 q2 => ?_
      rw [List.getElem_map, List.getElem_map, List.getElem_range, getD_lt _ (by simpa using q1)]
    rw [e]
    refine ev_build (fun k acc i => spec_l27Names.l3 k all acc i) all.length (fun i => (all.getD i z71).f0) _ (fun i acc hi hl _ hs => ?_) ?_
    · refine Ev.succ ?_
      simp (disch := omega) only [spec_l27Names.l3, if_pos, w64, rdSt]
      exact hs
    · refine Ev.succ ?_
      simp only [spec_l27Names.l3, Int.lt_irrefl, if_false]
      exact Ev.now _
  have k2 : ∀ (m i : Nat) (acc : List S71), i + m = b.length → acc.length ≤ 48 + i → Ev (fun k => spec_l27Names.l2 k b acc i) ((allL (b.drop i) acc).map fun x => x.f0) := by
    intro m
    induction m with
    | zero =>
      intro i acc hi ha
      rw [List.drop_of_length_le (by omega)]
      refine Ev.succ ?_
      simp (disch := omega) only [spec_l27Names.l2, if_neg]
      exact k3 acc (by omega)
    | succ m ih =>
      intro i acc hi ha
      have hlt : i < b.length := by omega
      rw [List.drop_eq_getElem_cons hlt]
      refine Ev.succ ?_
      simp (disch := omega) only [spec_l27Names.l2, if_pos, w64, rdSt, getD_lt _ hlt]
      have hs := setL_len b[i] acc false
      exact Ev.bind (specSet_ev acc b[i] (by omega)) (ih (i + 1) _ (by omega) (by omega))
  have k1 : ∀ (m i : Nat) (acc : List S71), i + m = a.length → acc.length ≤ 24 + i → Ev (fun k => spec_l27Names.l1 k a b acc i) ((allL b (allL (a.drop i) acc)).map fun x => x.f0) := by
    intro m
    induction m with
    | zero =>
      intro i acc hi ha
      rw [List.drop_of_length_le (by omega)]
      refine Ev.succ ?_
      simp (disch := omega) only [spec_l27Names.l1, if_neg]
      exact k2 b.length 0 acc (by omega) (by omega)
    | succ m ih =>
      intro i acc hi ha
      have hlt : i < a.length := by omega
      rw [List.drop_eq_getElem_cons hlt]
      refine Ev.succ ?_
      simp (disch := omega) only [spec_l27Names.l1, if_pos, w64, rdSt, getD_lt _ hlt]
      have hs := setL_len a[i] acc false
      exact Ev.bind (specSet_ev acc a[i] (by omega)) (ih (i + 1) _ (by omega) (by omega))
  have k0 : ∀ (m i : Nat) (acc : List S71), i + m = base.length → acc.length ≤ i → Ev (fun k => spec_l27Names.l0 k base a b acc i) ((allL b (allL a (allL (base.drop i) acc))).map fun x => x.f0) := by
    intro m
    induction m with
    | zero =>
      intro i acc hi ha
      rw [List.drop_of_length_le (by omega)]
      refine Ev.succ ?_
      simp (disch := omega) only [spec_l27Names.l0, if_neg]
      exact k1 a.length 0 acc (by omega) (by omega)
    | succ m ih =>
      intro i acc hi ha
      have hlt : i < base.length := by omega
      rw [List.drop_eq_getElem_cons hlt]
      refine Ev.succ ?_
      simp (disch := omega) only [spec_l27Names.l0, if_pos, w64, rdSt, getD_lt _ hlt]
      have hs := setL_len base[i] acc false
      exact Ev.bind (specSet_ev acc base[i] (by omega)) (ih (i + 1) _ (by omega) (by omega))
  have h := k0 base.length 0 [] (by omega) (by simp)
  rw [List.drop_zero] at h
  rw [← nmB_all, List.map_map]
  exact h

def fndS (l : List S71) (n : ByteArray) : Option S71 := l.find? fun x => decide (x.f0 = n)
def thS (l : List S71) (n : ByteArray) : Int × Bool := match fndS l n with | some x => (x.f1, true) | none => (0, false)
def getS (l : List S71) (n : ByteArray) : S71 := (fndS l n).getD ⟨⟨#[]⟩, 0⟩
def sameS (u v : S71) : Bool := u.f0.toList == v.f0.toList && (u.f1 == v.f1)
theorem fndS_some {l : List S71} {n : ByteArray} {x : S71} (h : fndS l n = some x) : x ∈ l ∧ x.f0 = n := by
  unfold fndS at h
  exact ⟨List.mem_of_find?_eq_some h, by simpa using List.find?_some h⟩
theorem toList_ne {n : ByteArray} (h : 1 ≤ n.size) : ¬ n.toList = ([] : List UInt8) := fun e => by
  rw [ByteArray.toList_eq] at e
  have h2 : n.size = ([] : List UInt8).length := by rw [← e]; rfl
  rw [h2] at h
  simp at h
theorem sameS_get (n : ByteArray) (h : 1 ≤ n.size) (l m : List S71) : sameS (getS l n) (getS m n) = sameT (thS l n) (thS m n) := by
  have hn := toList_ne h
  have he : (⟨#[]⟩ : ByteArray).toList = ([] : List UInt8) := by rw [ByteArray.toList_eq]
  have b1 : (n.toList == ([] : List UInt8)) = false := beq_eq_false_iff_ne.2 hn
  have b2 : (([] : List UInt8) == n.toList) = false := beq_eq_false_iff_ne.2 (fun e => hn e.symm)
  unfold getS thS sameS sameT
  cases h1 : fndS l n with
  | none =>
    cases h2 : fndS m n with
    | none => simp
    | some y => simp only [Option.getD_none, Option.getD_some, (fndS_some h2).2, he, b2, Bool.false_and]; simp
  | some x =>
    cases h2 : fndS m n with
    | none => simp only [Option.getD_none, Option.getD_some, (fndS_some h1).2, he, b1, Bool.false_and]; simp
    | some y => simp only [Option.getD_some, (fndS_some h1).2, (fndS_some h2).2]; simp
theorem getS_there (n : ByteArray) (h : 1 ≤ n.size) (l : List S71) : ((getS l n).f0.toList = ([] : List UInt8) ↔ (thS l n).2 = false) ∧ ((thS l n).2 = true → getS l n = ⟨n, (thS l n).1⟩) := by
  have hn := toList_ne h
  unfold getS thS
  cases h1 : fndS l n with
  | none => exact ⟨by simp [ByteArray.toList_eq], fun e => by cases e⟩
  | some x =>
    have e := (fndS_some h1).2
    refine ⟨by simp [e, hn], fun _ => ?_⟩
    rw [← e]
    rfl

theorem specGet_ev (l : List S71) (n : ByteArray) (hl : l.length ≤ 1048576) : Ev (fun k => spec_l27Get.f k l n) ((getS l n).f0, (getS l n).f1) := by
  have hat : ∀ (m i : Nat), i + m = l.length → ∃ r : Int, Ev (fun k => spec_l27At.l0 k l n i) r ∧ ((r = -1 ∧ fndS (l.drop i) n = none) ∨ ∃ j : Nat, r = j ∧ j < l.length ∧ fndS (l.drop i) n = some (l.getD j z71)) := by
    intro m
    induction m with
    | zero =>
      intro i hi
      refine ⟨-1, ?_, .inl ⟨rfl, ?_⟩⟩
      · refine Ev.succ ?_
        simp (disch := omega) only [spec_l27At.l0, if_neg]
        exact Ev.now _
      · rw [List.drop_of_length_le (by omega)]
        rfl
    | succ m ih =>
      intro i hi
      have hlt : i < l.length := by omega
      by_cases hn : l[i].f0 = n
      · refine ⟨(i : Int), ?_, .inr ⟨i, rfl, hlt, ?_⟩⟩
        · refine Ev.succ ?_
          simp (disch := omega) only [spec_l27At.l0, if_pos, rdSt, getD_lt _ hlt, beqB]
          (try simp only [hn, if_true])
          exact Ev.now _
        · rw [List.drop_eq_getElem_cons hlt, getD_lt _ hlt]
          unfold fndS
          simp only [List.find?_cons, hn, decide_true]
      · obtain ⟨r, h1, h2⟩ := ih (i + 1) (by omega)
        refine ⟨r, ?_, ?_⟩
        · refine Ev.succ ?_
          simp (disch := omega) only [spec_l27At.l0, if_pos, rdSt, getD_lt _ hlt, beqB, w64]
          simp only [hn, if_false]
          exact h1
        · have e : fndS (l.drop i) n = fndS (l.drop (i + 1)) n := by
            rw [List.drop_eq_getElem_cons hlt]
            unfold fndS
            simp only [List.find?_cons, hn, decide_false]
          rw [e]
          exact h2
  obtain ⟨r, h1, h2⟩ := hat l.length 0 (by omega)
  rw [List.drop_zero] at h2
  unfold spec_l27Get.f
  refine Ev.bind (show Ev (fun k => spec_l27At.f k l n) r from h1) ?_
  unfold getS
  rcases h2 with ⟨rfl, h2⟩ | ⟨j, rfl, hj, h2⟩
  · rw [h2]
    simp only [show (-1 : Int) < 0 by decide, if_true]
    exact Ev.now _
  · rw [h2]
    simp (disch := omega) only [if_neg, if_pos, rdSt]
    exact Ev.now _

theorem implThing_ev (l : List S71) (n : ByteArray) (hl : l.length ≤ 1048576) : Ev (fun k => impl_thingAt.f k l n) (thS l n) := by
  have hat : ∀ (m i : Nat), i + m = l.length → Ev (fun k => impl_valueAt.l0 k n l l.length i) (thS (l.drop i) n) := by
    intro m
    induction m with
    | zero =>
      intro i hi
      rw [List.drop_of_length_le (by omega)]
      refine Ev.succ ?_
      simp (disch := omega) only [impl_valueAt.l0, if_neg]
      exact Ev.now _
    | succ m ih =>
      intro i hi
      have hlt : i < l.length := by omega
      refine Ev.succ ?_
      simp (disch := omega) only [impl_valueAt.l0, if_pos, rdSt, getD_lt _ hlt, beqB, w64]
      rw [List.drop_eq_getElem_cons hlt]
      by_cases hn : l[i].f0 = n
      · have e : thS (l[i] :: l.drop (i + 1)) n = (l[i].f1, true) := by unfold thS fndS; simp only [List.find?_cons, hn, decide_true]
        rw [e]
        simp only [hn, if_true]
        exact Ev.now _
      · have e : thS (l[i] :: l.drop (i + 1)) n = thS (l.drop (i + 1)) n := by unfold thS fndS; simp only [List.find?_cons, hn, decide_false]
        rw [e]
        simp only [hn, if_false]
        exact ih (i + 1) (by omega)
  have h := hat l.length 0 (by omega)
  rw [List.drop_zero] at h
  unfold impl_thingAt.f
  exact Ev.bind (show Ev (fun k => impl_valueAt.f k l n) (thS l n) from h) (Ev.now _)

/-- A loop that keeps some elements of a list. -/
theorem ev_filter {α ρ : Type} (L : Nat → List α → Int → Option ρ) (xs : List α) (d : α) (p : α → Bool) (r : ρ)
    (step : ∀ (i : Nat) (acc : List α), i < xs.length → acc.length ≤ i → Ev (fun k => L k (if p (xs.getD i d) = true then acc ++ [xs.getD i d] else acc) ((i : Int) + 1)) r → Ev (fun k => L k acc (i : Int)) r)
    (fin : Ev (fun k => L k (xs.filter p) (xs.length : Int)) r) : Ev (fun k => L k [] 0) r := by
  have key : ∀ (m i : Nat), i + m = xs.length → Ev (fun k => L k ((xs.take i).filter p) (i : Int)) r := by
    intro m
    induction m with
    | zero =>
      intro i hi
      have : i = xs.length := by omega
      subst this
      rw [List.take_length]
      exact fin
    | succ m ih =>
      intro i hi
      have hlt : i < xs.length := by omega
      have h1 : ((xs.take i).filter p).length ≤ i := Nat.le_trans (List.length_filter_le _ _) (by rw [List.length_take]; omega)
      refine step i _ hlt h1 ?_
      have h := ih (i + 1) (by omega)
      rw [take_succ_getD xs d hlt, List.filter_append, List.filter_cons] at h
      split
      · rename_i hp
        simp only [hp, if_true, List.filter_nil] at h
        exact h
      · rename_i hp
        simp only [hp, Bool.false_eq_true, if_false, List.filter_nil, List.append_nil] at h
        exact h
  exact key xs.length 0 (by omega)

theorem ev_each {α β : Type} (f : α → Nat → Option β) (g : α → β) : ∀ xs : List α, (∀ x ∈ xs, Ev (f x) (g x)) → ∃ K, ∀ k, K ≤ k → ∀ x ∈ xs, f x k = some (g x)
  | [], _ => ⟨0, fun _ _ x hx => by cases hx⟩
  | y :: ys, h => by
    obtain ⟨K, hK⟩ := ev_each f g ys (fun x hx => h x (List.mem_cons_of_mem _ hx))
    obtain ⟨K', hK'⟩ := h y List.mem_cons_self
    refine ⟨max K K', fun k hk x hx => ?_⟩
    rcases List.mem_cons.1 hx with e | m
    · subst e; exact hK' k (by omega)
    · exact hK k (by omega) x m

def confP (base a b : List S71) (n : ByteArray) : Bool := !keepT (thS base n) (thS a n) (thS b n)
def confL (base a b : List S71) : List ByteArray := ((nmB base a b).map mkB).filter (confP base a b)
theorem specConf_ev (base a b : List S71) (h0 : base.length ≤ 24) (h1 : a.length ≤ 24) (h2 : b.length ≤ 24) (hn : ∀ n ∈ (nmB base a b).map mkB, 1 ≤ n.size) : Ev (fun k => spec_l27Conflicts.f k base a b) (confL base a b) := by
  unfold spec_l27Conflicts.f
  refine Ev.bind (specNames_ev base a b h0 h1 h2) ?_
  have hlen := nmB_len base a b
  have hlen2 : ((nmB base a b).map mkB).length ≤ 100 := by rw [List.length_map]; omega
  unfold confL
  generalize (nmB base a b).map mkB = ns at hn hlen2 ⊢
  refine ev_filter (fun k acc i => spec_l27Conflicts.l0 k base a b ns acc i) ns ByteArray.empty (confP base a b) _ (fun i acc hi ha hs => ?_) ?_
  · have er : rdOf ByteArray.empty ns (i : Int) = ns.getD i ByteArray.empty := by unfold rdOf; rw [Int.toNat_natCast]
    have hs1 : 1 ≤ (ns.getD i ByteArray.empty).size := hn _ (getD_mem _ hi)
    generalize ns.filter (confP base a b) = R at hs ⊢
    refine Ev.succ ?_
    simp (disch := omega) only [spec_l27Conflicts.l0, if_pos, w64, er]
    generalize ns.getD i ByteArray.empty = n at hs hs1 ⊢
    refine Ev.bind (specGet_ev base n (by omega)) ?_
    refine Ev.bind (specGet_ev a n (by omega)) ?_
    refine Ev.bind (specGet_ev b n (by omega)) ?_
    have q1 : ∀ u v : S71, (!(u.f0.toList == v.f0.toList) || (!(u.f1 == v.f1))) = !sameS u v := fun u v => by unfold sameS; rw [Bool.not_and]
    simp only [q1, sameS_get n hs1]
    have sym : ∀ u v, sameT u v = sameT v u := fun u v => by unfold sameT; rw [Bool.beq_comm (a := u.1), Bool.beq_comm (a := u.2)]
    unfold confP keepT at hs
    rw [sym (thS a n) (thS base n), sym (thS b n) (thS base n)] at hs
    revert hs
    cases sameT (thS base n) (thS a n) <;> cases sameT (thS base n) (thS b n) <;> cases sameT (thS a n) (thS b n) <;> intro hs <;> simp at hs ⊢ <;> first | exact hs | (simp (disch := omega) only [if_pos]; exact hs)
  · refine Ev.succ ?_
    simp only [spec_l27Conflicts.l0, Int.lt_irrefl, if_false]
    exact Ev.now _
theorem implNames_eq (base a b : List S71) (h0 : base.length ≤ 24) (h1 : a.length ≤ 24) (h2 : b.length ≤ 24) : impl_namesOf.f [base, a, b] = some ((nmB base a b).map mkB) := by
  unfold impl_namesOf.f
  have e : [base, a, b].flatten = base ++ (a ++ b) := by simp
  rw [if_pos ⟨by simp, by rw [e]; simp; omega⟩, e]
  unfold namL nmB
  rw [fold_eq_compact]
  rfl
theorem implConf_ev (base a b : List S71) (h0 : base.length ≤ 24) (h1 : a.length ≤ 24) (h2 : b.length ≤ 24) : Ev (fun k => impl_conflictsOf.f k base a b) (confL base a b) := by
  unfold impl_conflictsOf.f
  rw [implNames_eq base a b h0 h1 h2]
  simp only [Option.bind_some]
  have hlen := nmB_len base a b
  have hlen2 : ((nmB base a b).map mkB).length ≤ 100 := by rw [List.length_map]; omega
  unfold confL
  generalize (nmB base a b).map mkB = ns at hlen2 ⊢
  obtain ⟨K0, e0⟩ := ev_each (fun n k => impl_thingAt.f k base n) (thS base) ns (fun n _ => implThing_ev base n (by omega))
  obtain ⟨K1, e1⟩ := ev_each (fun n k => impl_thingAt.f k a n) (thS a) ns (fun n _ => implThing_ev a n (by omega))
  obtain ⟨K2, e2⟩ := ev_each (fun n k => impl_thingAt.f k b n) (thS b) ns (fun n _ => implThing_ev b n (by omega))
  refine ⟨max K0 (max K1 K2), fun k hk => ?_⟩
  have e0 := e0 k (by omega)
  have e1 := e1 k (by omega)
  have e2 := e2 k (by omega)
  refine (if_pos ⟨by omega, fun x hx => by rw [e0 x hx, e1 x hx, e2 x hx]; simp⟩).trans ?_
  congr 1
  refine List.filter_congr fun x hx => ?_
  unfold thgT confP
  rw [e0 x hx, e1 x hx, e2 x hx]
  rfl
theorem names_pos {base a b : List S71} (h0 : stateOk base = true) (h1 : stateOk a = true) (h2 : stateOk b = true) : ∀ n ∈ (nmB base a b).map mkB, 1 ≤ n.size := by
  intro n hn
  obtain ⟨x, hx, rfl⟩ := nmB_mem hn
  rcases hx with hx | hx | hx
  · exact settOk_pos ((stateOk_facts h0).2.2 x hx)
  · exact settOk_pos ((stateOk_facts h1).2.2 x hx)
  · exact settOk_pos ((stateOk_facts h2).2.2 x hx)

/-- A loop that makes at most one element out of each. -/
theorem ev_filterMap {α β ρ : Type} (L : Nat → List β → Int → Option ρ) (xs : List α) (d : α) (g : α → Option β) (r : ρ)
    (step : ∀ (i : Nat) (acc : List β), i < xs.length → acc.length ≤ i → Ev (fun k => L k (acc ++ (g (xs.getD i d)).toList) ((i : Int) + 1)) r → Ev (fun k => L k acc (i : Int)) r)
    (fin : Ev (fun k => L k (xs.filterMap g) (xs.length : Int)) r) : Ev (fun k => L k [] 0) r := by
  have key : ∀ (m i : Nat), i + m = xs.length → Ev (fun k => L k ((xs.take i).filterMap g) (i : Int)) r := by
    intro m
    induction m with
    | zero =>
      intro i hi
      have : i = xs.length := by omega
      subst this
      rw [List.take_length]
      exact fin
    | succ m ih =>
      intro i hi
      have hlt : i < xs.length := by omega
      have h1 : ((xs.take i).filterMap g).length ≤ i := Nat.le_trans (List.length_filterMap_le _ _) (by rw [List.length_take]; omega)
      refine step i _ hlt h1 ?_
      have h := ih (i + 1) (by omega)
      rw [take_succ_getD xs d hlt, List.filterMap_append] at h
      cases hg : g (xs.getD i d) with
      | none =>
        simp only [List.filterMap_cons, hg, List.filterMap_nil, Option.toList] at h ⊢
        exact h
      | some y =>
        simp only [List.filterMap_cons, hg, List.filterMap_nil, Option.toList] at h ⊢
        exact h
  exact key xs.length 0 (by omega)

def cvSetting (x : S65) : S71 := ⟨x.f0, x.f1⟩
def okSetting1 (x : S71) : Prop := x.f0.size ≤ 1048576 ∧ (-9223372036854775808 ≤ x.f1 ∧ x.f1 ≤ 9223372036854775807)

theorem szSetting_eq (x : S65) (a : Int) (w0 : x.f0.size ≤ maxLen) (h0 : 0 ≤ a) (h1 : a ≤ 1048576) : ∃ r, laws_szSetting.f (x.f0) (x.f1) a = some r ∧ (r < 0 ∨ (0 ≤ r ∧ r ≤ a ∧ x.f0.size ≤ 1048576)) := by
  unfold maxLen at w0
  unfold laws_szSetting.f wrap64
  repeat' split
  all_goals exact ⟨_, rfl, by omega⟩

def okSettingS (l : List S71) : Prop := l.length ≤ 1048576 ∧ ∀ x ∈ l, okSetting1 x
def cvSettingS (l : List S65) : List S71 := l.map cvSetting

theorem szSettingS_evo (l : List S65) (a : Int) (hw : l.length ≤ maxLen ∧ ∀ x0 ∈ l, x0.f0.size ≤ maxLen ∧ (Lit.int .i64 x0.f1).wf = true) (h0 : 0 ≤ a) (h1 : a ≤ 1048576) :
    ∃ r, Ev (fun k => laws_szSettingS.f k l a) r ∧ (r < 0 ∨ (0 ≤ r ∧ r ≤ a ∧ okSettingS (cvSettingS l))) := by
  obtain ⟨hl, hw⟩ := hw
  unfold maxLen at hl
  unfold laws_szSettingS.f
  rw [w64 (by omega) (by omega)]
  by_cases h : a - l.length < 0
  · simp only [h, if_true]
    exact ⟨-1, Ev.now _, .inl (by decide)⟩
  · simp only [h, if_false]
    obtain ⟨r, hr, hq⟩ := ev_sz (fun k a i => laws_szSettingS.l0 k l a i) l z65 (fun x => x.f0.size ≤ 1048576) (fun i a hi h0 h1 => by
      have hx := hw _ (getD_mem z65 hi)
      obtain ⟨r, hr, hq⟩ := szSetting_eq (l.getD i z65) a (hx.1) h0 h1
      have e : ∀ k, laws_szSettingS.l0 (k + 1) l a i = if r < 0 then some (-1) else laws_szSettingS.l0 k l r ((i + 1 : Nat) : Int) := fun k => by
        simp only [laws_szSettingS.l0]
        rw [if_pos (by omega), if_pos (by omega)]
        unfold rd_T65
        rw [Int.toNat_natCast, hr]
        simp only [Option.bind_some]
        rw [w64 (by omega) (by omega)]
        rfl
      rcases hq with hq | ⟨q0, q1, q2⟩
      · exact .inl (Ev.step (f := fun _ => some (-1)) (fun k => by rw [e, if_pos hq]) (Ev.now _))
      · exact .inr ⟨r, q0, q1, q2, fun s hs => Ev.step (fun k => by rw [e, if_neg (by omega)]) hs⟩) (fun a => Ev.step (f := fun _ => some a) (fun k => by simp only [laws_szSettingS.l0]; rw [if_neg (by omega)]) (Ev.now _)) (a - l.length) (by omega) (by omega)
    refine ⟨r, hr, hq.imp_right fun ⟨q0, q1, q2⟩ => ⟨q0, by omega, by simp only [cvSettingS, List.length_map]; omega, fun x hx => ?_⟩⟩
    obtain ⟨y, hy, rfl⟩ := List.mem_map.1 hx
    have hs := q2 y hy
    have hw := hw y hy
    exact ⟨hs, lit_i64 (hw.2)⟩

theorem toSetting_eq (x : S65) : laws_toSetting.f (x.f0) (x.f1) = some (x.f0, x.f1) := by
  unfold laws_toSetting.f
  rfl

/-- A loop that makes a list out of another one, element by element. -/
theorem ev_cmap {α β : Type} (L : Nat → List β → Int → Option (List β)) (xs : List α) (d : α) (d' : β) (g : α → β)
    (step : ∀ (ys : List β) (i : Nat), i < xs.length → ys.length = xs.length → ∀ r, Ev (fun k => L k (ys.set i (g (xs.getD i d))) ((i + 1 : Nat) : Int)) r → Ev (fun k => L k ys (i : Int)) r)
    (fin : ∀ ys, Ev (fun k => L k ys (xs.length : Int)) ys) : Ev (fun k => L k (List.replicate xs.length d') 0) (xs.map g) := by
  have e : xs.map g = (List.range xs.length).map (fun i => g (xs.getD i d)) := by
    refine List.ext_getElem (by simp) fun i h1 h2 => ?_
    rw [List.getElem_map, List.getElem_map, List.getElem_range, getD_lt d (by simpa using h1)]
  have key := ev_fill L (List.replicate xs.length d') d' (fun i => g (xs.getD i d)) (xs.map g) (fun i acc hi hl _ hs => ?_) ?_
  · exact key
  · rw [List.length_replicate] at hi hl
    exact step acc i hi hl _ hs
  · rw [List.length_replicate, ← e]
    exact fin _

theorem toSettingS_evo (l : List S65) (h : okSettingS (cvSettingS l)) : Ev (fun k => laws_toSettingS.f k l) (cvSettingS l) := by
  have hl : l.length ≤ 1048576 := by have := h.1; simpa [cvSettingS] using this
  refine Ev.congr (f := fun k => laws_toSettingS.l0 k l (List.replicate l.length z71) 0) (fun k => ?_) ?_
  · unfold laws_toSettingS.f
    rw [if_pos (by omega), if_pos (by omega), Int.toNat_natCast]
  · refine ev_cmap (fun k ys i => laws_toSettingS.l0 k l ys i) l z65 z71 cvSetting (fun ys i hi hl r hr => ?_) (fun ys => ?_)
    · refine Ev.step (fun k => ?_) hr
      simp only [laws_toSettingS.l0]
      rw [if_pos (by omega), if_pos (by omega), toSetting_eq]
      simp only [Option.bind_some]
      rw [if_pos (by omega), w64 (by omega) (by omega), Int.toNat_natCast]
      unfold rd_T65
      rw [Int.toNat_natCast]
      rfl
    · refine Ev.step (f := fun _ => some ys) (fun k => ?_) (Ev.now _)
      simp only [laws_toSettingS.l0]
      rw [if_neg (by omega)]

theorem eqSetting_eq (x : S71) : laws_eqSetting.f (x.f0) (x.f1) (x.f0) (x.f1) = some true := by
  unfold laws_eqSetting.f
  simp

theorem eqSettingS_evo (l : List S71) (h : okSettingS l) : Ev (fun k => laws_eqSettingS.f k l l) true := by
  have h := h.1
  refine Ev.congr (f := fun k => laws_eqSettingS.l0 k l l 0) (fun k => ?_) ?_
  · unfold laws_eqSettingS.f
    rw [if_pos rfl]
  · refine ev_eq laws_eqSettingS.l0 l (fun i hi hr => ?_) ?_
    · refine Ev.step (fun k => ?_) hr
      simp only [laws_eqSettingS.l0]
      rw [if_pos (by omega), if_pos (by omega), if_pos (by omega), eqSetting_eq]
      simp only [Option.bind_some, if_true]
      rw [w64 (by omega) (by omega)]
      rfl
    · refine Ev.step (f := fun _ => some true) (fun k => ?_) (Ev.now _)
      simp only [laws_eqSettingS.l0]
      rw [if_neg (by omega)]

theorem markText_ev0 (m : Nat) : ∀ (n : Nat) (x : Int) (s : ByteArray), 0 ≤ x → x < n → s.size + n ≤ 1000000000000000001 → n ≤ m → ∃ t, Ev (fun k => laws_markText.l0 k x s) t := by
  induction m with
  | zero => intro n x s h0 h1 h2 h3; omega
  | succ m ih =>
    intro n x s h0 h1 h2 h3
    by_cases hx : x > 0
    · have hd : Int.tdiv x 10 = x / 10 := Int.tdiv_eq_ediv_of_nonneg h0
      have hs : ∀ c : Int, (strOfNums [c]).size = 1 := fun _ => rfl
      have hs2 : ∀ c : Int, (strOfNums [c] ++ s).size = 1 + s.size := fun c => by rw [ByteArray.size_append, hs]
      obtain ⟨t, ht⟩ := ih (n - 1) (x / 10) (strOfNums [(wrap64 (48 + (Int.tmod x 10))) % 256] ++ s) (by omega) (by omega) (by rw [hs2]; omega) (by omega)
      refine ⟨t, Ev.succ ?_⟩
      simp only [laws_markText.l0, hx, if_true, Option.bind_some, hs, hd]
      rw [w64 (x := x / 10) (by omega) (by omega)]
      simp only [show 1 + s.size ≤ 9223372036854775807 by omega, if_true]
      exact ht
    · refine ⟨(⟨#[109]⟩ : ByteArray) ++ s, Ev.succ ?_⟩
      simp only [laws_markText.l0, hx, if_false, show 1 + s.size ≤ 9223372036854775807 by omega, if_true]
      exact Ev.now _
theorem markText_ex (x : Int) : ∃ t, x ≤ 1000000000000000000 → Ev (fun k => laws_markText.f k x) t := by
  by_cases hb : x ≤ 1000000000000000000
  · by_cases h : x ≤ 0
    · refine ⟨⟨#[109, 48]⟩, fun _ => ?_⟩
      unfold laws_markText.f
      simp only [h, if_true]
      exact Ev.now _
    · obtain ⟨t, ht⟩ := markText_ev0 _ (x.toNat + 1) x ⟨#[]⟩ (by omega) (by omega) (by show 0 + _ ≤ _; omega) (Nat.le_refl _)
      refine ⟨t, fun _ => ?_⟩
      unfold laws_markText.f
      simp only [h, if_false]
      exact ht
  · exact ⟨⟨#[]⟩, fun h => absurd h hb⟩
/-- The text of a mark. -/
noncomputable def mtx (x : Int) : ByteArray := Classical.choose (markText_ex x)
theorem markText_ev (x : Int) (h : x ≤ 1000000000000000000) : Ev (fun k => laws_markText.f k x) (mtx x) := Classical.choose_spec (markText_ex x) h

noncomputable def mk1Setting (k : Int) : S71 := ⟨mtx (k), k + 1⟩
noncomputable def mkSettingS (l : List S71) (k : Int) : List S71 := (List.range l.length).map fun i : Nat => mk1Setting (k + 2 * (i : Int))
def cntSettingS (l : List S71) : Int := 2 * (l.length : Int)
theorem mkSettingS_len (l : List S71) (k : Int) : (mkSettingS l k).length = l.length := by simp [mkSettingS]
theorem cntSettingS_bd (l : List S71) (h : okSettingS l) : 0 ≤ cntSettingS l ∧ cntSettingS l ≤ 2000000000000 := by have h := h.1; unfold cntSettingS; omega
theorem rdsetSetting (l : List S71) (i : Nat) (v : S71) (h : i < l.length) : rd_T71 (l.set i v) (i : Int) = v := by
  unfold rd_T71
  rw [Int.toNat_natCast, getD_lt _ (by simpa using h), List.getElem_set_self]
set_option maxRecDepth 10000 in
theorem markSettingS_ev (l : List S71) (k0 : Int) (h : okSettingS l) (h0 : 0 ≤ k0) (h1 : k0 ≤ 1000000000000000) : Ev (fun k => laws_markSettingS.f k l k0) (k0 + cntSettingS l, mkSettingS l k0) := by
  have h := h.1
  unfold laws_markSettingS.f
  have key := ev_fill (fun k acc i => laws_markSettingS.l0 k acc (k0 + 2 * i) i) l z71 (fun i => mk1Setting (k0 + 2 * (i : Int))) (k0 + cntSettingS l, mkSettingS l k0) (fun i acc hi hl _ hs => ?_) ?_
  · simpa using key
  · refine Ev.succ ?_
    simp (disch := omega) only [laws_markSettingS.l0, if_pos, w64, Option.bind_some, Int.toNat_natCast]
    refine Ev.bind (markText_ev _ (by omega)) ?_
    (try simp (disch := omega) only [if_pos, w64, Option.bind_some, Int.toNat_natCast])
    simp (disch := (first | omega | (simp only [List.length_set]; omega))) only [rdsetSetting, List.set_set]
    refine Ev.congr (fun k => ?_) hs
    simp only [mk1Setting]
    congr 1
    all_goals first | rfl | omega | (push_cast; omega)
  · refine Ev.succ ?_
    simp only [laws_markSettingS.l0]
    simp only [mkSettingS, List.length_map, List.length_range, Int.lt_irrefl, if_false]
    exact Ev.now' (by unfold cntSettingS; rfl)

theorem heldSettingS_ev (l : List S71) (k0 : Int) (h : okSettingS l) (h0 : 0 ≤ k0) (h1 : k0 ≤ 1000000000000000) : Ev (fun k => laws_heldSettingS.f k (mkSettingS l k0) k0) (k0 + cntSettingS l) := by
  have h := h.1
  unfold laws_heldSettingS.f
  have key : ∀ (m i : Nat), i + m = l.length → Ev (fun k => laws_heldSettingS.l0 k (mkSettingS l k0) (k0 + 2 * i) i) (k0 + cntSettingS l) := by
    intro m
    induction m with
    | zero =>
      intro i hi
      refine Ev.succ ?_
      simp only [laws_heldSettingS.l0, mkSettingS_len, show ¬ (i : Int) < (l.length : Int) by omega, if_false]
      exact Ev.now' (by unfold cntSettingS; omega)
    | succ m ih =>
      intro i hi
      have hs := ih (i + 1) (by omega)
      have e : rd_T71 (mkSettingS l k0) (i : Int) = mk1Setting (k0 + 2 * (i : Int)) := by
        unfold rd_T71
        rw [Int.toNat_natCast]
        exact getD_map_range _ _ _ (by omega)
      refine Ev.succ ?_
      simp only [laws_heldSettingS.l0, mkSettingS_len, e, mk1Setting]
      simp (disch := first | omega | rfl) only [if_pos, if_true, w64, Option.bind_some]
      refine Ev.bind (markText_ev _ (by omega)) ?_
      (try simp (disch := first | omega | rfl) only [if_pos, if_true, w64, Option.bind_some])
      refine Ev.congr (fun k => ?_) hs
      congr 1
      all_goals first | rfl | omega | (push_cast; omega)
  simpa using key l.length 0 (by omega)

def mrgT (base a b : List S71) (n : ByteArray) : Int × Bool := if sameT (thS a n) (thS base n) = true then thS b n else thS a n
def mrgO (base a b : List S71) (n : ByteArray) : Option S71 := if (mrgT base a b n).2 = true then some ⟨n, (mrgT base a b n).1⟩ else none
def mrgL (base a b : List S71) : List S71 := ((nmB base a b).map mkB).filterMap (mrgO base a b)
def mrgR (base a b : List S71) : List S71 × Int := if (confL base a b).length > 0 then ([], 6) else if (mrgL base a b).length > 24 then ([], 5) else (mrgL base a b, 0)
theorem specMrg_ev (base a b : List S71) (h0 : base.length ≤ 24) (h1 : a.length ≤ 24) (h2 : b.length ≤ 24) (hn : ∀ n ∈ (nmB base a b).map mkB, 1 ≤ n.size) : Ev (fun k => spec_l27Merge.f k base a b) (mrgR base a b) := by
  unfold spec_l27Merge.f mrgR
  refine Ev.bind (specConf_ev base a b h0 h1 h2 hn) ?_
  by_cases hc : (confL base a b).length > 0
  · rw [if_pos hc]
    simp only [show ((confL base a b).length : Int) > 0 by omega, if_true]
    exact Ev.now _
  · rw [if_neg hc]
    simp only [show ¬ ((confL base a b).length : Int) > 0 by omega, if_false]
    refine Ev.bind (specNames_ev base a b h0 h1 h2) ?_
    have hlen := nmB_len base a b
    have hlen2 : ((nmB base a b).map mkB).length ≤ 100 := by rw [List.length_map]; omega
    unfold mrgL
    generalize (nmB base a b).map mkB = ns at hn hlen2 ⊢
    refine ev_filterMap (fun k acc i => spec_l27Merge.l0 k base a b ns acc i) ns ByteArray.empty (mrgO base a b) _ (fun i acc hi ha hs => ?_) ?_
    · have er : rdOf ByteArray.empty ns (i : Int) = ns.getD i ByteArray.empty := by unfold rdOf; rw [Int.toNat_natCast]
      have hs1 : 1 ≤ (ns.getD i ByteArray.empty).size := hn _ (getD_mem _ hi)
      generalize (if (ns.filterMap (mrgO base a b)).length > 24 then ([], 5) else (ns.filterMap (mrgO base a b), 0) : List S71 × Int) = R at hs ⊢
      refine Ev.succ ?_
      simp (disch := omega) only [spec_l27Merge.l0, if_pos, w64, er]
      generalize ns.getD i ByteArray.empty = n at hs hs1 ⊢
      refine Ev.bind (specGet_ev a n (by omega)) ?_
      refine Ev.bind (specGet_ev base n (by omega)) ?_
      have q1 : ∀ u v : S71, (u.f0.toList == v.f0.toList && (u.f1 == v.f1)) = sameS u v := fun u v => rfl
      simp only [q1, sameS_get n hs1]
      unfold mrgO mrgT at hs
      by_cases hs2 : sameT (thS a n) (thS base n) = true
      · simp only [hs2, if_true] at hs ⊢
        refine Ev.bind (specGet_ev b n (by omega)) ?_
        obtain ⟨g1, g2⟩ := getS_there n hs1 b
        cases ht : (thS b n).2 with
        | false =>
          have g3 := g1.2 ht
          simp only [ht, Bool.false_eq_true, if_false, Option.toList, List.append_nil, g3, if_true] at hs ⊢
          exact hs
        | true =>
          have g3 : ¬ (getS b n).f0.toList = ([] : List UInt8) := fun e => by rw [g1.1 e] at ht; cases ht
          have g4 := g2 ht
          simp only [ht, if_true, Option.toList, g4, toList_ne hs1, if_false] at hs ⊢
          (try simp (disch := omega) only [if_pos])
          exact hs
      · simp only [hs2, Bool.false_eq_true, if_false] at hs ⊢
        obtain ⟨g1, g2⟩ := getS_there n hs1 a
        cases ht : (thS a n).2 with
        | false =>
          have g3 := g1.2 ht
          simp only [ht, Bool.false_eq_true, if_false, Option.toList, List.append_nil, g3, if_true] at hs ⊢
          exact hs
        | true =>
          have g3 : ¬ (getS a n).f0.toList = ([] : List UInt8) := fun e => by rw [g1.1 e] at ht; cases ht
          have g4 := g2 ht
          simp only [ht, if_true, Option.toList, g4, toList_ne hs1, if_false] at hs ⊢
          (try simp (disch := omega) only [if_pos])
          exact hs
    · refine Ev.succ ?_
      simp only [spec_l27Merge.l0, Int.lt_irrefl, if_false]
      by_cases h24 : (ns.filterMap (mrgO base a b)).length > 24
      · simp only [h24, if_true, show ((ns.filterMap (mrgO base a b)).length : Int) > 24 by omega]
        exact Ev.now _
      · simp only [h24, if_false, show ¬ ((ns.filterMap (mrgO base a b)).length : Int) > 24 by omega]
        exact Ev.now _
theorem implMrg_ev (base a b : List S71) (h0 : base.length ≤ 24) (h1 : a.length ≤ 24) (h2 : b.length ≤ 24) : Ev (fun k => impl_MergeStates.j0 k base a b false) (mrgR base a b) := by
  refine Ev.succ ?_
  simp only [impl_MergeStates.j0, Bool.false_eq_true, if_false]
  unfold mrgR
  refine Ev.bind (implConf_ev base a b h0 h1 h2) ?_
  by_cases hc : (confL base a b).length > 0
  · rw [if_pos hc]
    simp only [show ((confL base a b).length : Int) > 0 by omega, if_true]
    exact Ev.now _
  · rw [if_neg hc]
    simp only [show ¬ ((confL base a b).length : Int) > 0 by omega, if_false, implNames_eq base a b h0 h1 h2, Option.bind_some]
    have hlen := nmB_len base a b
    have hlen2 : ((nmB base a b).map mkB).length ≤ 100 := by rw [List.length_map]; omega
    unfold mrgL
    generalize (nmB base a b).map mkB = ns at hlen2 ⊢
    refine ev_filterMap (fun k acc i => impl_MergeStates.l0 k base a b acc ns ns.length i) ns ByteArray.empty (mrgO base a b) _ (fun i acc hi ha hs => ?_) ?_
    · have er : rdOf ByteArray.empty ns (i : Int) = ns.getD i ByteArray.empty := by unfold rdOf; rw [Int.toNat_natCast]
      generalize (if (ns.filterMap (mrgO base a b)).length > 24 then ([], 5) else (ns.filterMap (mrgO base a b), 0) : List S71 × Int) = R at hs ⊢
      refine Ev.succ ?_
      simp (disch := omega) only [impl_MergeStates.l0, if_pos, w64, er]
      generalize ns.getD i ByteArray.empty = n at hs ⊢
      refine Ev.bind (implThing_ev a n (by omega)) ?_
      refine Ev.bind (implThing_ev base n (by omega)) ?_
      have q1 : ∀ u v : Int × Bool, (u.1 == v.1 && (u.2 == v.2)) = sameT u v := fun u v => rfl
      simp only [q1]
      unfold mrgO mrgT at hs
      by_cases hs2 : sameT (thS a n) (thS base n) = true
      · simp only [hs2, if_true] at hs ⊢
        refine Ev.bind (implThing_ev b n (by omega)) ?_
        cases ht : (thS b n).2 with
        | false =>
          simp only [ht, Bool.false_eq_true, if_false, Option.toList, List.append_nil] at hs ⊢
          exact hs
        | true =>
          simp only [ht, if_true, Option.toList] at hs ⊢
          (try simp (disch := omega) only [if_pos])
          exact hs
      · simp only [hs2, Bool.false_eq_true, if_false] at hs ⊢
        cases ht : (thS a n).2 with
        | false =>
          simp only [ht, Bool.false_eq_true, if_false, Option.toList, List.append_nil] at hs ⊢
          exact hs
        | true =>
          simp only [ht, if_true, Option.toList] at hs ⊢
          (try simp (disch := omega) only [if_pos])
          exact hs
    · refine Ev.succ ?_
      simp only [impl_MergeStates.l0, Int.lt_irrefl, if_false]
      by_cases h24 : (ns.filterMap (mrgO base a b)).length > 24
      · simp only [h24, if_true, show ((ns.filterMap (mrgO base a b)).length : Int) > 24 by omega]
        exact Ev.now _
      · simp only [h24, if_false, show ¬ ((ns.filterMap (mrgO base a b)).length : Int) > 24 by omega]
        exact Ev.now _
theorem thS_ok {l : List S71} (h : okSettingS l) (n : ByteArray) : -9223372036854775808 ≤ (thS l n).1 ∧ (thS l n).1 ≤ 9223372036854775807 := by
  unfold thS
  cases hf : fndS l n with
  | none => exact ⟨by decide, by decide⟩
  | some x => exact (h.2 x (fndS_some hf).1).2
theorem mrg_ok {base a b : List S71} (o0 : okSettingS base) (o1 : okSettingS a) (o2 : okSettingS b) (h0 : base.length ≤ 24) (h1 : a.length ≤ 24) (h2 : b.length ≤ 24) : okSettingS (mrgL base a b) := by
  refine ⟨?_, fun x hx => ?_⟩
  · have g1 := List.length_filterMap_le (mrgO base a b) ((nmB base a b).map mkB)
    have g2 := nmB_len base a b
    rw [List.length_map] at g1
    unfold mrgL
    omega
  · obtain ⟨n, hn, he⟩ := List.mem_filterMap.1 hx
    unfold mrgO at he
    split at he
    · obtain rfl := Option.some.inj he
      obtain ⟨y, hy, rfl⟩ := nmB_mem hn
      refine ⟨?_, ?_⟩
      · rcases hy with hy | hy | hy
        · exact (o0.2 y hy).1
        · exact (o1.2 y hy).1
        · exact (o2.2 y hy).1
      · show -9223372036854775808 ≤ (mrgT base a b y.f0).1 ∧ (mrgT base a b y.f0).1 ≤ 9223372036854775807
        unfold mrgT
        split
        · exact thS_ok o2 _
        · exact thS_ok o1 _
    · cases he
theorem core : ∀ (l0 : List (S71)) (l1 : List (S71)) (l2 : List (S71)) (o0 : okSettingS l0) (o1 : okSettingS l1) (o2 : okSettingS l2), ∃ (r1 : List (S71)) (r2 : Int), Ev (fun k => spec_MergeStates.f k l0 l1 l2) (r1, r2) ∧ Ev (fun k => impl_MergeStates.f k l0 l1 l2) (r1, r2) ∧ okSettingS r1 := by
  intro l0 l1 l2 o0 o1 o2
  have s0 := specState_ev l0 o0.1
  have s1 := specState_ev l1 o1.1
  have s2 := specState_ev l2 o2.1
  have i0 := implState_ev l0 o0.1
  have i1 := implState_ev l1 o1.1
  have i2 := implState_ev l2 o2.1
  have bad : Ev (fun k => impl_MergeStates.j0 k l0 l1 l2 true) ([], 1) := Ev.succ (by simp only [impl_MergeStates.j0, if_true]; exact Ev.now _)
  have ok0 : okSettingS [] := ⟨by simp, fun x hx => by cases hx⟩
  unfold spec_MergeStates.f impl_MergeStates.f
  cases h0 : stateOk l0 with
  | false =>
    rw [h0] at s0 i0
    exact ⟨[], 1, Ev.bind s0 (Ev.now _), Ev.bind i0 bad, ok0⟩
  | true =>
    rw [h0] at s0 i0
    cases h1 : stateOk l1 with
    | false =>
      rw [h1] at s1 i1
      exact ⟨[], 1, Ev.bind s0 (Ev.bind s1 (Ev.now _)), Ev.bind i0 (Ev.bind i1 bad), ok0⟩
    | true =>
      rw [h1] at s1 i1
      cases h2 : stateOk l2 with
      | false =>
        rw [h2] at s2 i2
        exact ⟨[], 1, Ev.bind s0 (Ev.bind s1 (Ev.bind s2 (Ev.now _))), Ev.bind i0 (Ev.bind i1 (Ev.bind i2 bad)), ok0⟩
      | true =>
        rw [h2] at s2 i2
        have f0 := (stateOk_facts h0).1
        have f1 := (stateOk_facts h1).1
        have f2 := (stateOk_facts h2).1
        refine ⟨(mrgR l0 l1 l2).1, (mrgR l0 l1 l2).2, Ev.bind s0 (Ev.bind s1 (Ev.bind s2 (Ev.bind (specMrg_ev l0 l1 l2 f0 f1 f2 (names_pos h0 h1 h2)) (Ev.now _)))), Ev.bind i0 (Ev.bind i1 (Ev.bind i2 (implMrg_ev l0 l1 l2 f0 f1 f2))), ?_⟩
        unfold mrgR
        split
        · exact ok0
        · split
          · exact ok0
          · exact mrg_ok o0 o1 o2 f0 f1 f2

end Go.Proofs.Ytenjhbkpcelidaa.Pure
