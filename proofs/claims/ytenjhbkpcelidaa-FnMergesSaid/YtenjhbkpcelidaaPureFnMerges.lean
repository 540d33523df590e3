/- FnMerges: for every draw of states and of a history, merges answer as the law says. -/
import Derived.Test.YtenjhbkpcelidaaPFnMergesx0
import Derived.Test.YtenjhbkpcelidaaPFnMergesx1
import Derived.Test.YtenjhbkpcelidaaPFnMergesx2
import Derived.Test.YtenjhbkpcelidaaPFnMergesx3
import Derived.Test.YtenjhbkpcelidaaPFnMergesx4
import Derived.Test.YtenjhbkpcelidaaPFnMergesx5
import Derived.Test.YtenjhbkpcelidaaPFnMergesx6
import Derived.Test.YtenjhbkpcelidaaPFnMergesx7
import Derived.Test.YtenjhbkpcelidaaPFnMergesx8
import Derived.Test.YtenjhbkpcelidaaPFnMergesx9
import Derived.Test.YtenjhbkpcelidaaPFnMergesx10
import Derived.Test.YtenjhbkpcelidaaPFnMergesx11
import Derived.Test.YtenjhbkpcelidaaPFnMergesx12
import Derived.Test.YtenjhbkpcelidaaPFnMergesx13
import Derived.Test.YtenjhbkpcelidaaPFnMergesx14
import Derived.Test.YtenjhbkpcelidaaPFnMergesx15
namespace Go.Proofs.Ytenjhbkpcelidaa.Pure
open Go.RowKit Go.Proofs.Ytenjhbkpcelidaa.PFnMerges Go.Proofs.YtenjhbkpcelidaaW.PrintWords Go.Proofs.YtenjhbkpcelidaaW.PrintLast Go.Proofs.YtenjhbkpcelidaaW.PrintMore
set_option linter.unusedVariables false
set_option linter.unusedSimpArgs false

def smallC (c : Int) : Bool := decide (97 ≤ c) && decide (c ≤ 122)
def digitC (c : Int) : Bool := decide (48 ≤ c) && decide (c ≤ 57)
def nameC (c : Int) : Bool := smallC c || digitC c
/-- A name: 1 to 10 bytes, the first one a small letter, all of them small letters or digits. -/
def nameOk (b : ByteArray) : Bool := decide (1 ≤ b.size) && (decide (b.size ≤ 10) && (smallC (bt b 0) && (List.range b.size).all fun i => nameC (bt b i)))

def inR (lo hi x : Int) : Bool := decide (lo ≤ x) && decide (x ≤ hi)
theorem inR_iff {lo hi x : Int} : inR lo hi x = true ↔ lo ≤ x ∧ x ≤ hi := by simp [inR]
theorem inR_no {lo hi x : Int} : inR lo hi x = false ↔ ¬ (lo ≤ x ∧ x ≤ hi) := by rw [← inR_iff]; simp

theorem w64 {x : Int} (h0 : -9223372036854775808 ≤ x) (h1 : x ≤ 9223372036854775807) : wrap64 x = x := by unfold wrap64; omega
theorem rd_nat (l : List Int) (i : Nat) : rd l (i : Int) = l.getD i 0 := by unfold rd; rw [Int.toNat_natCast]
theorem getD_mem {α : Type} {l : List α} {i : Nat} (d : α) (h : i < l.length) : l.getD i d ∈ l := by
  rw [List.getD_eq_getElem?_getD, List.getElem?_eq_getElem h]; exact List.getElem_mem _
theorem getD_lt {α : Type} {l : List α} {i : Nat} (d : α) (h : i < l.length) : l.getD i d = l[i] := by
  rw [List.getD_eq_getElem?_getD, List.getElem?_eq_getElem h]; rfl
theorem take_succ_getD {α : Type} (l : List α) (d : α) {i : Nat} (h : i < l.length) : l.take (i + 1) = l.take i ++ [l.getD i d] := by
  rw [List.take_succ_eq_append_getElem h, getD_lt d h]
/-- A loop that copies a list, element by element. -/
theorem ev_copy {α : Type} (L : Nat → List α → List α → Int → Option (List α)) (xs : List α) (d d' : α)
    (step : ∀ ys i, i < xs.length → ys.length = xs.length → ∀ r, Ev (fun k => L k xs (ys.set i (xs.getD i d)) ((i + 1 : Nat) : Int)) r → Ev (fun k => L k xs ys (i : Int)) r)
    (fin : ∀ ys, Ev (fun k => L k xs ys (xs.length : Int)) ys) : Ev (fun k => L k xs (List.replicate xs.length d') 0) xs := by
  have key : ∀ (m i : Nat) (ys : List α), i + m = xs.length → ys.length = xs.length → (∀ j, j < i → ys[j]? = xs[j]?) → Ev (fun k => L k xs ys (i : Int)) xs := by
    intro m
    induction m with
    | zero =>
      intro i ys hi hl hj
      have e : ys = xs := List.ext_getElem? (fun j => by
        by_cases h : j < xs.length
        · exact hj j (by omega)
        · rw [List.getElem?_eq_none (by omega), List.getElem?_eq_none (by omega)])
      have : i = xs.length := by omega
      subst this
      rw [e]
      exact fin xs
    | succ m ih =>
      intro i ys hi hl hj
      refine step ys i (by omega) hl xs (ih (i + 1) _ (by omega) (by rw [List.length_set]; exact hl) (fun j hjj => ?_))
      by_cases h : j = i
      · subst h
        rw [List.getElem?_set_self (by omega), getD_lt d (by omega), List.getElem?_eq_getElem (by omega)]
      · rw [List.getElem?_set_ne (by omega)]
        exact hj j (by omega)
  exact key xs.length 0 _ (by omega) (List.length_replicate ..) (fun j hj => absurd hj (Nat.not_lt_zero _))
/-- A loop that compares two lists. -/
theorem ev_eq {α : Type} (L : Nat → List α → List α → Int → Option Bool) (xs : List α) 
    (step : ∀ i, i < xs.length → Ev (fun k => L k xs xs ((i + 1 : Nat) : Int)) true → Ev (fun k => L k xs xs (i : Int)) true)
    (fin : Ev (fun k => L k xs xs (xs.length : Int)) true) : Ev (fun k => L k xs xs 0) true := by
  have key : ∀ (m i : Nat), i + m = xs.length → Ev (fun k => L k xs xs (i : Int)) true := by
    intro m
    induction m with
    | zero =>
      intro i hi
      have : i = xs.length := by omega
      subst this
      exact fin
    | succ m ih => intro i hi; exact step i (by omega) (ih (i + 1) (by omega))
  exact key xs.length 0 (by omega)

abbrev Bs := List UInt8
theorem bs_irr (x : Bs) : ¬ x < x := List.lt_irrefl x
theorem bs_tr {x y z : Bs} (h1 : x < y) (h2 : y < z) : x < z := List.lt_trans h1 h2
theorem bs_tri {x y : Bs} (h1 : ¬ x < y) (h2 : x ≠ y) : y < x := by
  refine Classical.byContradiction fun h3 => h2 ?_
  exact List.le_antisymm (List.not_lt.1 h3) (List.not_lt.1 h1)
/-- Two lists in strict order with the same elements are one. -/
theorem strict_ext : ∀ (xs ys : List Bs), xs.Pairwise (· < ·) → ys.Pairwise (· < ·) → (∀ a, a ∈ xs ↔ a ∈ ys) → xs = ys
  | [], [], _, _, _ => rfl
  | [], y :: ys, _, _, h => absurd ((h y).2 List.mem_cons_self) (by simp)
  | x :: xs, [], _, _, h => absurd ((h x).1 List.mem_cons_self) (by simp)
  | x :: xs, y :: ys, hx, hy, h => by
    obtain ⟨hx1, hx2⟩ := List.pairwise_cons.1 hx
    obtain ⟨hy1, hy2⟩ := List.pairwise_cons.1 hy
    have e : x = y := by
      rcases List.mem_cons.1 ((h x).1 List.mem_cons_self) with e | m1
      · exact e
      · rcases List.mem_cons.1 ((h y).2 List.mem_cons_self) with e | m2
        · exact e.symm
        · exact absurd (bs_tr (hy1 x m1) (hx1 y m2)) (bs_irr y)
    subst e
    congr 1
    refine strict_ext xs ys hx2 hy2 fun a => ⟨fun ha => ?_, fun ha => ?_⟩
    · rcases List.mem_cons.1 ((h a).1 (List.mem_cons_of_mem _ ha)) with e | m
      · subst e; exact absurd (hx1 a ha) (bs_irr a)
      · exact m
    · rcases List.mem_cons.1 ((h a).2 (List.mem_cons_of_mem _ ha)) with e | m
      · subst e; exact absurd (hy1 a ha) (bs_irr a)
      · exact m
/-- x set into its place, if it is not there. -/
def insU (x : Bs) : List Bs → List Bs
  | [] => [x]
  | y :: ys => if y < x then y :: insU x ys else if y = x then y :: ys else x :: y :: ys
theorem insU_mem (x a : Bs) : ∀ ys : List Bs, a ∈ insU x ys ↔ a = x ∨ a ∈ ys
  | [] => by simp [insU]
  | y :: ys => by
    unfold insU
    split
    · rw [List.mem_cons, insU_mem x a ys, List.mem_cons]
      constructor
      · rintro (h | h | h) <;> simp [h]
      · rintro (h | h | h) <;> simp [h]
    · split
      · rename_i e
        subst e
        simp
      · simp
theorem insU_strict (x : Bs) : ∀ ys : List Bs, ys.Pairwise (· < ·) → (insU x ys).Pairwise (· < ·)
  | [], _ => by simp [insU]
  | y :: ys, h => by
    obtain ⟨h1, h2⟩ := List.pairwise_cons.1 h
    unfold insU
    split
    · rename_i hyx
      refine List.pairwise_cons.2 ⟨fun a ha => ?_, insU_strict x ys h2⟩
      rcases (insU_mem x a ys).1 ha with e | m
      · subst e; exact hyx
      · exact h1 a m
    · split
      · exact h
      · rename_i h3 h4
        have hxy := bs_tri h3 h4
        refine List.pairwise_cons.2 ⟨fun a ha => ?_, h⟩
        rcases List.mem_cons.1 ha with e | m
        · subst e; exact hxy
        · exact bs_tr hxy (h1 a m)
theorem foldU_spec : ∀ (xs out : List Bs), out.Pairwise (· < ·) → (xs.foldl (fun o x => insU x o) out).Pairwise (· < ·) ∧ ∀ a, a ∈ xs.foldl (fun o x => insU x o) out ↔ a ∈ xs ∨ a ∈ out
  | [], out, h => ⟨h, fun a => by simp⟩
  | x :: xs, out, h => by
    obtain ⟨h1, h2⟩ := foldU_spec xs (insU x out) (insU_strict x out h)
    refine ⟨h1, fun a => ?_⟩
    rw [List.foldl_cons, h2 a, insU_mem, List.mem_cons]
    constructor
    · rintro (h | h | h) <;> simp [h]
    · rintro ((h | h) | h) <;> simp [h]
/-- What is left of a row in order, each run once: in strict order, of the same elements. -/
theorem compact_spec (zs : List Bs) (hs : zs.Pairwise (· ≤ ·)) : (Lib.compact zs).Pairwise (· < ·) ∧ ∀ a, a ∈ Lib.compact zs ↔ a ∈ zs := by
  have hle : ∀ i j, i ≤ j → j < zs.length → zs[i]! ≤ zs[j]! := by
    intro i j hij hj
    rcases Nat.lt_or_eq_of_le hij with h | h
    · have := List.pairwise_iff_getElem.1 hs i j (by omega) hj h
      rwa [getElem!_pos zs i (by omega), getElem!_pos zs j hj]
    · subst h; exact List.le_refl _
  have key : ∀ m, m ≤ zs.length → (Lib.compactUpTo zs.toArray m).Pairwise (· < ·) ∧ (∀ a, a ∈ Lib.compactUpTo zs.toArray m ↔ ∃ j, j < m ∧ a = zs[j]!) := by
    intro m
    induction m with
    | zero => intro _; exact ⟨by simp [Lib.compactUpTo], by simp [Lib.compactUpTo]⟩
    | succ m ih =>
      intro hm
      obtain ⟨h1, h2⟩ := ih (by omega)
      have hg : ∀ j : Nat, zs.toArray[j]! = zs[j]! := fun j => by simp
      rw [Lib.compactUpTo_succ]
      cases hk : Lib.keeps zs.toArray m with
      | true =>
        rw [if_pos rfl, hg]
        refine ⟨List.pairwise_append.2 ⟨h1, List.pairwise_singleton _ _, fun a ha b hb => ?_⟩, fun a => ?_⟩
        · obtain ⟨j, hj, rfl⟩ := (h2 a).1 ha
          rw [List.mem_singleton] at hb
          subst hb
          have h3 := hle j (m - 1) (by omega) (by omega)
          have h4 := hle (m - 1) m (by omega) (by omega)
          have h5 : zs[m]! ≠ zs[m - 1]! := by
            simp only [Lib.keeps, decide_eq_true_eq, hg] at hk
            rcases hk with hk | hk
            · omega
            · exact hk
          have h6 : zs[m - 1]! < zs[m]! := Classical.byContradiction fun h7 => h5 (List.le_antisymm (List.not_lt.1 h7) h4)
          exact Classical.byContradiction fun h7 => (List.not_lt.2 (List.le_trans (List.not_lt.1 h7) h3)) h6
        · rw [List.mem_append, h2 a, List.mem_singleton]
          constructor
          · rintro (⟨j, hj, e⟩ | e)
            · exact ⟨j, by omega, e⟩
            · exact ⟨m, by omega, e⟩
          · rintro ⟨j, hj, e⟩
            by_cases hjm : j = m
            · subst hjm; exact .inr e
            · exact .inl ⟨j, by omega, e⟩
      | false =>
        rw [if_neg (by decide), List.append_nil]
        refine ⟨h1, fun a => ?_⟩
        rw [h2 a]
        have hm0 : 0 < m ∧ zs[m]! = zs[m - 1]! := by
          simp only [Lib.keeps, decide_eq_false_iff_not, hg] at hk
          exact ⟨by omega, Classical.byContradiction fun h => hk (.inr h)⟩
        constructor
        · rintro ⟨j, hj, e⟩; exact ⟨j, by omega, e⟩
        · rintro ⟨j, hj, e⟩
          by_cases hjm : j = m
          · subst hjm; exact ⟨j - 1, by omega, by rw [e, hm0.2]⟩
          · exact ⟨j, by omega, e⟩
  obtain ⟨h1, h2⟩ := key zs.length (Nat.le_refl _)
  refine ⟨h1, fun a => ?_⟩
  unfold Lib.compact
  rw [h2 a]
  constructor
  · rintro ⟨j, hj, rfl⟩
    rw [getElem!_pos zs j hj]
    exact List.getElem_mem _
  · intro ha
    obtain ⟨j, hj, rfl⟩ := List.mem_iff_getElem.1 ha
    exact ⟨j, hj, by rw [getElem!_pos zs j hj]⟩
theorem sort_spec (zs : List Bs) : (zs.mergeSort fun x y => decide (x ≤ y)).Pairwise (· ≤ ·) ∧ ∀ a, a ∈ (zs.mergeSort fun x y => decide (x ≤ y)) ↔ a ∈ zs := by
  refine ⟨?_, fun a => List.mem_mergeSort⟩
  have tr : ∀ a b c : Bs, decide (a ≤ b) = true → decide (b ≤ c) = true → decide (a ≤ c) = true := fun a b c h1 h2 => by simp only [decide_eq_true_eq] at *; exact List.le_trans h1 h2
  have tt : ∀ a b : Bs, (decide (a ≤ b) || decide (b ≤ a)) = true := fun a b => by simp only [Bool.or_eq_true, decide_eq_true_eq]; exact List.le_total a b
  exact (List.pairwise_mergeSort tr tt zs).imp fun h => of_decide_eq_true h
theorem fold_eq_compact (zs : List Bs) : zs.foldl (fun o x => insU x o) [] = Lib.compact (zs.mergeSort fun x y => decide (x ≤ y)) := by
  obtain ⟨h1, h2⟩ := foldU_spec zs [] List.Pairwise.nil
  obtain ⟨h3, h4⟩ := sort_spec zs
  obtain ⟨h5, h6⟩ := compact_spec _ h3
  exact strict_ext _ _ h1 h5 fun a => by rw [h2 a, h6 a, h4 a]; simp

theorem bytesLess_iff : ∀ (a b : List UInt8), Op.bytesLess a b = true ↔ a < b
  | [], [] => by simp [Op.bytesLess]
  | [], y :: ys => by simp [Op.bytesLess]
  | x :: xs, [] => by simp [Op.bytesLess]
  | x :: xs, y :: ys => by
    have ih := bytesLess_iff xs ys
    simp only [Op.bytesLess, List.cons_lt_cons_iff]
    by_cases h : x = y
    · subst h
      simp [ih]
    · simp [h]
def mkB (x : Bs) : ByteArray := ⟨x.toArray⟩
theorem mkB_toList (x : Bs) : (mkB x).toList = x := by rw [ByteArray.toList_eq]; rfl
theorem mkB_data (x : ByteArray) : mkB x.data.toList = x := rfl

theorem bltB (a b : ByteArray) : (Op.bytesLess a.toList b.toList = true) ↔ a.data.toList < b.data.toList := by
  rw [bytesLess_iff, ByteArray.toList_eq, ByteArray.toList_eq]
theorem beqB (a b : ByteArray) : (a.toList = b.toList) ↔ a = b := by
  rw [ByteArray.toList_eq, ByteArray.toList_eq]
  constructor
  · intro h
    cases a; cases b
    congr 1
    exact Array.ext' h
  · intro h; rw [h]
theorem ext_data {a b : ByteArray} (h : a.data.toList = b.data.toList) : a = b := by
  cases a; cases b
  congr 1
  exact Array.ext' h

def settOk (x : S71) : Bool := nameOk x.f0 && inR 0 1000 x.f1
def settAt (l : List S71) (i : Nat) : Bool := settOk (l.getD i z71) && (decide (i = 0) || decide ((l.getD (i - 1) z71).f0.data.toList < (l.getD i z71).f0.data.toList))
def stateOk (l : List S71) : Bool := decide (l.length ≤ 24) && (List.range l.length).all (settAt l)
theorem rdSt (l : List S71) (i : Nat) : rd_T71 l (i : Int) = l.getD i z71 := by unfold rd_T71; rw [Int.toNat_natCast]
theorem rdSts (l : List S71) (i : Nat) (h : 0 < i) : rd_T71 l ((i : Int) - 1) = l.getD (i - 1) z71 := by
  unfold rd_T71
  congr 1
  omega
def skey (x : S71) : Bs := x.f0.data.toList
/-- What a state that is valid is: short, its names in strict order, each valid. -/
theorem stateOk_facts {l : List S71} (h : stateOk l = true) : l.length ≤ 24 ∧ (l.map skey).Pairwise (· < ·) ∧ ∀ x ∈ l, settOk x = true := by
  unfold stateOk at h
  rw [Bool.and_eq_true, decide_eq_true_eq, List.all_eq_true] at h
  obtain ⟨h1, h2⟩ := h
  have h3 : ∀ i, i < l.length → settAt l i = true := fun i hi => h2 i (List.mem_range.2 hi)
  refine ⟨h1, ?_, fun x hx => ?_⟩
  · rw [List.pairwise_iff_getElem]
    have step : ∀ i, (hi : i + 1 < l.length) → skey l[i] < skey l[i + 1] := fun i hi => by
      have := h3 (i + 1) hi
      unfold settAt at this
      rw [Bool.and_eq_true, Bool.or_eq_true, decide_eq_true_eq, decide_eq_true_eq] at this
      have h4 := this.2.resolve_left (by omega)
      rw [Nat.add_sub_cancel, getD_lt _ (by omega), getD_lt _ hi] at h4
      exact h4
    have far : ∀ m i, (hi : i + m + 1 < l.length) → skey (l[i]'(by omega)) < skey (l[i + m + 1]'hi) := by
      intro m
      induction m with
      | zero => intro i hi; exact step i hi
      | succ m ih =>
        intro i hi
        exact bs_tr (ih i (by omega)) (step (i + m + 1) hi)
    intro i j hi hj hij
    rw [List.length_map] at hi hj
    rw [List.getElem_map, List.getElem_map]
    have e : j = i + (j - i - 1) + 1 := by omega
    have := far (j - i - 1) i (by omega)
    simpa only [← e] using this
  · obtain ⟨i, hi, rfl⟩ := List.mem_iff_getElem.1 hx
    have := h3 i hi
    unfold settAt at this
    rw [Bool.and_eq_true, getD_lt _ hi] at this
    exact this.1
theorem settOk_pos {x : S71} (h : settOk x = true) : 1 ≤ x.f0.size := by
  unfold settOk nameOk at h
  rw [Bool.and_eq_true, Bool.and_eq_true, decide_eq_true_eq] at h
  exact h.1.1

/-- A state with another setting. -/
def setL (e : S71) : List S71 → Bool → List S71
  | [], done => if done = true then [] else [e]
  | x :: xs, done => if done = false ∧ ¬ skey x < skey e then e :: ((if x.f0 = e.f0 then [] else [x]) ++ setL e xs true) else (if x.f0 = e.f0 then [] else [x]) ++ setL e xs done
theorem setL_true (e : S71) : ∀ l : List S71, (∀ x ∈ l, skey e < skey x) → setL e l true = l
  | [], _ => rfl
  | x :: xs, h => by
    have h1 := h x List.mem_cons_self
    have h2 : ¬ x.f0 = e.f0 := fun h3 => by
      have : skey x = skey e := by unfold skey; rw [h3]
      rw [this] at h1
      exact bs_irr _ h1
    simp only [setL]
    rw [if_neg (by simp), if_neg h2, setL_true e xs (fun y hy => h y (List.mem_cons_of_mem _ hy))]
    rfl
theorem setL_keys (e : S71) : ∀ l : List S71, (l.map skey).Pairwise (· < ·) → (setL e l false).map skey = insU (skey e) (l.map skey)
  | [], _ => rfl
  | x :: xs, h => by
    rw [List.map_cons] at h
    obtain ⟨h1, h2⟩ := List.pairwise_cons.1 h
    have hk : ∀ y ∈ xs, skey x < skey y := fun y hy => h1 _ (List.mem_map.2 ⟨y, hy, rfl⟩)
    simp only [setL, List.map_cons, insU]
    by_cases a : skey x < skey e
    · rw [if_neg (by simp [a]), if_pos a]
      have h3 : ¬ x.f0 = e.f0 := fun h3 => by
        have : skey x = skey e := by unfold skey; rw [h3]
        rw [this] at a
        exact bs_irr _ a
      rw [if_neg h3, List.map_append, setL_keys e xs h2]
      rfl
    · rw [if_pos (by simp [a]), if_neg a]
      by_cases b : skey x = skey e
      · have h3 : x.f0 = e.f0 := ext_data b
        rw [if_pos h3, if_pos b, List.nil_append, setL_true e xs (fun y hy => by rw [← b]; exact hk y hy), List.map_cons, b]
      · have h3 : ¬ x.f0 = e.f0 := fun h3 => b (by unfold skey; rw [h3])
        have c : skey e < skey x := bs_tri a b
        rw [if_neg h3, if_neg b, setL_true e xs (fun y hy => bs_tr c (hk y hy))]
        rfl
theorem setL_len (e : S71) : ∀ (l : List S71) (d : Bool), (setL e l d).length ≤ l.length + 1
  | [], d => by cases d <;> simp [setL]
  | x :: xs, d => by
    have h1 := setL_len e xs true
    have h2 := setL_len e xs d
    have h3 : ((if x.f0 = e.f0 then [] else [x]) : List S71).length ≤ 1 := by split <;> simp
    simp only [setL]
    split
    · rename_i h
      have h4 : ∀ ys : List S71, (setL e ys true).length ≤ ys.length := by
        intro ys
        induction ys with
        | nil => simp [setL]
        | cons y ys ih =>
          have h5 : ((if y.f0 = e.f0 then [] else [y]) : List S71).length ≤ 1 := by split <;> simp
          simp only [setL]
          rw [if_neg (by simp), List.length_append, List.length_cons]
          omega
      have := h4 xs
      simp only [List.length_cons, List.length_append]
      omega
    · simp only [List.length_cons, List.length_append]
      omega
def allL (l acc : List S71) : List S71 := l.foldl (fun o e => setL e o false) acc
theorem allL_len : ∀ (l acc : List S71), (allL l acc).length ≤ acc.length + l.length
  | [], acc => by simp [allL]
  | e :: l, acc => by
    have h1 := allL_len l (setL e acc false)
    have h2 := setL_len e acc false
    unfold allL at h1 ⊢
    simp only [List.foldl_cons, List.length_cons]
    omega
theorem allL_keys : ∀ (l acc : List S71), (acc.map skey).Pairwise (· < ·) → (allL l acc).map skey = (l.map skey).foldl (fun o x => insU x o) (acc.map skey) ∧ ((allL l acc).map skey).Pairwise (· < ·)
  | [], acc, h => ⟨rfl, h⟩
  | e :: l, acc, h => by
    have h1 := setL_keys e acc h
    have h2 : ((setL e acc false).map skey).Pairwise (· < ·) := by rw [h1]; exact insU_strict _ _ h
    obtain ⟨h3, h4⟩ := allL_keys l (setL e acc false) h2
    refine ⟨?_, h4⟩
    rw [List.map_cons, List.foldl_cons, ← h1]
    exact h3
def nmB (base a b : List S71) : List Bs := ((base ++ (a ++ b)).map skey).foldl (fun o x => insU x o) []
theorem nmB_all (base a b : List S71) : (allL b (allL a (allL base []))).map skey = nmB base a b := by
  obtain ⟨h1, h2⟩ := allL_keys base [] List.Pairwise.nil
  obtain ⟨h3, h4⟩ := allL_keys a _ h2
  obtain ⟨h5, _⟩ := allL_keys b _ h4
  rw [h5, h3, h1]
  unfold nmB
  rw [List.map_append, List.map_append, List.foldl_append, List.foldl_append]
  rfl
theorem mkB_skey (x : S71) : mkB (skey x) = x.f0 := rfl
theorem nmB_len (base a b : List S71) : (nmB base a b).length ≤ base.length + a.length + b.length := by
  have h1 := allL_len base []
  have h2 := allL_len a (allL base [])
  have h3 := allL_len b (allL a (allL base []))
  rw [← nmB_all, List.length_map]
  simp only [List.length_nil] at h1
  omega
theorem nmB_mem {base a b : List S71} {n : ByteArray} (h : n ∈ (nmB base a b).map mkB) : ∃ x, (x ∈ base ∨ x ∈ a ∨ x ∈ b) ∧ n = x.f0 := by
  obtain ⟨y, hy, rfl⟩ := List.mem_map.1 h
  unfold nmB at hy
  rw [(foldU_spec _ [] List.Pairwise.nil).2] at hy
  rcases hy with hy | hy
  · obtain ⟨x, hx, rfl⟩ := List.mem_map.1 hy
    rw [List.mem_append, List.mem_append] at hx
    exact ⟨x, hx, rfl⟩
  · cases hy

def fndS (l : List S71) (n : ByteArray) : Option S71 := l.find? fun x => decide (x.f0 = n)
def thS (l : List S71) (n : ByteArray) : Int × Bool := match fndS l n with | some x => (x.f1, true) | none => (0, false)
def getS (l : List S71) (n : ByteArray) : S71 := (fndS l n).getD ⟨⟨#[]⟩, 0⟩
def sameS (u v : S71) : Bool := u.f0.toList == v.f0.toList && (u.f1 == v.f1)
theorem fndS_some {l : List S71} {n : ByteArray} {x : S71} (h : fndS l n = some x) : x ∈ l ∧ x.f0 = n := by
  unfold fndS at h
  exact ⟨List.mem_of_find?_eq_some h, by simpa using List.find?_some h⟩
theorem toList_ne {n : ByteArray} (h : 1 ≤ n.size) : ¬ n.toList = ([] : List UInt8) := fun e => by
  rw [ByteArray.toList_eq] at e
  have h2 : n.size = ([] : List UInt8).length := by rw [← e]; rfl
  rw [h2] at h
  simp at h
theorem sameS_get (n : ByteArray) (h : 1 ≤ n.size) (l m : List S71) : sameS (getS l n) (getS m n) = sameT (thS l n) (thS m n) := by
  have hn := toList_ne h
  have he : (⟨#[]⟩ : ByteArray).toList = ([] : List UInt8) := by rw [ByteArray.toList_eq]
  have b1 : (n.toList == ([] : List UInt8)) = false := beq_eq_false_iff_ne.2 hn
  have b2 : (([] : List UInt8) == n.toList) = false := beq_eq_false_iff_ne.2 (fun e => hn e.symm)
  unfold getS thS sameS sameT
  cases h1 : fndS l n with
  | none =>
    cases h2 : fndS m n with
    | none => simp
    | some y => simp only [Option.getD_none, Option.getD_some, (fndS_some h2).2, he, b2, Bool.false_and]; simp
  | some x =>
    cases h2 : fndS m n with
    | none => simp only [Option.getD_none, Option.getD_some, (fndS_some h1).2, he, b1, Bool.false_and]; simp
    | some y => simp only [Option.getD_some, (fndS_some h1).2, (fndS_some h2).2]; simp
theorem getS_there (n : ByteArray) (h : 1 ≤ n.size) (l : List S71) : ((getS l n).f0.toList = ([] : List UInt8) ↔ (thS l n).2 = false) ∧ ((thS l n).2 = true → getS l n = ⟨n, (thS l n).1⟩) := by
  have hn := toList_ne h
  unfold getS thS
  cases h1 : fndS l n with
  | none => exact ⟨by simp [ByteArray.toList_eq], fun e => by cases e⟩
  | some x =>
    have e := (fndS_some h1).2
    refine ⟨by simp [e, hn], fun _ => ?_⟩
    rw [← e]
    rfl

def confP (base a b : List S71) (n : ByteArray) : Bool := !keepT (thS base n) (thS a n) (thS b n)
def confL (base a b : List S71) : List ByteArray := ((nmB base a b).map mkB).filter (confP base a b)

theorem Ev.succ {α : Type} {g : Nat → Option α} {r : α} (h : Ev (fun k => g (k + 1)) r) : Ev g r := Ev.step (fun _ => rfl) h
theorem Ev.now' {α : Type} {a b : α} (h : a = b) : Ev (fun _ => some a) b := h ▸ Ev.now a
theorem Ev.uniq {α : Type} {g : Nat → Option α} {a b : α} (h : Ev g a) (k : Ev g b) : a = b := by
  obtain ⟨K, h⟩ := h
  obtain ⟨K', k⟩ := k
  have h1 := h (max K K') (by omega)
  have h2 := k (max K K') (by omega)
  rw [h1] at h2
  exact Option.some.inj h2
theorem lit_i64 {x : Int} (h : (Lit.int .i64 x).wf = true) : -9223372036854775808 ≤ x ∧ x ≤ 9223372036854775807 := by
  have h2 : (decide (IntKind.i64.min ≤ x) && decide (x ≤ IntKind.i64.max)) = true := h
  simp only [Bool.and_eq_true, decide_eq_true_eq] at h2
  exact h2
/-- A loop over a list: on with another state, or out. -/
def runL {α σ ρ : Type} (body : Nat → σ → α → σ ⊕ ρ) (fin : σ → ρ) : Nat → List α → σ → ρ
  | _, [], s => fin s
  | i, x :: xs, s => match body i s x with | .inl s' => runL body fin (i + 1) xs s' | .inr r => r
theorem ev_run {α σ ρ : Type} (L : Nat → σ → Int → Option ρ) (body : Nat → σ → α → σ ⊕ ρ) (f : σ → ρ) (xs : List α) (d : α) (I : Nat → σ → Prop) (s0 : σ) (h0 : I 0 s0)
    (step : ∀ i s, i < xs.length → I i s → ∀ r, (match body i s (xs.getD i d) with | .inl s' => I (i + 1) s' ∧ Ev (fun k => L k s' ((i : Int) + 1)) r | .inr r' => r' = r) → Ev (fun k => L k s i) r)
    (keep : ∀ i s s', i < xs.length → I i s → body i s (xs.getD i d) = .inl s' → I (i + 1) s')
    (fin : ∀ s, I xs.length s → Ev (fun k => L k s xs.length) (f s)) : Ev (fun k => L k s0 0) (runL body f 0 xs s0) := by
  have key : ∀ (m i : Nat) (s : σ), i + m = xs.length → I i s → Ev (fun k => L k s (i : Int)) (runL body f i (xs.drop i) s) := by
    intro m
    induction m with
    | zero =>
      intro i s hi hI
      have : i = xs.length := by omega
      subst this
      rw [List.drop_length]
      exact fin s hI
    | succ m ih =>
      intro i s hi hI
      have hlt : i < xs.length := by omega
      refine step i s hlt hI _ ?_
      rw [List.drop_eq_getElem_cons hlt]
      simp only [runL]
      rw [← getD_lt d hlt]
      cases hb : body i s (xs.getD i d) with
      | inl s' => exact ⟨keep i s s' hlt hI hb, ih (i + 1) s' (by omega) (keep i s s' hlt hI hb)⟩
      | inr r => rfl
  exact key xs.length 0 s0 (by omega) h0

/-- A loop that makes at most one element out of each. -/
theorem ev_filterMap {α β ρ : Type} (L : Nat → List β → Int → Option ρ) (xs : List α) (d : α) (g : α → Option β) (r : ρ)
    (step : ∀ (i : Nat) (acc : List β), i < xs.length → acc.length ≤ i → Ev (fun k => L k (acc ++ (g (xs.getD i d)).toList) ((i : Int) + 1)) r → Ev (fun k => L k acc (i : Int)) r)
    (fin : Ev (fun k => L k (xs.filterMap g) (xs.length : Int)) r) : Ev (fun k => L k [] 0) r := by
  have key : ∀ (m i : Nat), i + m = xs.length → Ev (fun k => L k ((xs.take i).filterMap g) (i : Int)) r := by
    intro m
    induction m with
    | zero =>
      intro i hi
      have : i = xs.length := by omega
      subst this
      rw [List.take_length]
      exact fin
    | succ m ih =>
      intro i hi
      have hlt : i < xs.length := by omega
      have h1 : ((xs.take i).filterMap g).length ≤ i := Nat.le_trans (List.length_filterMap_le _ _) (by rw [List.length_take]; omega)
      refine step i _ hlt h1 ?_
      have h := ih (i + 1) (by omega)
      rw [take_succ_getD xs d hlt, List.filterMap_append] at h
      cases hg : g (xs.getD i d) with
      | none =>
        simp only [List.filterMap_cons, hg, List.filterMap_nil, Option.toList] at h ⊢
        exact h
      | some y =>
        simp only [List.filterMap_cons, hg, List.filterMap_nil, Option.toList] at h ⊢
        exact h
  exact key xs.length 0 (by omega)

def mrgT (base a b : List S71) (n : ByteArray) : Int × Bool := if sameT (thS a n) (thS base n) = true then thS b n else thS a n
def mrgO (base a b : List S71) (n : ByteArray) : Option S71 := if (mrgT base a b n).2 = true then some ⟨n, (mrgT base a b n).1⟩ else none
def mrgL (base a b : List S71) : List S71 := ((nmB base a b).map mkB).filterMap (mrgO base a b)
def mrgR (base a b : List S71) : List S71 × Int := if (confL base a b).length > 0 then ([], 6) else if (mrgL base a b).length > 24 then ([], 5) else (mrgL base a b, 0)

theorem implThing_ev (l : List S71) (n : ByteArray) (hl : l.length ≤ 1048576) : Ev (fun k => impl_thingAt.f k l n) (thS l n) := by
  have hat : ∀ (m i : Nat), i + m = l.length → Ev (fun k => impl_valueAt.l0 k n l l.length i) (thS (l.drop i) n) := by
    intro m
    induction m with
    | zero =>
      intro i hi
      rw [List.drop_of_length_le (by omega)]
      refine Ev.succ ?_
      simp (disch := omega) only [impl_valueAt.l0, if_neg]
      exact Ev.now _
    | succ m ih =>
      intro i hi
      have hlt : i < l.length := by omega
      refine Ev.succ ?_
      simp (disch := omega) only [impl_valueAt.l0, if_pos, rdSt, getD_lt _ hlt, beqB, w64]
      rw [List.drop_eq_getElem_cons hlt]
      by_cases hn : l[i].f0 = n
      · have e : thS (l[i] :: l.drop (i + 1)) n = (l[i].f1, true) := by unfold thS fndS; simp only [List.find?_cons, hn, decide_true]
        rw [e]
        simp only [hn, if_true]
        exact Ev.now _
      · have e : thS (l[i] :: l.drop (i + 1)) n = thS (l.drop (i + 1)) n := by unfold thS fndS; simp only [List.find?_cons, hn, decide_false]
        rw [e]
        simp only [hn, if_false]
        exact ih (i + 1) (by omega)
  have h := hat l.length 0 (by omega)
  rw [List.drop_zero] at h
  unfold impl_thingAt.f
  exact Ev.bind (show Ev (fun k => impl_valueAt.f k l n) (thS l n) from h) (Ev.now _)

/-- A loop that keeps some elements of a list. -/
theorem ev_filter {α ρ : Type} (L : Nat → List α → Int → Option ρ) (xs : List α) (d : α) (p : α → Bool) (r : ρ)
    (step : ∀ (i : Nat) (acc : List α), i < xs.length → acc.length ≤ i → Ev (fun k => L k (if p (xs.getD i d) = true then acc ++ [xs.getD i d] else acc) ((i : Int) + 1)) r → Ev (fun k => L k acc (i : Int)) r)
    (fin : Ev (fun k => L k (xs.filter p) (xs.length : Int)) r) : Ev (fun k => L k [] 0) r := by
  have key : ∀ (m i : Nat), i + m = xs.length → Ev (fun k => L k ((xs.take i).filter p) (i : Int)) r := by
    intro m
    induction m with
    | zero =>
      intro i hi
      have : i = xs.length := by omega
      subst this
      rw [List.take_length]
      exact fin
    | succ m ih =>
      intro i hi
      have hlt : i < xs.length := by omega
      have h1 : ((xs.take i).filter p).length ≤ i := Nat.le_trans (List.length_filter_le _ _) (by rw [List.length_take]; omega)
      refine step i _ hlt h1 ?_
      have h := ih (i + 1) (by omega)
      rw [take_succ_getD xs d hlt, List.filter_append, List.filter_cons] at h
      split
      · rename_i hp
        simp only [hp, if_true, List.filter_nil] at h
        exact h
      · rename_i hp
        simp only [hp, Bool.false_eq_true, if_false, List.filter_nil, List.append_nil] at h
        exact h
  exact key xs.length 0 (by omega)

theorem ev_each {α β : Type} (f : α → Nat → Option β) (g : α → β) : ∀ xs : List α, (∀ x ∈ xs, Ev (f x) (g x)) → ∃ K, ∀ k, K ≤ k → ∀ x ∈ xs, f x k = some (g x)
  | [], _ => ⟨0, fun _ _ x hx => by cases hx⟩
  | y :: ys, h => by
    obtain ⟨K, hK⟩ := ev_each f g ys (fun x hx => h x (List.mem_cons_of_mem _ hx))
    obtain ⟨K', hK'⟩ := h y List.mem_cons_self
    refine ⟨max K K', fun k hk x hx => ?_⟩
    rcases List.mem_cons.1 hx with e | m
    · subst e; exact hK' k (by omega)
    · exact hK k (by omega) x m

/-- A loop that appends one element a round. -/
theorem ev_build {β ρ : Type} (L : Nat → List β → Int → Option ρ) (n : Nat) (f : Nat → β) (r : ρ)
    (step : ∀ i acc, i < n → acc.length = i → acc = (List.range i).map f → Ev (fun k => L k (acc ++ [f i]) ((i + 1 : Nat) : Int)) r → Ev (fun k => L k acc (i : Int)) r)
    (fin : Ev (fun k => L k ((List.range n).map f) (n : Int)) r) : Ev (fun k => L k [] 0) r := by
  have key : ∀ (m i : Nat), i + m = n → Ev (fun k => L k ((List.range i).map f) (i : Int)) r := by
    intro m
    induction m with
    | zero =>
      intro i hi
      have : i = n := by omega
      subst this
      exact fin
    | succ m ih =>
      intro i hi
      refine step i _ (by omega) (by simp) rfl ?_
      have := ih (i + 1) (by omega)
      rwa [List.range_succ, List.map_append] at this
  exact key n 0 (by omega)
/-- A loop that stores one element a round. -/
theorem ev_fill {β ρ : Type} (L : Nat → List β → Int → Option ρ) (base : List β) (d : β) (f : Nat → β) (r : ρ)
    (step : ∀ i acc, i < base.length → acc.length = base.length → acc.getD i d = base.getD i d → Ev (fun k => L k (acc.set i (f i)) ((i + 1 : Nat) : Int)) r → Ev (fun k => L k acc (i : Int)) r)
    (fin : Ev (fun k => L k ((List.range base.length).map f) (base.length : Int)) r) : Ev (fun k => L k base 0) r := by
  have key : ∀ (m i : Nat), i + m = base.length → Ev (fun k => L k ((List.range i).map f ++ base.drop i) (i : Int)) r := by
    intro m
    induction m with
    | zero =>
      intro i hi
      have : i = base.length := by omega
      subst this
      rw [List.drop_length, List.append_nil]
      exact fin
    | succ m ih =>
      intro i hi
      have hlt : i < base.length := by omega
      refine step i _ hlt (by simp; omega) ?_ ?_
      · rw [List.getD_eq_getElem?_getD, List.getD_eq_getElem?_getD, List.getElem?_append_right (by simp)]
        simp
      · have := ih (i + 1) (by omega)
        rw [List.range_succ, List.map_append, List.append_assoc] at this
        have e : ((List.range i).map f ++ base.drop i).set i (f i) = (List.range i).map f ++ ([i].map f ++ base.drop (i + 1)) := by
          rw [List.set_append_right _ _ (by simp), List.drop_eq_getElem_cons hlt, List.length_map, List.length_range, Nat.sub_self, List.set_cons_zero]
          rfl
        rw [e]
        exact this
  exact key base.length 0 (by omega)
theorem getD_map_range {β : Type} (n : Nat) (f : Nat → β) (d : β) {i : Nat} (h : i < n) : ((List.range n).map f).getD i d = f i := by
  rw [List.getD_eq_getElem?_getD, List.getElem?_map, List.getElem?_range h]; rfl

theorem implNames_eq (base a b : List S71) (h0 : base.length ≤ 24) (h1 : a.length ≤ 24) (h2 : b.length ≤ 24) : impl_namesOf.f [base, a, b] = some ((nmB base a b).map mkB) := by
  unfold impl_namesOf.f
  have e : [base, a, b].flatten = base ++ (a ++ b) := by simp
  rw [if_pos ⟨by simp, by rw [e]; simp; omega⟩, e]
  unfold namL nmB
  rw [fold_eq_compact]
  rfl
theorem implConf_ev (base a b : List S71) (h0 : base.length ≤ 24) (h1 : a.length ≤ 24) (h2 : b.length ≤ 24) : Ev (fun k => impl_conflictsOf.f k base a b) (confL base a b) := by
  unfold impl_conflictsOf.f
  rw [implNames_eq base a b h0 h1 h2]
  simp only [Option.bind_some]
  have hlen := nmB_len base a b
  have hlen2 : ((nmB base a b).map mkB).length ≤ 100 := by rw [List.length_map]; omega
  unfold confL
  generalize (nmB base a b).map mkB = ns at hlen2 ⊢
  obtain ⟨K0, e0⟩ := ev_each (fun n k => impl_thingAt.f k base n) (thS base) ns (fun n _ => implThing_ev base n (by omega))
  obtain ⟨K1, e1⟩ := ev_each (fun n k => impl_thingAt.f k a n) (thS a) ns (fun n _ => implThing_ev a n (by omega))
  obtain ⟨K2, e2⟩ := ev_each (fun n k => impl_thingAt.f k b n) (thS b) ns (fun n _ => implThing_ev b n (by omega))
  refine ⟨max K0 (max K1 K2), fun k hk => ?_⟩
  have e0 := e0 k (by omega)
  have e1 := e1 k (by omega)
  have e2 := e2 k (by omega)
  refine (if_pos ⟨by omega, fun x hx => by rw [e0 x hx, e1 x hx, e2 x hx]; simp⟩).trans ?_
  congr 1
  refine List.filter_congr fun x hx => ?_
  unfold thgT confP
  rw [e0 x hx, e1 x hx, e2 x hx]
  rfl

theorem implMrg_ev (base a b : List S71) (h0 : base.length ≤ 24) (h1 : a.length ≤ 24) (h2 : b.length ≤ 24) : Ev (fun k => impl_MergeStates.j0 k base a b false) (mrgR base a b) := by
  refine Ev.succ ?_
  simp only [impl_MergeStates.j0, Bool.false_eq_true, if_false]
  unfold mrgR
  refine Ev.bind (implConf_ev base a b h0 h1 h2) ?_
  by_cases hc : (confL base a b).length > 0
  · rw [if_pos hc]
    simp only [show ((confL base a b).length : Int) > 0 by omega, if_true]
    exact Ev.now _
  · rw [if_neg hc]
    simp only [show ¬ ((confL base a b).length : Int) > 0 by omega, if_false, implNames_eq base a b h0 h1 h2, Option.bind_some]
    have hlen := nmB_len base a b
    have hlen2 : ((nmB base a b).map mkB).length ≤ 100 := by rw [List.length_map]; omega
    unfold mrgL
    generalize (nmB base a b).map mkB = ns at hlen2 ⊢
    refine ev_filterMap (fun k acc i => impl_MergeStates.l0 k base a b acc ns ns.length i) ns ByteArray.empty (mrgO base a b) _ (fun i acc hi ha hs => ?_) ?_
    · have er : rdOf ByteArray.empty ns (i : Int) = ns.getD i ByteArray.empty := by unfold rdOf; rw [Int.toNat_natCast]
      generalize (if (ns.filterMap (mrgO base a b)).length > 24 then ([], 5) else (ns.filterMap (mrgO base a b), 0) : List S71 × Int) = R at hs ⊢
      refine Ev.succ ?_
      simp (disch := omega) only [impl_MergeStates.l0, if_pos, w64, er]
      generalize ns.getD i ByteArray.empty = n at hs ⊢
      refine Ev.bind (implThing_ev a n (by omega)) ?_
      refine Ev.bind (implThing_ev base n (by omega)) ?_
      have q1 : ∀ u v : Int × Bool, (u.1 == v.1 && (u.2 == v.2)) = sameT u v := fun u v => rfl
      simp only [q1]
      unfold mrgO mrgT at hs
      by_cases hs2 : sameT (thS a n) (thS base n) = true
      · simp only [hs2, if_true] at hs ⊢
        refine Ev.bind (implThing_ev b n (by omega)) ?_
        cases ht : (thS b n).2 with
        | false =>
          simp only [ht, Bool.false_eq_true, if_false, Option.toList, List.append_nil] at hs ⊢
          exact hs
        | true =>
          simp only [ht, if_true, Option.toList] at hs ⊢
          (try simp (disch := omega) only [if_pos])
          exact hs
      · simp only [hs2, Bool.false_eq_true, if_false] at hs ⊢
        cases ht : (thS a n).2 with
        | false =>
          simp only [ht, Bool.false_eq_true, if_false, Option.toList, List.append_nil] at hs ⊢
          exact hs
        | true =>
          simp only [ht, if_true, Option.toList] at hs ⊢
          (try simp (disch := omega) only [if_pos])
          exact hs
    · refine Ev.succ ?_
      simp only [impl_MergeStates.l0, Int.lt_irrefl, if_false]
      by_cases h24 : (ns.filterMap (mrgO base a b)).length > 24
      · simp only [h24, if_true, show ((ns.filterMap (mrgO base a b)).length : Int) > 24 by omega]
        exact Ev.now _
      · simp only [h24, if_false, show ¬ ((ns.filterMap (mrgO base a b)).length : Int) > 24 by omega]
        exact Ev.now _

theorem key_inj {α : Type} (key : α → Bs) : ∀ {l : List α}, (l.map key).Pairwise (· < ·) → ∀ {x y}, x ∈ l → y ∈ l → key x = key y → x = y
  | [], _, _, _, hx, _, _ => by cases hx
  | z :: l, h, x, y, hx, hy, e => by
    rw [List.map_cons] at h
    obtain ⟨h1, h2⟩ := List.pairwise_cons.1 h
    rcases List.mem_cons.1 hx with hx1 | hx1
    · rcases List.mem_cons.1 hy with hy1 | hy1
      · rw [hx1, hy1]
      · exact absurd (h1 _ (List.mem_map.2 ⟨y, hy1, rfl⟩)) (by rw [← hx1, e]; exact bs_irr _)
    · rcases List.mem_cons.1 hy with hy1 | hy1
      · exact absurd (h1 _ (List.mem_map.2 ⟨x, hx1, rfl⟩)) (by rw [← hy1, e]; exact bs_irr _)
      · exact key_inj key h2 hx1 hy1 e
theorem strict_extk {α : Type} (key : α → Bs) : ∀ {l m : List α}, (l.map key).Pairwise (· < ·) → (m.map key).Pairwise (· < ·) → (∀ x, x ∈ l ↔ x ∈ m) → l = m
  | [], [], _, _, _ => rfl
  | [], y :: m, _, _, h => by have := (h y).2 List.mem_cons_self; cases this
  | x :: l, [], _, _, h => by have := (h x).1 List.mem_cons_self; cases this
  | x :: l, y :: m, h1, h2, h => by
    rw [List.map_cons] at h1 h2
    obtain ⟨a1, b1⟩ := List.pairwise_cons.1 h1
    obtain ⟨a2, b2⟩ := List.pairwise_cons.1 h2
    have e : x = y := by
      rcases List.mem_cons.1 ((h x).1 List.mem_cons_self) with e | hx
      · exact e
      · rcases List.mem_cons.1 ((h y).2 List.mem_cons_self) with e | hy
        · exact e.symm
        · exact absurd (bs_tr (a2 _ (List.mem_map.2 ⟨x, hx, rfl⟩)) (a1 _ (List.mem_map.2 ⟨y, hy, rfl⟩))) (bs_irr _)
    subst e
    congr 1
    refine strict_extk key b1 b2 (fun z => ⟨fun hz => ?_, fun hz => ?_⟩)
    · rcases List.mem_cons.1 ((h z).1 (List.mem_cons_of_mem _ hz)) with rfl | h3
      · exact absurd (a1 _ (List.mem_map.2 ⟨z, hz, rfl⟩)) (bs_irr _)
      · exact h3
    · rcases List.mem_cons.1 ((h z).2 (List.mem_cons_of_mem _ hz)) with rfl | h3
      · exact absurd (a2 _ (List.mem_map.2 ⟨z, hz, rfl⟩)) (bs_irr _)
      · exact h3

theorem nmB_strict (base a b : List S71) : (nmB base a b).Pairwise (· < ·) := (foldU_spec _ [] List.Pairwise.nil).1
theorem nmB_iff (base a b : List S71) (x : Bs) : x ∈ nmB base a b ↔ x ∈ base.map skey ∨ x ∈ a.map skey ∨ x ∈ b.map skey := by
  unfold nmB
  rw [(foldU_spec _ [] List.Pairwise.nil).2]
  simp only [List.map_append, List.mem_append, List.not_mem_nil, or_false]
theorem nmB_swap (base a b : List S71) : nmB base a b = nmB base b a := by
  refine strict_extk id (by rw [List.map_id]; exact nmB_strict _ _ _) (by rw [List.map_id]; exact nmB_strict _ _ _) (fun x => ?_)
  rw [nmB_iff, nmB_iff]
  exact ⟨fun h => h.imp_right Or.symm, fun h => h.imp_right Or.symm⟩
theorem fndS_mem {l : List S71} (h : (l.map skey).Pairwise (· < ·)) {x : S71} (hx : x ∈ l) : fndS l x.f0 = some x := by
  cases hf : fndS l x.f0 with
  | none =>
    unfold fndS at hf
    have := List.find?_eq_none.1 hf x hx
    simp at this
  | some y =>
    obtain ⟨hy, e⟩ := fndS_some hf
    rw [key_inj skey h hy hx (by unfold skey; rw [e])]
/-- All the names in order, each with its setting: the state itself. -/
theorem pick_all {l : List S71} (h : (l.map skey).Pairwise (· < ·)) {ns : List Bs} (hn : ns.Pairwise (· < ·)) (hs : ∀ x ∈ l, skey x ∈ ns) : (ns.map mkB).filterMap (fndS l) = l := by
  refine strict_extk skey ?_ h (fun x => ?_)
  · rw [List.pairwise_map, List.pairwise_filterMap, List.pairwise_map]
    refine hn.imp fun {p q} hpq b hb b' hb' => ?_
    have e1 : skey b = p := by unfold skey; rw [(fndS_some hb).2]; rfl
    have e2 : skey b' = q := by unfold skey; rw [(fndS_some hb').2]; rfl
    rw [e1, e2]
    exact hpq
  · rw [List.mem_filterMap]
    constructor
    · rintro ⟨n, _, hn⟩
      exact (fndS_some hn).1
    · intro hx
      exact ⟨x.f0, List.mem_map.2 ⟨skey x, hs x hx, rfl⟩, fndS_mem h hx⟩
theorem thS_fnd (l : List S71) (n : ByteArray) : (if (thS l n).2 = true then some (⟨n, (thS l n).1⟩ : S71) else none) = fndS l n := by
  unfold thS
  cases hf : fndS l n with
  | none => rfl
  | some x => simp only [if_true]; rw [← (fndS_some hf).2]
theorem sameT_iff (u v : Int × Bool) : sameT u v = true ↔ u = v := by
  unfold sameT
  rw [Bool.and_eq_true, beq_iff_eq, beq_iff_eq]
  exact ⟨fun h => Prod.ext h.1 h.2, fun h => by rw [h]; exact ⟨rfl, rfl⟩⟩
/-- Where one side alone has changed, or both alike, the merge is that side. -/
theorem mrg_one {base a b r : List S71} (hr : (r.map skey).Pairwise (· < ·)) (hl : r.length ≤ 24) (hs : ∀ x ∈ r, skey x ∈ nmB base a b) (hc : ∀ n, confP base a b n = false) (ht : ∀ n, mrgT base a b n = thS r n) : mrgR base a b = (r, 0) := by
  have e : mrgL base a b = r := by
    unfold mrgL
    have e1 : mrgO base a b = fndS r := by funext n; unfold mrgO; rw [ht n]; exact thS_fnd r n
    rw [e1]
    exact pick_all hr (nmB_strict _ _ _) hs
  have e2 : confL base a b = [] := by unfold confL; exact List.filter_eq_nil_iff.2 (fun n _ => by rw [hc n]; simp)
  unfold mrgR
  rw [e2, e, if_neg (by simp), if_neg (by omega)]
theorem mrg_left {base a : List S71} (ha : (a.map skey).Pairwise (· < ·)) (hl : a.length ≤ 24) : mrgR base a base = (a, 0) := by
  refine mrg_one ha hl (fun x hx => (nmB_iff _ _ _ _).2 (.inr (.inl (List.mem_map.2 ⟨x, hx, rfl⟩)))) (fun n => ?_) (fun n => ?_)
  · unfold confP keepT
    have : sameT (thS base n) (thS base n) = true := (sameT_iff _ _).2 rfl
    simp [this]
  · unfold mrgT
    split
    · rename_i h; exact ((sameT_iff _ _).1 h).symm
    · rfl
theorem mrg_right {base a : List S71} (ha : (a.map skey).Pairwise (· < ·)) (hl : a.length ≤ 24) : mrgR base base a = (a, 0) := by
  refine mrg_one ha hl (fun x hx => (nmB_iff _ _ _ _).2 (.inr (.inr (List.mem_map.2 ⟨x, hx, rfl⟩)))) (fun n => ?_) (fun n => ?_)
  · unfold confP keepT
    have : sameT (thS base n) (thS base n) = true := (sameT_iff _ _).2 rfl
    simp [this]
  · unfold mrgT
    rw [if_pos ((sameT_iff _ _).2 rfl)]
theorem mrg_both {base a : List S71} (ha : (a.map skey).Pairwise (· < ·)) (hl : a.length ≤ 24) : mrgR base a a = (a, 0) := by
  refine mrg_one ha hl (fun x hx => (nmB_iff _ _ _ _).2 (.inr (.inl (List.mem_map.2 ⟨x, hx, rfl⟩)))) (fun n => ?_) (fun n => ?_)
  · unfold confP keepT
    have : sameT (thS a n) (thS a n) = true := (sameT_iff _ _).2 rfl
    simp [this]
  · unfold mrgT
    split <;> rfl

def SrcOk (l0 : List Int) : Prop := l0.length ≤ 1048576 ∧ ∀ x ∈ l0, 0 ≤ x ∧ x ≤ 255
theorem wrapu64_rng (n : Int) : 0 ≤ IntKind.u64.wrap n ∧ IntKind.u64.wrap n < 18446744073709551616 := by
  have e : IntKind.u64.wrap n = n % 18446744073709551616 := by simp [IntKind.wrap, IntKind.bits, IntKind.signed]
  rw [e]
  omega
theorem seed_byte (n : Int) : 0 ≤ Go.bits .and .u64 (IntKind.u64.wrap n / 1099511627776) 255 ∧ Go.bits .and .u64 (IntKind.u64.wrap n / 1099511627776) 255 ≤ 255 := by
  obtain ⟨h0, h1⟩ := wrapu64_rng n
  have e := bits_mask .u64 32 (by decide) (fun m a b => by
    have e : IntKind.u64.wrap m = m % 18446744073709551616 := by simp [IntKind.wrap, IntKind.bits, IntKind.signed]
    rw [e]; omega) 8 (by decide) (IntKind.u64.wrap n / 1099511627776) (by omega) (by omega)
  have e2 : Go.bits .and .u64 (IntKind.u64.wrap n / 1099511627776) 255 = (IntKind.u64.wrap n / 1099511627776) % 256 := e
  rw [e2]
  omega
theorem next_eq {l0 : List Int} (h : SrcOk l0) (s t : Int) (h0 : 0 ≤ s) (h1 : s ≤ 1000000000000) : ∃ r t', spec_l00Src_next.f l0 s t = some (r, s + 1, t') ∧ 0 ≤ r ∧ r ≤ 255 := by
  obtain ⟨hl, hx⟩ := h
  unfold spec_l00Src_next.f
  rw [w64 (x := s + 1) (by omega) (by omega)]
  have hb : ∀ n, ∃ t', (some (wrap64 (Go.bits .and .u64 ((IntKind.u64.wrap n) / 1099511627776) 255), s + 1, IntKind.u64.wrap n) : Option (Int × Int × Int)) = some (wrap64 (Go.bits .and .u64 ((IntKind.u64.wrap n) / 1099511627776) 255), s + 1, t') := fun n => ⟨_, rfl⟩
  by_cases c : s < (l0.length : Int)
  · rw [if_pos c, if_pos h0, if_pos (by omega)]
    have hr : 0 ≤ rd l0 s ∧ rd l0 s ≤ 255 := by
      have e : rd l0 s = l0.getD s.toNat 0 := rfl
      rw [e]
      exact hx _ (getD_mem 0 (by omega))
    rw [w64 (x := rd l0 s) (by omega) (by omega)]
    exact ⟨_, _, rfl, hr.1, hr.2⟩
  · rw [if_neg c]
    by_cases d : s + 1 ≤ (l0.length : Int)
    · omega
    · rw [if_neg d]
      refine ⟨_, _, rfl, ?_⟩
      have hb := seed_byte ((IntKind.u64.wrap ((IntKind.u64.wrap (t * 6364136223846793005)) + 0)) + 1442695040888963407)
      rw [w64 (by omega) (by omega)]
      exact hb
theorem pick_eq {l0 : List Int} (h : SrcOk l0) (s t n : Int) (h0 : 0 ≤ s) (h1 : s ≤ 900000000000) (hn : 1 ≤ n) (hn2 : n ≤ 60000) : ∃ r s' t', spec_l00Src_pick.f l0 s t n = some (r, s', t') ∧ 0 ≤ r ∧ r < n ∧ s ≤ s' ∧ s' ≤ s + 2 := by
  unfold spec_l00Src_pick.f
  by_cases c : n ≤ 1
  · rw [if_pos c]
    exact ⟨_, _, _, rfl, by omega, by omega, by omega, by omega⟩
  · rw [if_neg c]
    obtain ⟨r, t', e, r0, r1⟩ := next_eq h s t h0 (by omega)
    rw [e]
    simp only [Option.bind_some]
    by_cases d : n > 200
    · rw [if_pos d]
      obtain ⟨r2, t2, e2, r20, r21⟩ := next_eq h (s + 1) t' (by omega) (by omega)
      rw [e2]
      simp only [Option.bind_some]
      rw [if_neg (by omega), w64 (x := r * 256) (by omega) (by omega), w64 (by omega) (by omega)]
      refine ⟨_, _, _, rfl, Int.tmod_nonneg _ (by omega), Int.tmod_lt_of_pos _ (by omega), by omega, by omega⟩
    · rw [if_neg d, if_neg (by omega)]
      refine ⟨_, _, _, rfl, Int.tmod_nonneg _ (by omega), Int.tmod_lt_of_pos _ (by omega), by omega, by omega⟩
theorem one_eq {l0 : List Int} (h : SrcOk l0) (s t n : Int) (h0 : 0 ≤ s) (h1 : s ≤ 900000000000) (hn : 1 ≤ n) (hn2 : n ≤ 60000) : ∃ r s' t', spec_l00Src_one.f l0 s t n = some (r, s', t') ∧ s ≤ s' ∧ s' ≤ s + 2 := by
  obtain ⟨r, s', t', e, _, _, a, b⟩ := pick_eq h s t n h0 h1 hn hn2
  unfold spec_l00Src_one.f
  rw [e]
  exact ⟨_, _, _, rfl, a, b⟩

theorem specSet_ev (l : List S71) (e : S71) (hl : l.length ≤ 1048576) : Ev (fun k => spec_l27Set.f k l e.f0 e.f1) (setL e l false) := by
  unfold spec_l27Set.f
  have key : ∀ (m i : Nat) (out : List S71) (done : Bool), i + m = l.length → out.length ≤ 2 * i → Ev (fun k => spec_l27Set.l0 k l out done i e.f0 e.f1) (out ++ setL e (l.drop i) done) := by
    intro m
    induction m with
    | zero =>
      intro i out done hi ho
      rw [List.drop_of_length_le (by omega)]
      refine Ev.succ ?_
      simp (disch := omega) only [spec_l27Set.l0, if_neg]
      cases done with
      | true => simp only [if_true, setL, List.append_nil]; exact Ev.now _
      | false =>
        simp only [Bool.false_eq_true, if_false, setL]
        simp (disch := omega) only [if_pos]
        exact Ev.now _
    | succ m ih =>
      intro i out done hi ho
      have hlt : i < l.length := by omega
      rw [List.drop_eq_getElem_cons hlt]
      have er : rd_T71 l (i : Int) = l[i] := by rw [rdSt, getD_lt _ hlt]
      generalize hx : l[i] = x at er
      have eta : (⟨x.f0, x.f1⟩ : S71) = x := rfl
      have eta2 : (⟨e.f0, e.f1⟩ : S71) = e := rfl
      have tailE : ∀ (out2 : List S71) (d2 : Bool), out2.length ≤ 2 * i + 1 →
          (Ev (fun k => spec_l27Set.l0 k l (out2 ++ if x.f0 = e.f0 then [] else [x]) d2 ((i : Int) + 1) e.f0 e.f1) (out2 ++ ((if x.f0 = e.f0 then [] else [x]) ++ setL e (l.drop (i + 1)) d2))) := by
        intro out2 d2 h2
        have h3 : ((if x.f0 = e.f0 then [] else [x]) : List S71).length ≤ 1 := by split <;> simp
        have h := ih (i + 1) (out2 ++ if x.f0 = e.f0 then [] else [x]) d2 (by omega) (by rw [List.length_append]; omega)
        rw [List.append_assoc] at h
        exact h
      simp only [setL]
      by_cases hc : done = false ∧ ¬ skey x < skey e
      · rw [if_pos hc]
        obtain ⟨hd, hn⟩ := hc
        subst hd
        have hb : Op.bytesLess x.f0.toList e.f0.toList = false := by
          cases hq : Op.bytesLess x.f0.toList e.f0.toList with
          | false => rfl
          | true => exact absurd ((bltB _ _).1 hq) hn
        have h := tailE (out ++ [e]) true (by rw [List.length_append, List.length_singleton]; omega)
        have h4 : (out ++ [e]).length < 5864062014805 := by rw [List.length_append, List.length_singleton]; omega
        refine Ev.succ ?_
        simp (disch := omega) only [spec_l27Set.l0, if_pos, er, hb, Bool.not_false, Bool.false_eq_true, if_false]
        refine Ev.succ ?_
        simp (disch := omega) only [spec_l27Set.j1, if_true, if_pos, er, eta, eta2, Option.bind_some, w64, beqB, h4]
        rw [show out ++ (e :: ((if x.f0 = e.f0 then [] else [x]) ++ setL e (l.drop (i + 1)) true)) = out ++ [e] ++ ((if x.f0 = e.f0 then [] else [x]) ++ setL e (l.drop (i + 1)) true) by simp]
        by_cases hne : x.f0 = e.f0
        · simp only [hne, if_true, List.append_nil] at h ⊢
          exact h
        · simp only [hne, if_false] at h ⊢
          exact h
      · rw [if_neg hc]
        have h := tailE out done (by omega)
        refine Ev.succ ?_
        have hj : Ev (fun k => spec_l27Set.j1 k l out done i false e.f0 e.f1) (out ++ ((if x.f0 = e.f0 then [] else [x]) ++ setL e (l.drop (i + 1)) done)) := by
          refine Ev.succ ?_
          simp (disch := omega) only [spec_l27Set.j1, Bool.false_eq_true, if_false, if_pos, er, eta, Option.bind_some, w64, beqB]
          by_cases hne : x.f0 = e.f0
          · simp only [hne, if_true, List.append_nil] at h ⊢
            exact h
          · simp only [hne, if_false] at h ⊢
            exact h
        cases done with
        | true =>
          simp (disch := omega) only [spec_l27Set.l0, if_pos, if_true]
          exact hj
        | false =>
          have hb : Op.bytesLess x.f0.toList e.f0.toList = true := (bltB _ _).2 (Classical.byContradiction fun h5 => hc ⟨rfl, h5⟩)
          simp (disch := omega) only [spec_l27Set.l0, if_pos, er, hb, Bool.not_true, Bool.false_eq_true, if_false]
          exact hj
  have := key l.length 0 [] false (by omega) (by simp)
  simpa using this

def six : List Bs := [[97], [98], [99], [100], [101], [102]]
def goodS (l : List S71) : Prop := (l.map skey).Pairwise (· < ·) ∧ ∀ x ∈ l, skey x ∈ six ∧ 0 ≤ x.f1 ∧ x.f1 ≤ 1000
theorem six_strict : six.Pairwise (· < ·) := by unfold six; decide
theorem goodS_len {l : List S71} (h : goodS l) : l.length ≤ 6 := by
  have e : l.map skey = six.filter (fun x => decide (x ∈ l.map skey)) := by
    refine strict_extk id (by rw [List.map_id]; exact h.1) (by rw [List.map_id]; exact six_strict.filter _) (fun x => ?_)
    rw [List.mem_filter, decide_eq_true_eq]
    refine ⟨fun hx => ⟨?_, hx⟩, fun hx => hx.2⟩
    obtain ⟨y, hy, rfl⟩ := List.mem_map.1 hx
    exact (h.2 y hy).1
  have := List.length_filter_le (fun x => decide (x ∈ l.map skey)) six
  rw [← e, List.length_map] at this
  exact this
theorem stateOk_of {l : List S71} (h1 : l.length ≤ 24) (h2 : (l.map skey).Pairwise (· < ·)) (h3 : ∀ x ∈ l, settOk x = true) : stateOk l = true := by
  unfold stateOk
  rw [Bool.and_eq_true, decide_eq_true_eq, List.all_eq_true]
  refine ⟨h1, fun i hi => ?_⟩
  have hi := List.mem_range.1 hi
  unfold settAt
  rw [Bool.and_eq_true, Bool.or_eq_true, decide_eq_true_eq, decide_eq_true_eq]
  refine ⟨h3 _ (getD_mem _ hi), ?_⟩
  by_cases h0 : i = 0
  · exact .inl h0
  · refine .inr ?_
    rw [getD_lt _ (by omega), getD_lt _ hi]
    have := List.pairwise_iff_getElem.1 h2 (i - 1) i (by rw [List.length_map]; omega) (by rw [List.length_map]; omega) (by omega)
    rw [List.getElem_map, List.getElem_map] at this
    exact this
theorem six_name : ∀ n ∈ six, nameOk (mkB n) = true := by unfold six; decide
theorem goodS_sett {l : List S71} (h : goodS l) : ∀ x ∈ l, settOk x = true := fun x hx => by
  obtain ⟨a, b, c⟩ := h.2 x hx
  have := six_name _ a
  unfold settOk
  rw [Bool.and_eq_true]
  refine ⟨this, ?_⟩
  unfold inR
  simp [b, c]
theorem goodS_ok {l : List S71} (h : goodS l) : stateOk l = true := stateOk_of (by have := goodS_len h; omega) h.1 (goodS_sett h)
theorem goodS_sub {l m : List S71} (h : goodS l) (hs : m.Sublist l) : goodS m := ⟨h.1.sublist (hs.map _), fun x hx => h.2 x (hs.subset hx)⟩
theorem setL_mem (e : S71) : ∀ (l : List S71) (d : Bool), ∀ x ∈ setL e l d, x = e ∨ x ∈ l
  | [], d, x, hx => by cases d <;> simp [setL] at hx; exact .inl hx
  | y :: l, d, x, hx => by
    simp only [setL] at hx
    have hy : ∀ z, z ∈ ((if y.f0 = e.f0 then [] else [y]) : List S71) → z = y := fun z hz => by split at hz <;> simp at hz; exact hz
    split at hx
    · rcases List.mem_cons.1 hx with hx | hx
      · exact .inl hx
      · rcases List.mem_append.1 hx with hx | hx
        · rw [hy x hx]; exact .inr List.mem_cons_self
        · exact (setL_mem e l true x hx).imp_right (List.mem_cons_of_mem _)
    · rcases List.mem_append.1 hx with hx | hx
      · rw [hy x hx]; exact .inr List.mem_cons_self
      · exact (setL_mem e l d x hx).imp_right (List.mem_cons_of_mem _)
theorem goodS_set {l : List S71} (h : goodS l) {e : S71} (h1 : skey e ∈ six) (h2 : 0 ≤ e.f1) (h3 : e.f1 ≤ 1000) : goodS (setL e l false) := by
  refine ⟨?_, fun x hx => ?_⟩
  · rw [setL_keys e l h.1]
    exact insU_strict _ _ h.1
  · rcases setL_mem e l false x hx with rfl | hx
    · exact ⟨h1, h2, h3⟩
    · exact h.2 x hx

def five5 : List ByteArray := [(⟨#[97]⟩ : ByteArray), (⟨#[98]⟩ : ByteArray), (⟨#[99]⟩ : ByteArray), (⟨#[100]⟩ : ByteArray), (⟨#[101]⟩ : ByteArray)]
theorem six_lt : ∀ i, i < 6 → ∀ a ∈ six.take i, a < six.getD i [] := by
  intro i hi
  have : i = 0 ∨ i = 1 ∨ i = 2 ∨ i = 3 ∨ i = 4 ∨ i = 5 := by omega
  rcases this with rfl | rfl | rfl | rfl | rfl | rfl <;> (unfold six; decide)
theorem six_grow : ∀ i, i < 6 → six.getD i [] ∈ six.take (i + 1) ∧ (∀ a ∈ six.take i, a ∈ six.take (i + 1)) := by
  intro i hi
  have : i = 0 ∨ i = 1 ∨ i = 2 ∨ i = 3 ∨ i = 4 ∨ i = 5 := by omega
  rcases this with rfl | rfl | rfl | rfl | rfl | rfl <;> (unfold six; decide)
theorem five_key (i : Nat) (hi : i < 5) : (rdOf ByteArray.empty five5 (i : Int)).data.toList = six.getD i [] := by
  have : i = 0 ∨ i = 1 ∨ i = 2 ∨ i = 3 ∨ i = 4 := by omega
  rcases this with rfl | rfl | rfl | rfl | rfl <;> rfl
theorem drawL_ev {l0 : List Int} (h : SrcOk l0) : ∀ (m i : Nat), i + m = 5 → ∀ (acc : List S71) (s t : Int), 0 ≤ s → s ≤ 800000000000 + 4 * i → (acc.map skey).Pairwise (· < ·) → (∀ x ∈ acc, skey x ∈ six.take i ∧ 0 ≤ x.f1 ∧ x.f1 ≤ 1000) → acc.length ≤ i →
    ∃ r s' t', Ev (fun k => spec_l27DrawState.l0 k five5 acc (i : Int) l0 s t) (r, s', t') ∧ goodS r ∧ s ≤ s' ∧ s' ≤ s + 4 * m := by
  intro m
  induction m with
  | zero =>
    intro i hi acc s t h0 h1 ha hb hl
    refine ⟨acc, s, t, Ev.succ ?_, ⟨ha, fun x hx => ⟨List.mem_of_mem_take (hb x hx).1, (hb x hx).2⟩⟩, by omega, by omega⟩
    simp only [spec_l27DrawState.l0, show ¬ (i : Int) < 5 by omega, if_false]
    exact Ev.now _
  | succ m ih =>
    intro i hi acc s t h0 h1 ha hb hl
    obtain ⟨b1, s1, t1, e1, g1, g2⟩ := one_eq h s t 2 h0 (by omega) (by omega) (by omega)
    obtain ⟨c1, c2⟩ := six_grow i (by omega)
    cases b1 with
    | false =>
      obtain ⟨r, s', t', e, hg, q1, q2⟩ := ih (i + 1) (by omega) acc s1 t1 (by omega) (by push_cast; omega) ha (fun x hx => ⟨c2 _ (hb x hx).1, (hb x hx).2⟩) (by omega)
      refine ⟨r, s', t', Ev.succ ?_, hg, by omega, by push_cast; omega⟩
      simp only [spec_l27DrawState.l0, show (i : Int) < 5 by omega, if_true, e1, Option.bind_some, Bool.false_eq_true, if_false]
      simp (disch := omega) only [w64]
      exact e
    | true =>
      obtain ⟨v, s2, t2, e2, v0, v1, g3, g4⟩ := pick_eq h s1 t1 1001 (by omega) (by omega) (by omega) (by omega)
      have hk := five_key i (by omega)
      obtain ⟨r, s', t', e, hg, q1, q2⟩ := ih (i + 1) (by omega) (acc ++ [⟨rdOf ByteArray.empty five5 (i : Int), v⟩]) s2 t2 (by omega) (by push_cast; omega) (by
        rw [List.map_append, List.pairwise_append]
        refine ⟨ha, by simp, fun a ha2 b hb2 => ?_⟩
        obtain ⟨y, hy, rfl⟩ := List.mem_map.1 ha2
        obtain rfl := List.mem_singleton.1 hb2
        show skey y < (rdOf ByteArray.empty five5 (i : Int)).data.toList
        rw [hk]
        exact six_lt i (by omega) _ (hb y hy).1) (fun x hx => by
        rcases List.mem_append.1 hx with hx | hx
        · exact ⟨c2 _ (hb x hx).1, (hb x hx).2⟩
        · obtain rfl := List.mem_singleton.1 hx
          refine ⟨?_, v0, by show v ≤ 1000; omega⟩
          show (rdOf ByteArray.empty five5 (i : Int)).data.toList ∈ _
          rw [hk]
          exact c1) (by rw [List.length_append, List.length_singleton]; omega)
      refine ⟨r, s', t', Ev.succ ?_, hg, by omega, by push_cast; omega⟩
      simp only [spec_l27DrawState.l0, show (i : Int) < 5 by omega, if_true, e1, Option.bind_some, show (0 : Int) ≤ (i : Int) by omega, show (i : Int) < ((five5.length : Nat) : Int) by simp only [five5, List.length_cons, List.length_nil]; omega, e2]
      simp (disch := omega) only [w64, if_pos]
      exact e
theorem drawState_ev {l0 : List Int} (h : SrcOk l0) (s t : Int) (h0 : 0 ≤ s) (h1 : s ≤ 800000000000) : ∃ r s' t', Ev (fun k => spec_l27DrawState.f k l0 s t) (r, s', t') ∧ goodS r ∧ s ≤ s' ∧ s' ≤ s + 20 := by
  obtain ⟨r, s', t', e, hg, q1, q2⟩ := drawL_ev h 5 0 rfl [] s t h0 (by omega) List.Pairwise.nil (fun x hx => by cases hx) (Nat.le_refl _)
  exact ⟨r, s', t', e, hg, q1, by omega⟩

def six6 : List ByteArray := [(⟨#[97]⟩ : ByteArray), (⟨#[98]⟩ : ByteArray), (⟨#[99]⟩ : ByteArray), (⟨#[100]⟩ : ByteArray), (⟨#[101]⟩ : ByteArray), (⟨#[102]⟩ : ByteArray)]
theorem six6_key (v : Int) (h0 : 0 ≤ v) (h1 : v < 6) : (rdOf ByteArray.empty six6 v).data.toList ∈ six := by
  have : v = 0 ∨ v = 1 ∨ v = 2 ∨ v = 3 ∨ v = 4 ∨ v = 5 := by omega
  rcases this with rfl | rfl | rfl | rfl | rfl | rfl <;> decide
theorem at_ev (l : List S71) (n : ByteArray) (hl : l.length ≤ 1048576) : ∃ r, Ev (fun k => spec_l27At.f k l n) r ∧ -1 ≤ r ∧ r < l.length := by
  unfold spec_l27At.f
  have key : ∀ (m i : Nat), i + m = l.length → ∃ r, Ev (fun k => spec_l27At.l0 k l n (i : Int)) r ∧ -1 ≤ r ∧ r < l.length := by
    intro m
    induction m with
    | zero =>
      intro i hi
      refine ⟨-1, Ev.succ ?_, by omega, by omega⟩
      simp only [spec_l27At.l0, show ¬ (i : Int) < (l.length : Int) by omega, if_false]
      exact Ev.now _
    | succ m ih =>
      intro i hi
      by_cases c : (rd_T71 l (i : Int)).f0.toList = n.toList
      · refine ⟨i, Ev.succ ?_, by omega, by omega⟩
        simp (disch := omega) only [spec_l27At.l0, if_pos, c]
        exact Ev.now _
      · obtain ⟨r, e, q⟩ := ih (i + 1) (by omega)
        refine ⟨r, Ev.succ ?_, q⟩
        simp only [spec_l27At.l0, show (i : Int) < (l.length : Int) by omega, show (0 : Int) ≤ (i : Int) by omega, if_true, c, if_false]
        simp (disch := omega) only [w64]
        exact e
  exact key l.length 0 (by omega)
theorem changedL_ev {l0 : List Int} (h : SrcOk l0) : ∀ (m : Nat), m ≤ 3 → ∀ (acc : List S71) (s t : Int), 0 ≤ s → s + 6 * m ≤ 890000000000 → goodS acc →
    ∃ r s' t', Ev (fun k => spec_l27Changed.l0 k acc six6 (m : Int) l0 s t) (r, s', t') ∧ goodS r ∧ s ≤ s' ∧ s' ≤ s + 6 * m := by
  intro m
  induction m with
  | zero =>
    intro hm acc s t h0 h1 ha
    refine ⟨acc, s, t, Ev.succ ?_, ha, by omega, by omega⟩
    simp only [spec_l27Changed.l0, show ¬ ((0 : Nat) : Int) > 0 by omega, if_false]
    exact Ev.now _
  | succ m ih =>
    intro hm acc s t h0 h1 ha
    have em : ((m + 1 : Nat) : Int) - 1 = (m : Int) := by omega
    have hla := goodS_len ha
    obtain ⟨v, s1, t1, e1, v0, v1, g1, g2⟩ := pick_eq h s t 6 h0 (by omega) (by omega) (by omega)
    have hk := six6_key v v0 v1
    obtain ⟨a, ea, a0, a1⟩ := at_ev acc (rdOf ByteArray.empty six6 v) (by omega)
    -- the two ways on
    have set_ : ∀ s2 t2, s1 ≤ s2 → s2 ≤ s1 + 2 → ∃ r s' t', Ev (fun k => spec_l27Changed.j1 k acc six6 ((m + 1 : Nat) : Int) (rdOf ByteArray.empty six6 v) a false l0 s2 t2) (r, s', t') ∧ goodS r ∧ s ≤ s' ∧ s' ≤ s + 6 * ((m + 1 : Nat) : Int) := by
      intro s2 t2 q1 q2
      obtain ⟨u, s3, t3, e3, u0, u1, g3, g4⟩ := pick_eq h s2 t2 1001 (by omega) (by omega) (by omega) (by omega)
      have hg := goodS_set ha (e := ⟨rdOf ByteArray.empty six6 v, u⟩) hk u0 (by show u ≤ 1000; omega)
      obtain ⟨r, s', t', e, hr, b1, b2⟩ := ih (by omega) _ s3 t3 (by omega) (by omega) hg
      refine ⟨r, s', t', Ev.succ ?_, hr, by omega, by omega⟩
      simp only [spec_l27Changed.j1, Bool.false_eq_true, if_false, e3, Option.bind_some]
      refine Ev.bind (specSet_ev acc ⟨rdOf ByteArray.empty six6 v, u⟩ (by omega)) ?_
      simp (disch := omega) only [w64]
      rw [em]
      exact e
    have del_ : ∀ s2 t2, s1 ≤ s2 → s2 ≤ s1 + 2 → 0 ≤ a → ∃ r s' t', Ev (fun k => spec_l27Changed.j1 k acc six6 ((m + 1 : Nat) : Int) (rdOf ByteArray.empty six6 v) a true l0 s2 t2) (r, s', t') ∧ goodS r ∧ s ≤ s' ∧ s' ≤ s + 6 * ((m + 1 : Nat) : Int) := by
      intro s2 t2 q1 q2 q3
      have hg : goodS (acc.take a.toNat ++ acc.drop (a + 1).toNat) := by
        refine goodS_sub ha ?_
        rw [show (a + 1).toNat = a.toNat + 1 by omega, ← List.eraseIdx_eq_take_drop_succ]
        exact List.eraseIdx_sublist _ _
      obtain ⟨r, s', t', e, hr, b1, b2⟩ := ih (by omega) _ s2 t2 (by omega) (by omega) hg
      refine ⟨r, s', t', Ev.succ ?_, hr, by omega, by omega⟩
      have hlt : (acc.take a.toNat).length ≤ 6 := by rw [List.length_take]; omega
      have hld : (acc.drop (a + 1).toNat).length ≤ 6 := by rw [List.length_drop]; omega
      simp only [spec_l27Changed.j1, if_true, Option.bind_some, List.nil_append, List.length_nil, q3, show a ≤ (acc.length : Int) by omega]
      simp (disch := omega) only [w64, if_pos]
      rw [em]
      exact e
    by_cases c : a ≥ 0
    · obtain ⟨b, s2, t2, e2, q1, q2⟩ := one_eq h s1 t1 2 (by omega) (by omega) (by omega) (by omega)
      have : ∃ r s' t', Ev (fun k => spec_l27Changed.j1 k acc six6 ((m + 1 : Nat) : Int) (rdOf ByteArray.empty six6 v) a b l0 s2 t2) (r, s', t') ∧ goodS r ∧ s ≤ s' ∧ s' ≤ s + 6 * ((m + 1 : Nat) : Int) := by
        cases b with
        | false => exact set_ s2 t2 q1 q2
        | true => exact del_ s2 t2 q1 q2 c
      obtain ⟨r, s', t', e, hr⟩ := this
      refine ⟨r, s', t', Ev.succ ?_, hr⟩
      simp only [spec_l27Changed.l0, show ((m + 1 : Nat) : Int) > 0 by omega, if_true, e1, Option.bind_some, v0, show v < ((six6.length : Nat) : Int) from v1]
      refine Ev.bind ea ?_
      simp only [c, if_true, e2, Option.bind_some]
      exact e
    · obtain ⟨r, s', t', e, hr⟩ := set_ s1 t1 (by omega) (by omega)
      refine ⟨r, s', t', Ev.succ ?_, hr⟩
      simp only [spec_l27Changed.l0, show ((m + 1 : Nat) : Int) > 0 by omega, if_true, e1, Option.bind_some, v0, show v < ((six6.length : Nat) : Int) from v1]
      refine Ev.bind ea ?_
      simp only [c, if_false]
      exact e
theorem changed_ev {l0 : List Int} (h : SrcOk l0) (l : List S71) (hl : goodS l) (s t : Int) (h0 : 0 ≤ s) (h1 : s ≤ 880000000000) : ∃ r s' t', Ev (fun k => spec_l27Changed.f k l0 s t l) (r, s', t') ∧ goodS r ∧ s ≤ s' ∧ s' ≤ s + 20 := by
  have hla := goodS_len hl
  obtain ⟨v, s1, t1, e1, v0, v1, g1, g2⟩ := pick_eq h s t 4 h0 (by omega) (by omega) (by omega)
  obtain ⟨m, rfl⟩ := Int.eq_ofNat_of_zero_le v0
  obtain ⟨r, s', t', e, hr, q1, q2⟩ := changedL_ev h m (by omega) l s1 t1 (by omega) (by omega) hl
  refine ⟨r, s', t', ?_, hr, by omega, by omega⟩
  unfold spec_l27Changed.f
  simp only [Option.bind_some, List.length_nil, List.nil_append, e1]
  simp (disch := omega) only [if_pos]
  exact e

def memos : List ByteArray := [(⟨#[]⟩ : ByteArray), (⟨#[110, 101, 119]⟩ : ByteArray), (⟨#[97, 32, 98]⟩ : ByteArray)]
def goodV (n : Nat) (v : S104) : Prop := v.f0 = (n : Int) + 1 ∧ 0 ≤ v.f1 ∧ v.f1 ≤ n ∧ v.f2 ∈ memos ∧ goodS v.f3
def goodH (l : List S104) : Prop := ∀ i, i < l.length → goodV i (l.getD i z104)
theorem goodH_snoc {l : List S104} (h : goodH l) {v : S104} (hv : goodV l.length v) : goodH (l ++ [v]) := by
  intro i hi
  rw [List.length_append, List.length_singleton] at hi
  rw [List.getD_eq_getElem?_getD]
  by_cases c : i < l.length
  · rw [List.getElem?_append_left c, ← List.getD_eq_getElem?_getD]
    exact h i c
  · have e : i = l.length := by omega
    subst e
    rw [List.getElem?_append_right (Nat.le_refl _), Nat.sub_self]
    exact hv

theorem text_eq {l0 : List Int} (h : SrcOk l0) (s t : Int) (h0 : 0 ≤ s) (h1 : s ≤ 890000000000) : ∃ r s' t', spec_l00Src_text.f l0 s t memos = some (r, s', t') ∧ r ∈ memos ∧ s ≤ s' ∧ s' ≤ s + 2 := by
  obtain ⟨v, s1, t1, e1, v0, v1, g1, g2⟩ := pick_eq h s t 3 h0 (by omega) (by omega) (by omega)
  refine ⟨rdOf ByteArray.empty memos v, s1, t1, ?_, ?_, g1, g2⟩
  · unfold spec_l00Src_text.f
    rw [show ((memos.length : Nat) : Int) = 3 from rfl, e1]
    simp only [Option.bind_some, v0, v1, if_true]
  · have : v = 0 ∨ v = 1 ∨ v = 2 := by omega
    rcases this with rfl | rfl | rfl <;> simp [memos, rdOf]
theorem drawHL_ev {l0 : List Int} (h : SrcOk l0) : ∀ (m : Nat) (acc : List S104) (s t : Int), 0 ≤ s → s + 50 * m ≤ 790000000000 → goodH acc → acc.length + m ≤ 5 →
    ∃ r s' t', Ev (fun k => spec_l27Draw.l0 k acc (m : Int) l0 s t) (r, s', t') ∧ goodH r ∧ r.length ≤ 5 := by
  intro m
  induction m with
  | zero =>
    intro acc s t h0 h1 ha hl
    refine ⟨acc, s, t, Ev.succ ?_, ha, by omega⟩
    simp only [spec_l27Draw.l0, show ¬ ((0 : Nat) : Int) > 0 by omega, if_false]
    exact Ev.now _
  | succ m ih =>
    intro acc s t h0 h1 ha hl
    have em : ((m + 1 : Nat) : Int) - 1 = (m : Int) := by omega
    obtain ⟨p, s1, t1, e1, p0, p1, g1, g2⟩ := pick_eq h s t ((acc.length : Int) + 1) h0 (by omega) (by omega) (by omega)
    obtain ⟨st, s2, t2, e2, hst, g3, g4⟩ := drawState_ev h s1 t1 (by omega) (by omega)
    by_cases c : p > 0
    · have hp := ha (p - 1).toNat (by omega)
      obtain ⟨st2, s3, t3, e3, hst2, g5, g6⟩ := changed_ev h (acc.getD (p - 1).toNat z104).f3 hp.2.2.2.2 s2 t2 (by omega) (by omega)
      obtain ⟨mm, s4, t4, e4, hmm, g7, g8⟩ := text_eq h s3 t3 (by omega) (by omega)
      obtain ⟨r, s', t', e, hr⟩ := ih (acc ++ [⟨(acc.length : Int) + 1, p, mm, st2⟩]) s4 t4 (by omega) (by omega) (goodH_snoc ha ⟨rfl, p0, by show p ≤ _; omega, hmm, hst2⟩) (by rw [List.length_append, List.length_singleton]; omega)
      refine ⟨r, s', t', Ev.succ ?_, hr⟩
      simp only [spec_l27Draw.l0, show ((m + 1 : Nat) : Int) > 0 by omega, if_true]
      simp (disch := omega) only [w64]
      rw [em]
      simp only [e1, Option.bind_some]
      refine Ev.bind e2 ?_
      simp only [c, if_true]
      simp (disch := omega) only [w64, if_pos]
      refine Ev.bind e3 ?_
      have e4 := e4
      unfold memos at e4
      simp only [e4, Option.bind_some]
      (try simp (disch := omega) only [if_pos])
      exact e
    · obtain ⟨mm, s4, t4, e4, hmm, g7, g8⟩ := text_eq h s2 t2 (by omega) (by omega)
      obtain ⟨r, s', t', e, hr⟩ := ih (acc ++ [⟨(acc.length : Int) + 1, p, mm, st⟩]) s4 t4 (by omega) (by omega) (goodH_snoc ha ⟨rfl, p0, by show p ≤ _; omega, hmm, hst⟩) (by rw [List.length_append, List.length_singleton]; omega)
      refine ⟨r, s', t', Ev.succ ?_, hr⟩
      simp only [spec_l27Draw.l0, show ((m + 1 : Nat) : Int) > 0 by omega, if_true]
      simp (disch := omega) only [w64]
      rw [em]
      simp only [e1, Option.bind_some]
      refine Ev.bind e2 ?_
      simp only [c, if_false]
      have e4 := e4
      unfold memos at e4
      simp only [e4, Option.bind_some]
      (try simp (disch := omega) only [if_pos])
      exact e
theorem drawH_ev {l0 : List Int} (h : SrcOk l0) (s t : Int) (h0 : 0 ≤ s) (h1 : s ≤ 700000000000) : ∃ r s' t', Ev (fun k => spec_l27Draw.f k l0 s t) (r, s', t') ∧ goodH r ∧ r.length ≤ 5 := by
  obtain ⟨v, s1, t1, e1, v0, v1, g1, g2⟩ := pick_eq h s t 6 h0 (by omega) (by omega) (by omega)
  obtain ⟨m, rfl⟩ := Int.eq_ofNat_of_zero_le v0
  obtain ⟨r, s', t', e, hr⟩ := drawHL_ev h m [] s1 t1 (by omega) (by omega) (fun i hi => by simp at hi) (by simp; omega)
  refine ⟨r, s', t', ?_, hr⟩
  unfold spec_l27Draw.f
  simp only [e1, Option.bind_some]
  exact e

def bothB : ByteArray := ⟨#[98, 111, 116, 104]⟩
theorem memo_bytes (b : ByteArray) (hb : b ∈ memos ∨ b = bothB) : b.size ≤ 20 ∧ ∀ i : Nat, i < b.size → 32 ≤ bt b (i : Int) ∧ bt b (i : Int) ≤ 126 := by
  unfold memos bothB at hb
  simp only [List.mem_cons, List.not_mem_nil, or_false] at hb
  rcases hb with (rfl | rfl | rfl) | rfl <;> exact ⟨by decide, by decide⟩
theorem memoS_ev (b : ByteArray) (hb : b ∈ memos ∨ b = bothB) : Ev (fun k => spec_l27Memo.f k b) true := by
  obtain ⟨h20, hx⟩ := memo_bytes b hb
  unfold spec_l27Memo.f
  have key : ∀ (m i : Nat), i + m = b.size → Ev (fun k => spec_l27Memo.l0 k b (i : Int)) true := by
    intro m
    induction m with
    | zero =>
      intro i hi
      refine Ev.succ ?_
      simp only [spec_l27Memo.l0, show ¬ (i : Int) < (b.size : Int) by omega, if_false, show ((b.size : Nat) : Int) ≤ 20 by omega, decide_true]
      exact Ev.now _
    | succ m ih =>
      intro i hi
      obtain ⟨h1, h2⟩ := hx i (by omega)
      refine Ev.succ ?_
      simp only [spec_l27Memo.l0, show (i : Int) < (b.size : Int) by omega, show (0 : Int) ≤ (i : Int) by omega, if_true, show ¬ bt b (i : Int) < 32 by omega, show ¬ bt b (i : Int) > 126 by omega, if_false]
      simp (disch := omega) only [w64]
      exact ih (i + 1) (by omega)
  exact key b.size 0 (by omega)
theorem memoI_ev (b : ByteArray) (hb : b ∈ memos ∨ b = bothB) : Ev (fun k => impl_memoValid.f k b) true := by
  obtain ⟨h20, hx⟩ := memo_bytes b hb
  unfold impl_memoValid.f
  simp only [show ((b.size : Nat) : Int) ≤ 20 by omega, if_true]
  have key : ∀ (m i : Nat), i + m = b.size → Ev (fun k => impl_bytesWithin.l0 k b 32 126 (b.size : Int) (i : Int)) true := by
    intro m
    induction m with
    | zero =>
      intro i hi
      refine Ev.succ ?_
      simp only [impl_bytesWithin.l0, show ¬ (i : Int) < (b.size : Int) by omega, if_false]
      exact Ev.now _
    | succ m ih =>
      intro i hi
      obtain ⟨h1, h2⟩ := hx i (by omega)
      refine Ev.succ ?_
      simp only [impl_bytesWithin.l0, show (i : Int) < (b.size : Int) by omega, show (0 : Int) ≤ (i : Int) by omega, if_true, show ¬ bt b (i : Int) < 32 by omega, show ¬ bt b (i : Int) > 126 by omega, if_false]
      simp (disch := omega) only [w64]
      exact ih (i + 1) (by omega)
  exact Ev.bind (key b.size 0 (by omega)) (Ev.now _)

theorem implIn_eq (a lo hi : Int) : impl_within.f a lo hi = some (inR lo hi a) := rfl

/-- A loop that looks at all elements: on, or out with b; at the end c. -/
theorem ev_all {α ρ : Type} (L : Nat → Int → Option ρ) (xs : List α) (d : α) (p : α → Bool) (b c : ρ)
    (step : ∀ i, i < xs.length → p (xs.getD i d) = true → ∀ r, Ev (fun k => L k ((i + 1 : Nat) : Int)) r → Ev (fun k => L k (i : Int)) r)
    (bad : ∀ i, i < xs.length → p (xs.getD i d) = false → Ev (fun k => L k (i : Int)) b)
    (fin : Ev (fun k => L k (xs.length : Int)) c) : Ev (fun k => L k 0) (if xs.all p = true then c else b) := by
  have key : ∀ (m i : Nat), i + m = xs.length → Ev (fun k => L k (i : Int)) (if (xs.drop i).all p = true then c else b) := by
    intro m
    induction m with
    | zero =>
      intro i hi
      have : i = xs.length := by omega
      subst this
      rw [List.drop_length]
      exact fin
    | succ m ih =>
      intro i hi
      have hlt : i < xs.length := by omega
      rw [List.drop_eq_getElem_cons hlt, List.all_cons, ← getD_lt d hlt]
      cases hp : p (xs.getD i d) with
      | true => rw [Bool.true_and]; exact step i hlt hp _ (ih (i + 1) (by omega))
      | false => rw [Bool.false_and, if_neg (by decide)]; exact bad i hlt hp
  exact key xs.length 0 (by omega)
/-- The loop that counts what is read. -/
theorem ev_sz {α : Type} (L : Nat → Int → Int → Option Int) (xs : List α) (d : α) (B : α → Prop)
    (step : ∀ i a, i < xs.length → 0 ≤ a → a ≤ 1048576 → Ev (fun k => L k a (i : Int)) (-1) ∨ (∃ a', 0 ≤ a' ∧ a' ≤ a ∧ B (xs.getD i d) ∧ ∀ r, Ev (fun k => L k a' ((i + 1 : Nat) : Int)) r → Ev (fun k => L k a (i : Int)) r))
    (fin : ∀ a, Ev (fun k => L k a (xs.length : Int)) a) : ∀ a, 0 ≤ a → a ≤ 1048576 → ∃ r, Ev (fun k => L k a 0) r ∧ (r < 0 ∨ (0 ≤ r ∧ r ≤ a ∧ ∀ x ∈ xs, B x)) := by
  have key : ∀ (m i : Nat) (a : Int), i + m = xs.length → 0 ≤ a → a ≤ 1048576 → ∃ r, Ev (fun k => L k a (i : Int)) r ∧ (r < 0 ∨ (0 ≤ r ∧ r ≤ a ∧ ∀ j, i ≤ j → j < xs.length → B (xs.getD j d))) := by
    intro m
    induction m with
    | zero =>
      intro i a hi h0 h1
      have : i = xs.length := by omega
      subst this
      exact ⟨a, fin a, .inr ⟨h0, Int.le_refl _, fun j h2 h3 => by omega⟩⟩
    | succ m ih =>
      intro i a hi h0 h1
      rcases step i a (by omega) h0 h1 with h | ⟨a', h2, h3, hB, h⟩
      · exact ⟨-1, h, .inl (by decide)⟩
      · obtain ⟨r, hr, hq⟩ := ih (i + 1) a' (by omega) h2 (by omega)
        refine ⟨r, h r hr, ?_⟩
        rcases hq with hq | ⟨q0, q1, q2⟩
        · exact .inl hq
        · refine .inr ⟨q0, by omega, fun j h4 h5 => ?_⟩
          by_cases e : j = i
          · subst e; exact hB
          · exact q2 j (by omega) h5
  intro a h0 h1
  obtain ⟨r, hr, hq⟩ := key xs.length 0 a (by omega) h0 h1
  refine ⟨r, hr, hq.imp_right fun ⟨q0, q1, q2⟩ => ⟨q0, q1, fun x hx => ?_⟩⟩
  obtain ⟨j, hj, rfl⟩ := List.mem_iff_getElem.1 hx
  rw [← getD_lt d hj]
  exact q2 j (Nat.zero_le _) hj

theorem implBytes_ev (b : ByteArray) (hb : b.size ≤ 10) : Ev (fun k => impl_onlyNameBytes.f k b) ((List.range b.size).all fun i => nameC (bt b i)) := by
  unfold impl_onlyNameBytes.f
  have key := ev_all (fun k i => impl_onlyNameBytes.l0 k b b.size i) (List.range b.size) 0 (fun i => nameC (bt b i)) false true (fun i hi hp s hs2 => ?_) (fun i hi hp => ?_) ?_
  · revert key
    cases (List.range b.size).all fun i => nameC (bt b i) <;> exact id
  · rw [List.length_range] at hi
    rw [getD_lt 0 (by simpa using hi), List.getElem_range] at hp
    refine Ev.step (fun k => ?_) hs2
    simp only [impl_onlyNameBytes.l0]
    rw [if_pos (by omega), if_pos (by omega), if_pos (by omega), w64 (by omega) (by omega)]
    simp only [nameC, smallC, digitC, Bool.or_eq_true, Bool.and_eq_true, decide_eq_true_eq] at hp
    split
    · rw [if_neg (by omega), if_neg (by omega)]; rfl
    · split
      · omega
      · rfl
  · rw [List.length_range] at hi
    rw [getD_lt 0 (by simpa using hi), List.getElem_range] at hp
    refine Ev.step (f := fun _ => some false) (fun k => ?_) (Ev.now _)
    simp only [impl_onlyNameBytes.l0]
    rw [if_pos (by omega), if_pos (by omega), if_pos (by omega)]
    simp only [nameC, smallC, digitC, Bool.or_eq_false_iff, Bool.and_eq_false_iff, decide_eq_false_iff_not] at hp
    split
    · split
      · rfl
      · rw [if_pos (by omega)]
    · split
      · rw [if_neg (by omega), if_pos (by omega)]
      · omega
  · refine Ev.step (f := fun _ => some true) (fun k => ?_) (Ev.now _)
    simp only [impl_onlyNameBytes.l0]
    rw [List.length_range, if_neg (by omega)]
theorem implName_ev (b : ByteArray) : Ev (fun k => impl_IsName.f k b) (nameOk b) := by
  unfold impl_IsName.f nameOk
  by_cases h1 : b.size < 1
  · rw [decide_eq_false (by omega), Bool.false_and]
    simp only [show (b.size : Int) < 1 by omega, if_true]
    exact Ev.now _
  · rw [decide_eq_true (show 1 ≤ b.size by omega), Bool.true_and]
    simp only [show ¬ (b.size : Int) < 1 by omega, if_false]
    by_cases h10 : b.size > 10
    · rw [decide_eq_false (show ¬ b.size ≤ 10 by omega), Bool.false_and]
      simp only [show (b.size : Int) > 10 by omega, if_true]
      exact Ev.now _
    · rw [decide_eq_true (show b.size ≤ 10 by omega), Bool.true_and]
      simp only [show ¬ (b.size : Int) > 10 by omega, if_false, show 0 < (b.size : Int) by omega, if_true]
      unfold smallC
      by_cases g1 : bt b 0 < 97
      · simp only [g1, if_true, decide_eq_false (show ¬ 97 ≤ bt b 0 by omega), Bool.false_and]
        exact Ev.now _
      · simp only [g1, if_false, decide_eq_true (show 97 ≤ bt b 0 by omega), Bool.true_and]
        by_cases g2 : bt b 0 > 122
        · simp only [g2, if_true, decide_eq_false (show ¬ bt b 0 ≤ 122 by omega), Bool.false_and]
          exact Ev.now _
        · simp only [g2, if_false, decide_eq_true (show bt b 0 ≤ 122 by omega), Bool.true_and]
          refine Ev.bind (implBytes_ev b (by omega)) ?_
          exact Ev.now _

theorem implSett_ev (x : S71) : Ev (fun k => impl_Setting_valid.f k x.f0 x.f1) (settOk x) := by
  unfold impl_Setting_valid.f settOk
  simp only [implIn_eq, Option.bind_some]
  refine Ev.bind (implName_ev x.f0) ?_
  cases nameOk x.f0 with
  | false => exact Ev.now _
  | true => exact Ev.now _
theorem implState_ev (l : List S71) (hl : l.length ≤ 1048576) : Ev (fun k => impl_ValidState.f k l) (stateOk l) := by
  unfold impl_ValidState.f stateOk
  by_cases hn : l.length > 24
  · rw [decide_eq_false (by omega), Bool.false_and]
    simp only [show (l.length : Int) > 24 by omega, if_true]
    exact Ev.now _
  rw [decide_eq_true (show l.length ≤ 24 by omega), Bool.true_and]
  simp only [show ¬ (l.length : Int) > 24 by omega, if_false]
  have key := ev_all (fun k i => impl_ValidState.l0 k l l l.length i) (List.range l.length) 0 (settAt l) false true (fun i hi hp s hs => ?_) (fun i hi hp => ?_) ?_
  · revert key
    cases (List.range l.length).all (settAt l) <;> exact id
  · rw [List.length_range] at hi
    rw [getD_lt 0 (by simpa using hi), List.getElem_range] at hp
    unfold settAt at hp
    rw [Bool.and_eq_true, Bool.or_eq_true, decide_eq_true_eq, decide_eq_true_eq] at hp
    refine Ev.succ ?_
    simp (disch := omega) only [impl_ValidState.l0, if_pos, w64, rdSt]
    have h1 := implSett_ev (l.getD i z71)
    rw [hp.1] at h1
    refine Ev.bind h1 ?_
    by_cases h0 : 0 < i
    · have := hp.2.resolve_left (by omega)
      simp (disch := omega) only [rdSts, if_pos, if_neg, bltB, this, if_true]
      exact hs
    · simp (disch := omega) only [if_pos, if_neg]
      exact hs
  · rw [List.length_range] at hi
    rw [getD_lt 0 (by simpa using hi), List.getElem_range] at hp
    unfold settAt at hp
    refine Ev.succ ?_
    simp (disch := omega) only [impl_ValidState.l0, if_pos, w64, rdSt]
    refine Ev.bind (implSett_ev (l.getD i z71)) ?_
    cases ho : settOk (l.getD i z71) with
    | false => exact Ev.now _
    | true =>
      rw [ho, Bool.true_and, Bool.or_eq_false_iff, decide_eq_false_iff_not, decide_eq_false_iff_not] at hp
      simp (disch := omega) only [rdSts, if_pos, if_neg, bltB, hp.2, if_false]
      exact Ev.now _
  · refine Ev.succ ?_
    simp only [impl_ValidState.l0, List.length_range, Int.lt_irrefl, if_false]
    exact Ev.now _

theorem rdV (l : List S104) (i : Nat) : rd_T104 l (i : Int) = l.getD i z104 := by unfold rd_T104; rw [Int.toNat_natCast]
theorem implHist_ev (l : List S104) (hl : l.length ≤ 5) (h : goodH l) : Ev (fun k => impl_ValidHistory.f k l) true := by
  unfold impl_ValidHistory.f
  simp only [show ¬ ((l.length : Nat) : Int) > 32 by omega, if_false]
  have key : ∀ (m i : Nat), i + m = l.length → Ev (fun k => impl_ValidHistory.l0 k l (l.length : Int) (i : Int)) true := by
    intro m
    induction m with
    | zero =>
      intro i hi
      refine Ev.succ ?_
      simp only [impl_ValidHistory.l0, show ¬ (i : Int) < (l.length : Int) by omega, if_false]
      exact Ev.now _
    | succ m ih =>
      intro i hi
      obtain ⟨a1, a2, a3, a4, a5⟩ := h i (by omega)
      refine Ev.succ ?_
      simp only [impl_ValidHistory.l0, show (i : Int) < (l.length : Int) by omega, show (0 : Int) ≤ (i : Int) by omega, if_true, rdV]
      simp (disch := omega) only [w64, a1, if_true]
      have hw : impl_within.f (l.getD i z104).f1 0 (i : Int) = some true := by
        unfold impl_within.f inB
        rw [decide_eq_true a2, decide_eq_true a3]
        rfl
      simp only [hw, Option.bind_some, if_true]
      refine Ev.bind (memoI_ev _ (.inl a4)) ?_
      simp only [if_true]
      have hs := implState_ev (l.getD i z104).f3 (by have := goodS_len a5; omega)
      rw [goodS_ok a5] at hs
      refine Ev.bind hs ?_
      simp only [if_true]
      exact ih (i + 1) (by omega)
  exact key l.length 0 (by omega)
theorem code_ev (l : List S104) (hl : l.length ≤ 5) (h : goodH l) (p q : Int) (p0 : 1 ≤ p) (p1 : p ≤ l.length) (q0 : 1 ≤ q) (q1 : q ≤ l.length) : Ev (fun k => impl_versionsCode.f k l [p, q]) 0 := by
  unfold impl_versionsCode.f
  refine Ev.bind (implHist_ev l hl h) ?_
  have e : impl_allWithin.f [p, q] 1 (l.length : Int) = some true := by
    unfold impl_allWithin.f inB
    simp [p0, p1, q0, q1]
  simp only [if_true, e, Option.bind_some]
  exact Ev.now _

/-- The versions from p upwards to the root. -/
def lineL (l : List S104) : Nat → Int → List Int
  | 0, _ => []
  | k + 1, p => if p > 0 then p :: lineL l k (l.getD (p - 1).toNat z104).f1 else []
theorem lineL_mem {l : List S104} (h : goodH l) : ∀ (k : Nat) (p : Int), p ≤ l.length → ∀ x ∈ lineL l k p, 1 ≤ x ∧ x ≤ p
  | 0, _, _, x, hx => by cases hx
  | k + 1, p, hp, x, hx => by
    unfold lineL at hx
    by_cases c : p > 0
    · rw [if_pos c] at hx
      obtain ⟨_, b1, b2, _⟩ := h (p - 1).toNat (by omega)
      rcases List.mem_cons.1 hx with rfl | hx
      · omega
      · have := lineL_mem h k _ (by omega) x hx
        omega
    · rw [if_neg c] at hx
      cases hx
theorem lineL_strict {l : List S104} (h : goodH l) : ∀ (k : Nat) (p : Int), p ≤ l.length → (lineL l k p).Pairwise (· > ·)
  | 0, _, _ => List.Pairwise.nil
  | k + 1, p, hp => by
    unfold lineL
    by_cases c : p > 0
    · rw [if_pos c]
      obtain ⟨_, b1, b2, _⟩ := h (p - 1).toNat (by omega)
      refine List.pairwise_cons.2 ⟨fun x hx => ?_, lineL_strict h k _ (by omega)⟩
      have := lineL_mem h k _ (by omega) x hx
      omega
    · rw [if_neg c]
      exact List.Pairwise.nil
theorem lineL_len (l : List S104) : ∀ (k : Nat) (p : Int), (lineL l k p).length ≤ k
  | 0, _ => Nat.le_refl _
  | k + 1, p => by
    unfold lineL
    split
    · have := lineL_len l k (l.getD (p - 1).toNat z104).f1
      rw [List.length_cons]; omega
    · simp
theorem lineOf_ev {l : List S104} (hl : l.length ≤ 5) (h : goodH l) : ∀ (m : Nat) (p : Int), 0 ≤ p → p < m → p ≤ l.length → ∀ (acc : List Int), acc.length + m ≤ 100 → Ev (fun k => impl_lineOf.l0 k l p acc) (acc ++ lineL l m p) := by
  intro m
  induction m with
  | zero => intro p h0 h1; omega
  | succ m ih =>
    intro p h0 h1 h2 acc ha
    refine Ev.succ ?_
    unfold lineL
    by_cases c : p > 0
    · obtain ⟨_, b1, b2, _⟩ := h (p - 1).toNat (by omega)
      have er : rd_T104 l (p - 1) = l.getD (p - 1).toNat z104 := rfl
      simp only [impl_lineOf.l0, c, if_true]
      simp (disch := omega) only [w64, if_pos, er]
      have e := ih _ b1 (by omega) (by omega) (acc ++ [p]) (by rw [List.length_append, List.length_singleton]; omega)
      rw [List.append_assoc] at e
      exact e
    · simp only [impl_lineOf.l0, c, if_false, List.append_nil]
      exact Ev.now _
theorem find_same {a b : List Int} (ha : a.Pairwise (· > ·)) (hb : b.Pairwise (· > ·)) : (a.find? fun x => decide (x ∈ b)) = (b.find? fun x => decide (x ∈ a)) := by
  have top : ∀ {a b : List Int}, a.Pairwise (· > ·) → ∀ {x}, (a.find? fun x => decide (x ∈ b)) = some x → ∀ y ∈ a, y ∈ b → y ≤ x := by
    intro a
    induction a with
    | nil => intro b _ x hx; cases hx
    | cons z a ih =>
      intro b hp x hx y hy hyb
      obtain ⟨p1, p2⟩ := List.pairwise_cons.1 hp
      rw [List.find?_cons] at hx
      by_cases c : z ∈ b
      · rw [decide_eq_true c] at hx
        obtain rfl := Option.some.inj hx
        rcases List.mem_cons.1 hy with rfl | hy
        · omega
        · have := p1 y hy; omega
      · rw [decide_eq_false c] at hx
        rcases List.mem_cons.1 hy with rfl | hy
        · exact absurd hyb c
        · exact ih p2 hx y hy hyb
  cases h1 : a.find? fun x => decide (x ∈ b) with
  | none =>
    cases h2 : b.find? fun x => decide (x ∈ a) with
    | none => rfl
    | some y =>
      have m1 := List.mem_of_find?_eq_some h2
      have m2 : y ∈ a := by simpa using List.find?_some h2
      exact absurd (decide_eq_true m1) (List.find?_eq_none.1 h1 y m2)
  | some x =>
    have m1 := List.mem_of_find?_eq_some h1
    have m2 : x ∈ b := by simpa using List.find?_some h1
    cases h2 : b.find? fun x => decide (x ∈ a) with
    | none => exact absurd (decide_eq_true m1) (List.find?_eq_none.1 h2 x m2)
    | some y =>
      have m3 := List.mem_of_find?_eq_some h2
      have m4 : y ∈ a := by simpa using List.find?_some h2
      have q1 := top ha h1 y m4 m3
      have q2 := top hb h2 x m2 m1
      congr 1
      omega

theorem contI_ev (l : List Int) (x : Int) (hl : l.length ≤ 1000) : Ev (fun k => slices_Contains_int64_int64.f k l x) (decide (x ∈ l)) := by
  unfold slices_Contains_int64_int64.f slices_Index_int64_int64.f
  have key : ∀ (m i : Nat), i + m = l.length → ∃ r, Ev (fun k => slices_Index_int64_int64.l0 k l x (l.length : Int) (i : Int)) r ∧ decide (r ≥ 0) = decide (x ∈ l.drop i) := by
    intro m
    induction m with
    | zero =>
      intro i hi
      refine ⟨-1, Ev.succ ?_, ?_⟩
      · simp only [slices_Index_int64_int64.l0, show ¬ (i : Int) < (l.length : Int) by omega, if_false]
        exact Ev.now _
      · rw [List.drop_eq_nil_of_le (by omega)]
        simp
    | succ m ih =>
      intro i hi
      have ed : l.drop i = l.getD i 0 :: l.drop (i + 1) := by
        rw [getD_lt _ (by omega)]
        exact List.drop_eq_getElem_cons (by omega)
      have er : rd l (i : Int) = l.getD i 0 := rd_nat _ _
      by_cases c : x = l.getD i 0
      · refine ⟨i, Ev.succ ?_, ?_⟩
        · simp only [slices_Index_int64_int64.l0, show (i : Int) < (l.length : Int) by omega, show (0 : Int) ≤ (i : Int) by omega, if_true, er, c]
          exact Ev.now _
        · rw [ed, decide_eq_true (show (i : Int) ≥ 0 by omega), decide_eq_true (by rw [c]; exact List.mem_cons_self)]
      · obtain ⟨r, e, q⟩ := ih (i + 1) (by omega)
        refine ⟨r, Ev.succ ?_, ?_⟩
        · simp only [slices_Index_int64_int64.l0, show (i : Int) < (l.length : Int) by omega, show (0 : Int) ≤ (i : Int) by omega, if_true, er, c, if_false]
          simp (disch := omega) only [w64]
          exact e
        · rw [q, ed]
          exact decide_eq_decide.2 ⟨fun h => List.mem_cons_of_mem _ h, fun h => (List.mem_cons.1 h).resolve_left c⟩
  obtain ⟨r, e, q⟩ := key l.length 0 (by omega)
  rw [List.drop_zero] at q
  rw [← q]
  exact Ev.bind e (Ev.now _)
def ancV (l : List S104) (p q : Int) : Int := ((lineL l 6 p).find? fun x => decide (x ∈ lineL l 6 q)).getD 0
theorem ancV_swap {l : List S104} (h : goodH l) {p q : Int} (hp : p ≤ l.length) (hq : q ≤ l.length) : ancV l p q = ancV l q p := by
  unfold ancV
  rw [find_same (lineL_strict h 6 p hp) (lineL_strict h 6 q hq)]
theorem ancV_rng {l : List S104} (h : goodH l) {p q : Int} (h0 : 0 ≤ p) (h1 : 0 ≤ q) (hp : p ≤ l.length) (hq : q ≤ l.length) : 0 ≤ ancV l p q ∧ ancV l p q ≤ p ∧ ancV l p q ≤ q := by
  unfold ancV
  cases hf : (lineL l 6 p).find? fun x => decide (x ∈ lineL l 6 q) with
  | none => exact ⟨by decide, h0, h1⟩
  | some x =>
    have m1 := lineL_mem h 6 p hp x (List.mem_of_find?_eq_some hf)
    have m2 := lineL_mem h 6 q hq x (by simpa using List.find?_some hf)
    exact ⟨by show 0 ≤ x; omega, m1.2, m2.2⟩
theorem anc_ev {l : List S104} (hl : l.length ≤ 5) (h : goodH l) (p q : Int) (p0 : 0 ≤ p) (p1 : p ≤ l.length) (q0 : 0 ≤ q) (q1 : q ≤ l.length) : Ev (fun k => impl_commonAncestor.f k l p q) (ancV l p q) := by
  unfold impl_commonAncestor.f impl_lineOf.f
  have e1 := lineOf_ev hl h 6 q q0 (by omega) q1 [] (by simp)
  have e2 := lineOf_ev hl h 6 p p0 (by omega) p1 [] (by simp)
  rw [List.nil_append] at e1 e2
  refine Ev.bind e1 (Ev.bind e2 ?_)
  unfold ancV
  have l1 := lineL_len l 6 p
  have l2 := lineL_len l 6 q
  generalize lineL l 6 p = a at l1 ⊢
  generalize lineL l 6 q = b at l2 ⊢
  have key : ∀ (m i : Nat), i + m = a.length → Ev (fun k => impl_commonAncestor.l0 k b a (a.length : Int) (i : Int)) (((a.drop i).find? fun x => decide (x ∈ b)).getD 0) := by
    intro m
    induction m with
    | zero =>
      intro i hi
      refine Ev.succ ?_
      rw [List.drop_eq_nil_of_le (by omega)]
      simp only [impl_commonAncestor.l0, show ¬ (i : Int) < (a.length : Int) by omega, if_false]
      exact Ev.now _
    | succ m ih =>
      intro i hi
      have ed : a.drop i = a.getD i 0 :: a.drop (i + 1) := by
        rw [getD_lt _ (by omega)]
        exact List.drop_eq_getElem_cons (by omega)
      have er : rd a (i : Int) = a.getD i 0 := rd_nat _ _
      have hs := ih (i + 1) (by omega)
      rw [ed, List.find?_cons]
      refine Ev.succ ?_
      simp only [impl_commonAncestor.l0, show (i : Int) < (a.length : Int) by omega, show (0 : Int) ≤ (i : Int) by omega, if_true, er]
      refine Ev.bind (contI_ev b (a.getD i 0) (by omega)) ?_
      by_cases c : a.getD i 0 ∈ b
      · simp only [decide_eq_true c, if_true]
        exact Ev.now _
      · simp only [decide_eq_false c, Bool.false_eq_true, if_false]
        simp (disch := omega) only [w64]
        exact hs
  have := key a.length 0 (by omega)
  rw [List.drop_zero] at this
  exact this

theorem sameT_comm (u v : Int × Bool) : sameT u v = sameT v u := by
  unfold sameT
  rw [Bool.beq_comm (a := u.1), Bool.beq_comm (a := u.2)]
theorem confP_swap (base a b : List S71) (n : ByteArray) : confP base a b n = confP base b a n := by
  unfold confP keepT
  rw [sameT_comm (thS a n) (thS b n)]
  congr 2
  exact Bool.or_comm _ _
theorem confL_swap (base a b : List S71) : confL base a b = confL base b a := by
  unfold confL
  rw [nmB_swap]
  exact List.filter_congr fun n _ => confP_swap base a b n
theorem mrgT_swap {base a b : List S71} {n : ByteArray} (h : confP base a b n = false) : mrgT base a b n = mrgT base b a n := by
  unfold confP keepT at h
  unfold mrgT
  by_cases c1 : thS a n = thS base n
  · rw [if_pos ((sameT_iff _ _).2 c1)]
    by_cases c2 : thS b n = thS base n
    · rw [if_pos ((sameT_iff _ _).2 c2), c1, c2]
    · rw [if_neg (fun e => c2 ((sameT_iff _ _).1 e))]
  · rw [if_neg (fun e => c1 ((sameT_iff _ _).1 e))]
    by_cases c2 : thS b n = thS base n
    · rw [if_pos ((sameT_iff _ _).2 c2)]
    · rw [if_neg (fun e => c2 ((sameT_iff _ _).1 e))]
      have d1 : sameT (thS a n) (thS base n) = false := Bool.eq_false_iff.2 (fun e => c1 ((sameT_iff _ _).1 e))
      have d2 : sameT (thS b n) (thS base n) = false := Bool.eq_false_iff.2 (fun e => c2 ((sameT_iff _ _).1 e))
      rw [d1, d2] at h
      simp only [Bool.or_false, Bool.not_eq_false'] at h
      exact (sameT_iff _ _).1 h
theorem filterMap_same {α β : Type} {f g : α → Option β} : ∀ {l : List α}, (∀ x ∈ l, f x = g x) → l.filterMap f = l.filterMap g
  | [], _ => rfl
  | x :: l, h => by rw [List.filterMap_cons, List.filterMap_cons, h x List.mem_cons_self, filterMap_same (fun y hy => h y (List.mem_cons_of_mem _ hy))]
theorem mrg_swap (base a b : List S71) : mrgR base a b = mrgR base b a := by
  unfold mrgR
  rw [confL_swap base b a]
  by_cases c : (confL base a b).length > 0
  · rw [if_pos c, if_pos c]
  · rw [if_neg c, if_neg c]
    have e : mrgL base a b = mrgL base b a := by
      unfold mrgL
      rw [nmB_swap base b a]
      refine filterMap_same fun n hn => ?_
      have hc : confP base a b n = false := by
        cases hc : confP base a b n with
        | false => rfl
        | true => exact absurd (List.length_pos_of_mem (List.mem_filter.2 ⟨hn, hc⟩)) c
      unfold mrgO
      rw [mrgT_swap hc]
    rw [e]
theorem thS_good {l : List S71} (h : goodS l) (n : ByteArray) : 0 ≤ (thS l n).1 ∧ (thS l n).1 ≤ 1000 := by
  unfold thS
  cases hf : fndS l n with
  | none => exact ⟨by decide, by decide⟩
  | some x => exact (h.2 x (fndS_some hf).1).2
theorem mrg_good {base a b : List S71} (h0 : goodS base) (h1 : goodS a) (h2 : goodS b) : goodS (mrgL base a b) := by
  unfold mrgL
  refine ⟨?_, fun x hx => ?_⟩
  · rw [List.pairwise_map, List.pairwise_filterMap, List.pairwise_map]
    refine (nmB_strict base a b).imp fun {p q} hpq x hx y hy => ?_
    have e : ∀ {n z}, mrgO base a b (mkB n) = some z → skey z = n := fun {n z} hz => by
      unfold mrgO at hz
      split at hz
      · obtain rfl := Option.some.inj hz
        rfl
      · cases hz
    rw [e hx, e hy]
    exact hpq
  · obtain ⟨n, hn, he⟩ := List.mem_filterMap.1 hx
    unfold mrgO at he
    split at he
    · obtain rfl := Option.some.inj he
      obtain ⟨y, hy, rfl⟩ := nmB_mem hn
      refine ⟨?_, ?_⟩
      · rcases hy with hy | hy | hy
        · exact (h0.2 y hy).1
        · exact (h1.2 y hy).1
        · exact (h2.2 y hy).1
      · show 0 ≤ (mrgT base a b y.f0).1 ∧ (mrgT base a b y.f0).1 ≤ 1000
        unfold mrgT
        split
        · exact thS_good h2 _
        · exact thS_good h1 _
    · cases he

theorem merge_ev {base a b : List S71} (h0 : goodS base) (h1 : goodS a) (h2 : goodS b) : Ev (fun k => impl_MergeStates.f k base a b) (mrgR base a b) := by
  have l0 := goodS_len h0
  have l1 := goodS_len h1
  have l2 := goodS_len h2
  have i0 := implState_ev base (by omega)
  have i1 := implState_ev a (by omega)
  have i2 := implState_ev b (by omega)
  rw [goodS_ok h0] at i0
  rw [goodS_ok h1] at i1
  rw [goodS_ok h2] at i2
  unfold impl_MergeStates.f
  exact Ev.bind i0 (Ev.bind i1 (Ev.bind i2 (implMrg_ev base a b (by omega) (by omega) (by omega))))
theorem confs_ev {base a b : List S71} (h0 : goodS base) (h1 : goodS a) (h2 : goodS b) : Ev (fun k => impl_ConflictsOf.f k base a b) (confL base a b, 0) := by
  have l0 := goodS_len h0
  have l1 := goodS_len h1
  have l2 := goodS_len h2
  have i0 := implState_ev base (by omega)
  have i1 := implState_ev a (by omega)
  have i2 := implState_ev b (by omega)
  rw [goodS_ok h0] at i0
  rw [goodS_ok h1] at i1
  rw [goodS_ok h2] at i2
  unfold impl_ConflictsOf.f
  exact Ev.bind i0 (Ev.bind i1 (Ev.bind i2 (Ev.bind (implConf_ev base a b (by omega) (by omega) (by omega)) (Ev.now _))))

theorem vstate_eq {l : List S104} (hl : l.length ≤ 5) (h : goodH l) (p : Int) (p0 : 0 ≤ p) (p1 : p ≤ l.length) : ∃ st, impl_versionState.f l p = some st ∧ goodS st := by
  unfold impl_versionState.f
  by_cases c : p = 0
  · rw [if_pos c]
    exact ⟨[], rfl, List.Pairwise.nil, fun x hx => by cases hx⟩
  · rw [if_neg c, w64 (by omega) (by omega), if_pos (by omega), if_pos (by omega)]
    exact ⟨_, rfl, (h (p - 1).toNat (by omega)).2.2.2.2⟩
theorem sameS_ev (l : List S71) (hl : l.length ≤ 1000) : Ev (fun k => spec_SameState.f k l l) true := by
  unfold spec_SameState.f spec_l27Same.f
  have key : ∀ (m i : Nat), i + m = l.length → Ev (fun k => spec_l27Same.l0 k l l (i : Int)) true := by
    intro m
    induction m with
    | zero =>
      intro i hi
      refine Ev.succ ?_
      simp only [spec_l27Same.l0, show ¬ (i : Int) < (l.length : Int) by omega, if_false]
      exact Ev.now _
    | succ m ih =>
      intro i hi
      refine Ev.succ ?_
      simp only [spec_l27Same.l0, show (i : Int) < (l.length : Int) by omega, show (0 : Int) ≤ (i : Int) by omega, if_true, beq_self_eq_true, Bool.not_true, Bool.or_false, Bool.false_eq_true, if_false]
      simp (disch := omega) only [w64]
      exact ih (i + 1) (by omega)
  have := key l.length 0 (by omega)
  simp only [if_true]
  first | exact this | exact Ev.bind this (Ev.now _)
theorem setting_eq (l : List S71) (hl : l.length ≤ 1000) : impl_Setting.f l = some l := by
  unfold impl_Setting.f
  rw [if_pos (by omega)]
theorem withV_ev {l : List S104} (hl : l.length ≤ 5) (h : goodH l) (p : Int) (b : ByteArray) (st : List S71) (hst : goodS st) : Ev (fun k => impl_withVersion.f k l p b st) (l ++ [⟨(l.length : Int) + 1, p, b, st⟩], 0) := by
  unfold impl_withVersion.f impl_Version.f
  simp only [show ¬ ((l.length : Nat) : Int) = 32 by omega, if_false]
  simp (disch := omega) only [if_pos, Option.bind_some, w64]
  have hs : ∀ v ∈ l ++ [(⟨(l.length : Int) + 1, p, b, st⟩ : S104)], v.f3.length ≤ 6 := fun v hv => by
    rcases List.mem_append.1 hv with hv | hv
    · obtain ⟨i, hi, rfl⟩ := List.mem_iff_getElem.1 hv
      have := (h i hi).2.2.2.2
      rw [getD_lt _ hi] at this
      exact goodS_len this
    · obtain rfl := List.mem_singleton.1 hv
      exact goodS_len hst
  have hlen : (l ++ [(⟨(l.length : Int) + 1, p, b, st⟩ : S104)]).length ≤ 6 := by rw [List.length_append, List.length_singleton]; omega
  generalize l ++ [(⟨(l.length : Int) + 1, p, b, st⟩ : S104)] = a at hs hlen ⊢
  have key : ∀ (m i : Nat), i + m = a.length → Ev (fun k => impl_withVersion.l0 k (a.take i) a (a.length : Int) (i : Int)) (a, 0) := by
    intro m
    induction m with
    | zero =>
      intro i hi
      refine Ev.succ ?_
      rw [List.take_of_length_le (by omega)]
      simp only [impl_withVersion.l0, show ¬ (i : Int) < (a.length : Int) by omega, if_false]
      exact Ev.now _
    | succ m ih =>
      intro i hi
      have ht : (a.take i).length = i := by rw [List.length_take]; omega
      have hx := hs (a.getD i z104) (getD_mem _ (by omega))
      refine Ev.succ ?_
      simp only [impl_withVersion.l0, show (i : Int) < (a.length : Int) by omega, show (0 : Int) ≤ (i : Int) by omega, if_true, rdV, setting_eq _ (show (a.getD i z104).f3.length ≤ 1000 by omega), Option.bind_some, ht]
      simp (disch := omega) only [if_pos, w64]
      have e : a.take i ++ [(⟨(a.getD i z104).f0, (a.getD i z104).f1, (a.getD i z104).f2, (a.getD i z104).f3⟩ : S104)] = a.take (i + 1) := by
        rw [getD_lt _ (by omega : i < a.length), List.take_succ_eq_append_getElem (by omega)]
      rw [e]
      exact ih (i + 1) (by omega)
  exact key a.length 0 (by omega)

theorem mergeV_ev {l : List S104} (hl : l.length ≤ 5) (h : goodH l) (p q : Int) (p0 : 1 ≤ p) (p1 : p ≤ l.length) (q0 : 1 ≤ q) (q1 : q ≤ l.length) : ∃ r c, Ev (fun k => impl_MergeVersions.f k l p q bothB) (r, c) ∧ (c = 0 → ∃ st, goodS st ∧ r = l ++ [⟨(l.length : Int) + 1, p, bothB, st⟩]) := by
  obtain ⟨a0, a1, a2⟩ := ancV_rng h (p := p) (q := q) (by omega) (by omega) p1 q1
  obtain ⟨s0, e0, g0⟩ := vstate_eq hl h (ancV l p q) a0 (by omega)
  obtain ⟨s1, e1, g1⟩ := vstate_eq hl h p (by omega) p1
  obtain ⟨s2, e2, g2⟩ := vstate_eq hl h q (by omega) q1
  have hm := merge_ev g0 g1 g2
  have all : ∀ r c, Ev (fun k => (impl_MergeStates.f k s0 s1 s2).bind fun bt198 => if bt198.2 = 0 then ((impl_withVersion.f k l p bothB bt198.1).bind fun bt202 => some (bt202.1, bt202.2)) else some (([] : List S104), bt198.2)) (r, c) → Ev (fun k => impl_MergeVersions.f k l p q bothB) (r, c) := by
    intro r c e
    unfold impl_MergeVersions.f
    refine Ev.bind (code_ev l hl h p q p0 p1 q0 q1) ?_
    simp only [show ¬ (0 : Int) = 1 by decide, if_false]
    refine Ev.bind (memoI_ev bothB (.inr rfl)) ?_
    refine Ev.succ ?_
    simp only [impl_MergeVersions.j0, Bool.not_true, Bool.false_eq_true, if_false, if_true]
    refine Ev.bind (anc_ev hl h p q (by omega) p1 (by omega) q1) ?_
    simp only [e0, e1, e2, Option.bind_some]
    exact e
  by_cases c : (mrgR s0 s1 s2).2 = 0
  · have hg : goodS (mrgR s0 s1 s2).1 := by
      have hg := mrg_good g0 g1 g2
      unfold mrgR at c ⊢
      split at c
      · cases c
      · split at c
        · cases c
        · rename_i n1 n2
          rw [if_neg n1, if_neg n2]
          exact hg
    refine ⟨_, 0, all _ _ (Ev.bind hm ?_), fun _ => ⟨_, hg, rfl⟩⟩
    simp only [c, if_true]
    exact Ev.bind (withV_ev hl h p bothB _ hg) (Ev.now _)
  · refine ⟨[], (mrgR s0 s1 s2).2, all _ _ (Ev.bind hm ?_), fun e => absurd e c⟩
    simp only [c, if_false]
    exact Ev.now _

theorem specIn_eq (a lo hi : Int) : spec_l00In.f a lo hi = some (inR lo hi a) := by
  unfold spec_l00In.f inR
  by_cases h : a ≥ lo
  · rw [if_pos h, decide_eq_true (show lo ≤ a from h)]; rfl
  · rw [if_neg h, decide_eq_false (show ¬ lo ≤ a from h)]; rfl

theorem specSmall_eq (c : Int) : spec_l01Small.f c = some (smallC c) := by
  unfold spec_l01Small.f smallC
  by_cases h : c ≥ 97
  · rw [if_pos h, decide_eq_true (show 97 ≤ c from h)]; rfl
  · rw [if_neg h, decide_eq_false (show ¬ 97 ≤ c from h)]; rfl
theorem specDigit_eq (c : Int) : spec_l01Digit.f c = some (digitC c) := by
  unfold spec_l01Digit.f digitC
  by_cases h : c ≥ 48
  · rw [if_pos h, decide_eq_true (show 48 ≤ c from h)]; rfl
  · rw [if_neg h, decide_eq_false (show ¬ 48 ≤ c from h)]; rfl
theorem specName_ev (b : ByteArray) : Ev (fun k => spec_l01Name.f k b) (nameOk b) := by
  unfold spec_l01Name.f nameOk
  have hz : b.toList = ([] : List UInt8) ↔ b.size = 0 := by
    rw [ByteArray.toList_eq, show b.size = b.data.toList.length from rfl]
    exact List.length_eq_zero_iff.symm
  by_cases h1 : b.size < 1
  · rw [decide_eq_false (by omega), Bool.false_and]
    simp only [show b.toList = ([] : List UInt8) from hz.2 (by omega), if_true]
    exact Ev.step (f := fun _ => some false) (fun k => by simp [spec_l01Name.j0]) (Ev.now _)
  · rw [decide_eq_true (show 1 ≤ b.size by omega), Bool.true_and]
    simp only [show ¬ b.toList = ([] : List UInt8) from fun e => by have := hz.1 e; omega, if_false]
    by_cases h10 : b.size > 10
    · rw [decide_eq_false (show ¬ b.size ≤ 10 by omega), Bool.false_and]
      simp only [show (b.size : Int) > 10 by omega, if_true]
      exact Ev.step (f := fun _ => some false) (fun k => by simp [spec_l01Name.j0]) (Ev.now _)
    · rw [decide_eq_true (show b.size ≤ 10 by omega), Bool.true_and]
      simp only [show ¬ (b.size : Int) > 10 by omega, if_false, show 0 < (b.size : Int) by omega, if_true, specSmall_eq, Option.bind_some]
      cases hs : smallC (bt b 0) with
      | false =>
        rw [Bool.false_and]
        exact Ev.step (f := fun _ => some false) (fun k => by simp [spec_l01Name.j0]) (Ev.now _)
      | true =>
        rw [Bool.true_and]
        refine Ev.step (f := fun k => spec_l01Name.l0 k b 0) (fun k => by simp [spec_l01Name.j0]) ?_
        have key := ev_all (fun k i => spec_l01Name.l0 k b i) (List.range b.size) 0 (fun i => nameC (bt b i)) false true (fun i hi hp s hs2 => ?_) (fun i hi hp => ?_) ?_
        · revert key
          cases (List.range b.size).all fun i => nameC (bt b i) <;> exact id
        · rw [List.length_range] at hi
          rw [getD_lt 0 (by simpa using hi), List.getElem_range] at hp
          refine Ev.step (fun k => ?_) hs2
          simp only [spec_l01Name.l0]
          rw [if_pos (by omega), if_pos (by omega), specSmall_eq, specDigit_eq]
          simp only [Option.bind_some]
          unfold nameC at hp
          cases h3 : smallC (bt b i) with
          | true => rw [if_pos rfl, w64 (by omega) (by omega)]; rfl
          | false =>
            rw [h3, Bool.false_or] at hp
            rw [hp, if_neg (by decide), if_pos rfl, w64 (by omega) (by omega)]
            rfl
        · rw [List.length_range] at hi
          rw [getD_lt 0 (by simpa using hi), List.getElem_range] at hp
          refine Ev.step (f := fun _ => some false) (fun k => ?_) (Ev.now _)
          simp only [spec_l01Name.l0]
          unfold nameC at hp
          rw [Bool.or_eq_false_iff] at hp
          rw [if_pos (by omega), if_pos (by omega), specSmall_eq, specDigit_eq, hp.1, hp.2]
          rfl
        · refine Ev.step (f := fun _ => some true) (fun k => ?_) (Ev.now _)
          simp only [spec_l01Name.l0]
          rw [List.length_range, if_neg (by omega)]

theorem specSett_ev (x : S71) : Ev (fun k => spec_l27Setting.f k [x]) (settOk x) := by
  unfold spec_l27Setting.f settOk
  have e : rd_T71 [x] 0 = x := rfl
  simp only [e, List.length_singleton, show (0 : Int) < ((1 : Nat) : Int) by decide, if_true, specIn_eq, Option.bind_some]
  refine Ev.bind (specName_ev x.f0) ?_
  cases nameOk x.f0 with
  | false => exact Ev.now _
  | true => exact Ev.now _
theorem specState_ev (l : List S71) (hl : l.length ≤ 1048576) : Ev (fun k => spec_l27State.f k l) (stateOk l) := by
  unfold spec_l27State.f
  have key := ev_all (fun k i => spec_l27State.l0 k l i) (List.range l.length) 0 (settAt l) false (decide (l.length ≤ 24)) (fun i hi hp s hs => ?_) (fun i hi hp => ?_) ?_
  · unfold stateOk
    revert key
    cases (List.range l.length).all (settAt l) with
    | true => rw [Bool.and_true]; exact id
    | false => rw [Bool.and_false]; exact id
  · rw [List.length_range] at hi
    rw [getD_lt 0 (by simpa using hi), List.getElem_range] at hp
    unfold settAt at hp
    rw [Bool.and_eq_true, Bool.or_eq_true, decide_eq_true_eq, decide_eq_true_eq] at hp
    refine Ev.succ ?_
    simp (disch := omega) only [spec_l27State.l0, if_pos, w64, rdSt]
    have h1 := specSett_ev (l.getD i z71)
    rw [hp.1] at h1
    refine Ev.bind h1 ?_
    by_cases h0 : 0 < i
    · have := hp.2.resolve_left (by omega)
      simp (disch := omega) only [rdSts, if_pos, if_neg, bltB, this, if_true]
      exact hs
    · simp (disch := omega) only [if_pos, if_neg]
      exact hs
  · rw [List.length_range] at hi
    rw [getD_lt 0 (by simpa using hi), List.getElem_range] at hp
    unfold settAt at hp
    refine Ev.succ ?_
    simp (disch := omega) only [spec_l27State.l0, if_pos, w64, rdSt]
    refine Ev.bind (specSett_ev (l.getD i z71)) ?_
    cases ho : settOk (l.getD i z71) with
    | false => exact Ev.now _
    | true =>
      rw [ho, Bool.true_and, Bool.or_eq_false_iff, decide_eq_false_iff_not, decide_eq_false_iff_not] at hp
      simp (disch := omega) only [rdSts, if_pos, if_neg, bltB, hp.2, if_false]
      exact Ev.now _
  · refine Ev.succ ?_
    simp only [spec_l27State.l0, List.length_range, Int.lt_irrefl, if_false]
    exact Ev.now' (by rw [decide_eq_decide]; omega)

theorem specHist_ev (l : List S104) (hl : l.length ≤ 6) (h : ∀ i, i < l.length → (l.getD i z104).f0 = (i : Int) + 1 ∧ 0 ≤ (l.getD i z104).f1 ∧ (l.getD i z104).f1 ≤ i ∧ ((l.getD i z104).f2 ∈ memos ∨ (l.getD i z104).f2 = bothB) ∧ goodS (l.getD i z104).f3) : Ev (fun k => spec_ValidHistory.f k l) true := by
  have key : ∀ (m i : Nat), i + m = l.length → Ev (fun k => spec_l27Ok.l0 k l (i : Int)) true := by
    intro m
    induction m with
    | zero =>
      intro i hi
      refine Ev.succ ?_
      simp only [spec_l27Ok.l0, show ¬ (i : Int) < (l.length : Int) by omega, if_false, show ((l.length : Nat) : Int) ≤ 32 by omega, decide_true]
      exact Ev.now _
    | succ m ih =>
      intro i hi
      obtain ⟨a1, a2, a3, a4, a5⟩ := h i (by omega)
      refine Ev.succ ?_
      simp only [spec_l27Ok.l0, show (i : Int) < (l.length : Int) by omega, show (0 : Int) ≤ (i : Int) by omega, if_true, rdV]
      simp (disch := omega) only [w64, a1, if_true]
      have hw : spec_l00In.f (l.getD i z104).f1 0 (i : Int) = some true := by
        rw [specIn_eq]
        unfold inR
        rw [decide_eq_true a2, decide_eq_true a3]
        rfl
      simp only [hw, Option.bind_some, if_true]
      refine Ev.bind (memoS_ev _ a4) ?_
      simp only [if_true]
      have hs := specState_ev (l.getD i z104).f3 (by have := goodS_len a5; omega)
      rw [goodS_ok a5] at hs
      refine Ev.bind hs ?_
      simp only [if_true]
      exact ih (i + 1) (by omega)
  have := key l.length 0 (by omega)
  unfold spec_ValidHistory.f spec_l27Ok.f
  first | exact this | exact Ev.bind this (Ev.now _)

theorem lit_u8 {x : Int} (h : (Lit.int .u8 x).wf = true) : 0 ≤ x ∧ x ≤ 255 := by
  have h2 : (decide (IntKind.u8.min ≤ x) && decide (x ≤ IntKind.u8.max)) = true := h
  simp only [Bool.and_eq_true, decide_eq_true_eq] at h2
  exact h2
theorem src_of {l : List Int} (h0 : l.length ≤ 1048576) (h : ∀ x ∈ l, (Lit.int .u8 x).wf = true) : SrcOk l := ⟨h0, fun x hx => by
  have := h x hx
  exact lit_u8 this⟩
theorem at_rng {l : List Int} (h : SrcOk l) (i n : Int) (i0 : 0 ≤ i) (n1 : 1 ≤ n) (n2 : n ≤ 5) : ∃ r, laws_r8At.f l i n = some r ∧ 0 ≤ r ∧ r < n := by
  unfold laws_r8At.f
  by_cases c : n ≤ 1
  · rw [if_pos c]; exact ⟨0, rfl, by omega, by omega⟩
  · rw [if_neg c]
    by_cases d : i ≥ (l.length : Int)
    · rw [if_pos d]; exact ⟨0, rfl, by omega, by omega⟩
    · have hr : 0 ≤ rd l i ∧ rd l i ≤ 255 := h.2 _ (getD_mem 0 (by omega))
      rw [if_neg d, if_pos i0, if_pos (by omega), if_neg (by omega), w64 (by omega) (by omega)]
      exact ⟨_, rfl, Int.tmod_nonneg _ (by omega), Int.tmod_lt_of_pos _ (by omega)⟩
theorem hist_part {l1 : List Int} (h1 : SrcOk l1) : Ev (fun k => laws_FnMerges.j1 k l1 false) true := by
  obtain ⟨l, s, t, e, hg, hl⟩ := drawH_ev h1 0 0 (by omega) (by omega)
  refine Ev.succ ?_
  simp only [laws_FnMerges.j1, Bool.false_eq_true, if_false]
  have eh : Ev (fun k => spec_R8History.f k l1) l := by
    unfold spec_R8History.f spec_l00From.f
    simp only [Option.bind_some]
    exact Ev.bind e (Ev.now _)
  refine Ev.bind eh ?_
  by_cases c : (l.length : Int) = 0
  · simp only [c, if_true]
    exact Ev.now _
  · simp only [c, if_false]
    obtain ⟨u, eu, u0, u1⟩ := at_rng h1 0 (l.length : Int) (by omega) (by omega) (by omega)
    obtain ⟨v, ew, v0, v1⟩ := at_rng h1 1 (l.length : Int) (by omega) (by omega) (by omega)
    simp only [eu, ew, Option.bind_some]
    simp (disch := omega) only [w64]
    have ca : ∀ p q : Int, 1 ≤ p → p ≤ l.length → 1 ≤ q → q ≤ l.length → Ev (fun k => impl_CommonAncestor.f k l p q) (ancV l p q, 0) := fun p q p0 p1 q0 q1 => by
      unfold impl_CommonAncestor.f
      refine Ev.bind (code_ev l hl hg p q p0 p1 q0 q1) ?_
      simp only [if_true]
      exact Ev.bind (anc_ev hl hg p q (by omega) p1 (by omega) q1) (Ev.now _)
    obtain ⟨a0, a1, a2⟩ := ancV_rng hg (p := 1 + u) (q := 1 + v) (by omega) (by omega) (by omega) (by omega)
    obtain ⟨r, cc, er, hr⟩ := mergeV_ev hl hg (1 + u) (1 + v) (by omega) (by omega) (by omega) (by omega)
    refine Ev.bind (ca (1 + u) (1 + v) (by omega) (by omega) (by omega) (by omega)) ?_
    refine Ev.bind (ca (1 + v) (1 + u) (by omega) (by omega) (by omega) (by omega)) ?_
    refine Ev.bind er ?_
    have em : ¬ ancV l (1 + u) (1 + v) > mn (1 + u) (1 + v) := by unfold mn; split <;> omega
    simp only [if_true, ancV_swap hg (p := 1 + v) (q := 1 + u) (by omega) (by omega), show ¬ ancV l (1 + u) (1 + v) < 0 by omega, if_false, em]
    by_cases cz : cc = 0
    · obtain ⟨st, hst, rfl⟩ := hr cz
      simp only [cz, if_true, List.length_append, List.length_singleton, show ((l.length + 1 : Nat) : Int) = (l.length : Int) + 1 by omega]
      refine Ev.bind (specHist_ev _ (by rw [List.length_append, List.length_singleton]; omega) ?_) (Ev.now _)
      intro i hi
      rw [List.length_append, List.length_singleton] at hi
      rw [List.getD_eq_getElem?_getD]
      by_cases d : i < l.length
      · rw [List.getElem?_append_left d, ← List.getD_eq_getElem?_getD]
        obtain ⟨b1, b2, b3, b4, b5⟩ := hg i d
        exact ⟨b1, b2, b3, .inl b4, b5⟩
      · obtain rfl : i = l.length := by omega
        rw [List.getElem?_append_right (Nat.le_refl _), Nat.sub_self]
        exact ⟨rfl, by show 0 ≤ 1 + u; omega, by show 1 + u ≤ _; omega, .inr rfl, hst⟩
    · simp only [cz, if_false]
      exact Ev.now _
theorem FnMerges : laws_FnMerges.Pure := by
  intro l0 l1 _ _ hw0 _ _ hw1
  have main : Ev (fun k => laws_FnMerges.f k l0 l1) true := by
    unfold laws_FnMerges.f laws_r8Long.f
    by_cases c0 : (l0.length : Int) > 1048576
    · simp only [c0, if_true, Option.bind_some]
      exact Ev.now _
    · by_cases c1 : (l1.length : Int) > 1048576
      · simp only [c0, if_false, c1, decide_true, Option.bind_some, if_true]
        exact Ev.now _
      · simp only [c0, if_false, c1, decide_false, Option.bind_some, Bool.false_eq_true]
        have s0 := src_of (by omega) hw0
        have s1 := src_of (by omega) hw1
        obtain ⟨b, sb, tb, eb, gb, _⟩ := drawState_ev s0 0 0 (by omega) (by omega)
        obtain ⟨x, sx, tx, ex, gx, _⟩ := changed_ev s1 b gb 0 0 (by omega) (by omega)
        obtain ⟨y, sy, ty, ey, gy, _⟩ := changed_ev s0 b gb 0 0 (by omega) (by omega)
        have e1 : Ev (fun k => spec_R8State.f k l0) b := by
          unfold spec_R8State.f spec_l00From.f
          simp only [Option.bind_some]
          exact Ev.bind eb (Ev.now _)
        have e2 : Ev (fun k => spec_R8Changed.f k l1 b) x := by
          unfold spec_R8Changed.f spec_l00From.f
          simp only [Option.bind_some]
          exact Ev.bind ex (Ev.now _)
        have e3 : Ev (fun k => spec_R8Changed.f k l0 b) y := by
          unfold spec_R8Changed.f spec_l00From.f
          simp only [Option.bind_some]
          exact Ev.bind ey (Ev.now _)
        have lx := goodS_len gx
        have m1 := merge_ev gb gx gb
        have m2 := merge_ev gb gb gx
        have m3 := merge_ev gb gx gx
        rw [mrg_left gx.1 (by omega)] at m1
        rw [mrg_right gx.1 (by omega)] at m2
        rw [mrg_both gx.1 (by omega)] at m3
        refine Ev.bind e1 (Ev.bind e2 (Ev.bind e3 (Ev.bind m1 (Ev.bind m2 (Ev.bind m3 ?_)))))
        simp only [if_true]
        have ss := sameS_ev x (by omega)
        refine Ev.bind ss ?_
        simp only [if_true]
        refine Ev.bind ss ?_
        simp only [if_true]
        refine Ev.bind ss ?_
        simp only [Bool.not_true]
        refine Ev.succ ?_
        simp only [laws_FnMerges.j0, Bool.false_eq_true, if_false]
        refine Ev.bind (confs_ev gb gx gy) (Ev.bind (confs_ev gb gy gx) (Ev.bind (merge_ev gb gx gy) (Ev.bind (merge_ev gb gy gx) ?_)))
        simp only [if_true, mrg_swap b y x, confL_swap b y x]
        have hh := hist_part s1
        by_cases c : (confL b x y).length > 0
        · have er : mrgR b x y = ([], 6) := by unfold mrgR; rw [if_pos c]
          simp only [er, show ((confL b x y).length : Int) > 0 by omega, decide_true]
          simpa using hh
        · by_cases d : (mrgL b x y).length > 24
          · have er : mrgR b x y = ([], 5) := by unfold mrgR; rw [if_neg c, if_pos d]
            simp only [er, show ¬ ((confL b x y).length : Int) > 0 by omega, decide_false]
            simpa using hh
          · have er : mrgR b x y = (mrgL b x y, 0) := by unfold mrgR; rw [if_neg c, if_neg d]
            have gm := mrg_good gb gx gy
            have lm := goodS_len gm
            simp only [er, show ¬ ((confL b x y).length : Int) > 0 by omega, decide_false]
            simp only [show ((0 : Int) == 6) = false from rfl, bne_self_eq_false, Bool.false_eq_true, if_false, if_true]
            refine Ev.bind (sameS_ev _ (by omega)) ?_
            simp only [if_true]
            have hv := specState_ev (mrgL b x y) (by omega)
            rw [goodS_ok gm] at hv
            have hv2 : Ev (fun k => spec_ValidState.f k (mrgL b x y)) true := by
              unfold spec_ValidState.f
              first | exact hv | exact Ev.bind hv (Ev.now _)
            refine Ev.bind hv2 ?_
            simp only [Bool.not_true]
            exact hh
  obtain ⟨K, hK⟩ := main
  exact ⟨K, hK K (Nat.le_refl _)⟩

end Go.Proofs.Ytenjhbkpcelidaa.Pure
