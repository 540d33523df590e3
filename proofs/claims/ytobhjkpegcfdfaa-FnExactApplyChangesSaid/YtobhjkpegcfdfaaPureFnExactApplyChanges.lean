/- The program's ApplyChanges returns what the reference's returns, for all arguments. No condition beyond the statement's own. -/
import Derived.Test.YtobhjkpegcfdfaaPFnExactApplyChangesx0
import Derived.Test.YtobhjkpegcfdfaaPFnExactApplyChangesx1
import Derived.Test.YtobhjkpegcfdfaaPFnExactApplyChangesx2
import Derived.Test.YtobhjkpegcfdfaaPFnExactApplyChangesx3
import Derived.Test.YtobhjkpegcfdfaaPFnExactApplyChangesx4
import Derived.Test.YtobhjkpegcfdfaaPFnExactApplyChangesx5
import Derived.Test.YtobhjkpegcfdfaaPFnExactApplyChangesx6
import Derived.Test.YtobhjkpegcfdfaaPFnExactApplyChangesx7
import Derived.Test.YtobhjkpegcfdfaaPFnExactApplyChangesx8
import Derived.Test.YtobhjkpegcfdfaaPFnExactApplyChangesx9
import Derived.Test.YtobhjkpegcfdfaaPFnExactApplyChangesx10
namespace Go.Proofs.Ytobhjkpegcfdfaa.Pure
open Go.RowKit Go.Proofs.Ytobhjkpegcfdfaa.PFnExactApplyChanges Go.Proofs.YtobhjkpegcfdfaaW.PrintWords Go.Proofs.YtobhjkpegcfdfaaW.PrintLast Go.Proofs.YtobhjkpegcfdfaaW.PrintMore
set_option linter.unusedVariables false
set_option linter.unusedSimpArgs false

def smallC (c : Int) : Bool := decide (97 ≤ c) && decide (c ≤ 122)
def digitC (c : Int) : Bool := decide (48 ≤ c) && decide (c ≤ 57)
def nameC (c : Int) : Bool := smallC c || digitC c
/-- A name: 1 to 10 bytes, the first one a small letter, all of them small letters or digits. -/
def nameOk (b : ByteArray) : Bool := decide (1 ≤ b.size) && (decide (b.size ≤ 10) && (smallC (bt b 0) && (List.range b.size).all fun i => nameC (bt b i)))

def inR (lo hi x : Int) : Bool := decide (lo ≤ x) && decide (x ≤ hi)
theorem inR_iff {lo hi x : Int} : inR lo hi x = true ↔ lo ≤ x ∧ x ≤ hi := by simp [inR]
theorem inR_no {lo hi x : Int} : inR lo hi x = false ↔ ¬ (lo ≤ x ∧ x ≤ hi) := by rw [← inR_iff]; simp

theorem w64 {x : Int} (h0 : -9223372036854775808 ≤ x) (h1 : x ≤ 9223372036854775807) : wrap64 x = x := by unfold wrap64; omega
theorem rd_nat (l : List Int) (i : Nat) : rd l (i : Int) = l.getD i 0 := by unfold rd; rw [Int.toNat_natCast]
theorem getD_mem {α : Type} {l : List α} {i : Nat} (d : α) (h : i < l.length) : l.getD i d ∈ l := by
  rw [List.getD_eq_getElem?_getD, List.getElem?_eq_getElem h]; exact List.getElem_mem _
theorem getD_lt {α : Type} {l : List α} {i : Nat} (d : α) (h : i < l.length) : l.getD i d = l[i] := by
  rw [List.getD_eq_getElem?_getD, List.getElem?_eq_getElem h]; rfl
theorem take_succ_getD {α : Type} (l : List α) (d : α) {i : Nat} (h : i < l.length) : l.take (i + 1) = l.take i ++ [l.getD i d] := by
  rw [List.take_succ_eq_append_getElem h, getD_lt d h]
/-- A loop that copies a list, element by element. -/
theorem ev_copy {α : Type} (L : Nat → List α → List α → Int → Option (List α)) (xs : List α) (d d' : α)
    (step : ∀ ys i, i < xs.length → ys.length = xs.length → ∀ r, Ev (fun k => L k xs (ys.set i (xs.getD i d)) ((i + 1 : Nat) : Int)) r → Ev (fun k => L k xs ys (i : Int)) r)
    (fin : ∀ ys, Ev (fun k => L k xs ys (xs.length : Int)) ys) : Ev (fun k => L k xs (List.replicate xs.length d') 0) xs := by
  have key : ∀ (m i : Nat) (ys : List α), i + m = xs.length → ys.length = xs.length → (∀ j, j < i → ys[j]? = xs[j]?) → Ev (fun k => L k xs ys (i : Int)) xs := by
    intro m
    induction m with
    | zero =>
      intro i ys hi hl hj
      have e : ys = xs := List.ext_getElem? (fun j => by
        by_cases h : j < xs.length
        · exact hj j (by omega)
        · rw [List.getElem?_eq_none (by omega), List.getElem?_eq_none (by omega)])
      have : i = xs.length := by omega
      subst this
      rw [e]
      exact fin xs
    | succ m ih =>
      intro i ys hi hl hj
      refine step ys i (by omega) hl xs (ih (i + 1) _ (by omega) (by rw [List.length_set]; exact hl) (fun j hjj => ?_))
      by_cases h : j = i
      · subst h
        rw [List.getElem?_set_self (by omega), getD_lt d (by omega), List.getElem?_eq_getElem (by omega)]
      · rw [List.getElem?_set_ne (by omega)]
        exact hj j (by omega)
  exact key xs.length 0 _ (by omega) (List.length_replicate ..) (fun j hj => absurd hj (Nat.not_lt_zero _))
/-- A loop that compares two lists. -/
theorem ev_eq {α : Type} (L : Nat → List α → List α → Int → Option Bool) (xs : List α) 
    (step : ∀ i, i < xs.length → Ev (fun k => L k xs xs ((i + 1 : Nat) : Int)) true → Ev (fun k => L k xs xs (i : Int)) true)
    (fin : Ev (fun k => L k xs xs (xs.length : Int)) true) : Ev (fun k => L k xs xs 0) true := by
  have key : ∀ (m i : Nat), i + m = xs.length → Ev (fun k => L k xs xs (i : Int)) true := by
    intro m
    induction m with
    | zero =>
      intro i hi
      have : i = xs.length := by omega
      subst this
      exact fin
    | succ m ih => intro i hi; exact step i (by omega) (ih (i + 1) (by omega))
  exact key xs.length 0 (by omega)

abbrev Bs := List UInt8
theorem bs_irr (x : Bs) : ¬ x < x := List.lt_irrefl x
theorem bs_tr {x y z : Bs} (h1 : x < y) (h2 : y < z) : x < z := List.lt_trans h1 h2
theorem bs_tri {x y : Bs} (h1 : ¬ x < y) (h2 : x ≠ y) : y < x := by
  refine Classical.byContradiction fun h3 => h2 ?_
  exact List.le_antisymm (List.not_lt.1 h3) (List.not_lt.1 h1)
/-- Two lists in strict order with the same elements are one. -/
theorem strict_ext : ∀ (xs ys : List Bs), xs.Pairwise (· < ·) → ys.Pairwise (· < ·) → (∀ a, a ∈ xs ↔ a ∈ ys) → xs = ys
  | [], [], _, _, _ => rfl
  | [], y :: ys, _, _, h => absurd ((h y).2 List.mem_cons_self) (by simp)
  | x :: xs, [], _, _, h => absurd ((h x).1 List.mem_cons_self) (by simp)
  | x :: xs, y :: ys, hx, hy, h => by
    obtain ⟨hx1, hx2⟩ := List.pairwise_cons.1 hx
    obtain ⟨hy1, hy2⟩ := List.pairwise_cons.1 hy
    have e : x = y := by
      rcases List.mem_cons.1 ((h x).1 List.mem_cons_self) with e | m1
      · exact e
      · rcases List.mem_cons.1 ((h y).2 List.mem_cons_self) with e | m2
        · exact e.symm
        · exact absurd (bs_tr (hy1 x m1) (hx1 y m2)) (bs_irr y)
    subst e
    congr 1
    refine strict_ext xs ys hx2 hy2 fun a => ⟨fun ha => ?_, fun ha => ?_⟩
    · rcases List.mem_cons.1 ((h a).1 (List.mem_cons_of_mem _ ha)) with e | m
      · subst e; exact absurd (hx1 a ha) (bs_irr a)
      · exact m
    · rcases List.mem_cons.1 ((h a).2 (List.mem_cons_of_mem _ ha)) with e | m
      · subst e; exact absurd (hy1 a ha) (bs_irr a)
      · exact m
/-- x set into its place, if it is not there. -/
def insU (x : Bs) : List Bs → List Bs
  | [] => [x]
  | y :: ys => if y < x then y :: insU x ys else if y = x then y :: ys else x :: y :: ys
theorem insU_mem (x a : Bs) : ∀ ys : List Bs, a ∈ insU x ys ↔ a = x ∨ a ∈ ys
  | [] => by simp [insU]
  | y :: ys => by
    unfold insU
    split
    · rw [List.mem_cons, insU_mem x a ys, List.mem_cons]
      constructor
      · rintro (h | h | h) <;> simp [h]
      · rintro (h | h | h) <;> simp [h]
    · split
      · rename_i e
        subst e
        simp
      · simp
theorem insU_strict (x : Bs) : ∀ ys : List Bs, ys.Pairwise (· < ·) → (insU x ys).Pairwise (· < ·)
  | [], _ => by simp [insU]
  | y :: ys, h => by
    obtain ⟨h1, h2⟩ := List.pairwise_cons.1 h
    unfold insU
    split
    · rename_i hyx
      refine List.pairwise_cons.2 ⟨fun a ha => ?_, insU_strict x ys h2⟩
      rcases (insU_mem x a ys).1 ha with e | m
      · subst e; exact hyx
      · exact h1 a m
    · split
      · exact h
      · rename_i h3 h4
        have hxy := bs_tri h3 h4
        refine List.pairwise_cons.2 ⟨fun a ha => ?_, h⟩
        rcases List.mem_cons.1 ha with e | m
        · subst e; exact hxy
        · exact bs_tr hxy (h1 a m)
theorem foldU_spec : ∀ (xs out : List Bs), out.Pairwise (· < ·) → (xs.foldl (fun o x => insU x o) out).Pairwise (· < ·) ∧ ∀ a, a ∈ xs.foldl (fun o x => insU x o) out ↔ a ∈ xs ∨ a ∈ out
  | [], out, h => ⟨h, fun a => by simp⟩
  | x :: xs, out, h => by
    obtain ⟨h1, h2⟩ := foldU_spec xs (insU x out) (insU_strict x out h)
    refine ⟨h1, fun a => ?_⟩
    rw [List.foldl_cons, h2 a, insU_mem, List.mem_cons]
    constructor
    · rintro (h | h | h) <;> simp [h]
    · rintro ((h | h) | h) <;> simp [h]

theorem bytesLess_iff : ∀ (a b : List UInt8), Op.bytesLess a b = true ↔ a < b
  | [], [] => by simp [Op.bytesLess]
  | [], y :: ys => by simp [Op.bytesLess]
  | x :: xs, [] => by simp [Op.bytesLess]
  | x :: xs, y :: ys => by
    have ih := bytesLess_iff xs ys
    simp only [Op.bytesLess, List.cons_lt_cons_iff]
    by_cases h : x = y
    · subst h
      simp [ih]
    · simp [h]
def mkB (x : Bs) : ByteArray := ⟨x.toArray⟩
theorem mkB_toList (x : Bs) : (mkB x).toList = x := by rw [ByteArray.toList_eq]; rfl
theorem mkB_data (x : ByteArray) : mkB x.data.toList = x := rfl

theorem bltB (a b : ByteArray) : (Op.bytesLess a.toList b.toList = true) ↔ a.data.toList < b.data.toList := by
  rw [bytesLess_iff, ByteArray.toList_eq, ByteArray.toList_eq]
theorem beqB (a b : ByteArray) : (a.toList = b.toList) ↔ a = b := by
  rw [ByteArray.toList_eq, ByteArray.toList_eq]
  constructor
  · intro h
    cases a; cases b
    congr 1
    exact Array.ext' h
  · intro h; rw [h]
theorem ext_data {a b : ByteArray} (h : a.data.toList = b.data.toList) : a = b := by
  cases a; cases b
  congr 1
  exact Array.ext' h

def settOk (x : S150) : Bool := nameOk x.f0 && inR 0 1000 x.f1
def settAt (l : List S150) (i : Nat) : Bool := settOk (l.getD i z150) && (decide (i = 0) || decide ((l.getD (i - 1) z150).f0.data.toList < (l.getD i z150).f0.data.toList))
def stateOk (l : List S150) : Bool := decide (l.length ≤ 24) && (List.range l.length).all (settAt l)
theorem rdSt (l : List S150) (i : Nat) : rd_T150 l (i : Int) = l.getD i z150 := by unfold rd_T150; rw [Int.toNat_natCast]
theorem rdSts (l : List S150) (i : Nat) (h : 0 < i) : rd_T150 l ((i : Int) - 1) = l.getD (i - 1) z150 := by
  unfold rd_T150
  congr 1
  omega
def skey (x : S150) : Bs := x.f0.data.toList
/-- What a state that is valid is: short, its names in strict order, each valid. -/
theorem stateOk_facts {l : List S150} (h : stateOk l = true) : l.length ≤ 24 ∧ (l.map skey).Pairwise (· < ·) ∧ ∀ x ∈ l, settOk x = true := by
  unfold stateOk at h
  rw [Bool.and_eq_true, decide_eq_true_eq, List.all_eq_true] at h
  obtain ⟨h1, h2⟩ := h
  have h3 : ∀ i, i < l.length → settAt l i = true := fun i hi => h2 i (List.mem_range.2 hi)
  refine ⟨h1, ?_, fun x hx => ?_⟩
  · rw [List.pairwise_iff_getElem]
    have step : ∀ i, (hi : i + 1 < l.length) → skey l[i] < skey l[i + 1] := fun i hi => by
      have := h3 (i + 1) hi
      unfold settAt at this
      rw [Bool.and_eq_true, Bool.or_eq_true, decide_eq_true_eq, decide_eq_true_eq] at this
      have h4 := this.2.resolve_left (by omega)
      rw [Nat.add_sub_cancel, getD_lt _ (by omega), getD_lt _ hi] at h4
      exact h4
    have far : ∀ m i, (hi : i + m + 1 < l.length) → skey (l[i]'(by omega)) < skey (l[i + m + 1]'hi) := by
      intro m
      induction m with
      | zero => intro i hi; exact step i hi
      | succ m ih =>
        intro i hi
        exact bs_tr (ih i (by omega)) (step (i + m + 1) hi)
    intro i j hi hj hij
    rw [List.length_map] at hi hj
    rw [List.getElem_map, List.getElem_map]
    have e : j = i + (j - i - 1) + 1 := by omega
    have := far (j - i - 1) i (by omega)
    simpa only [← e] using this
  · obtain ⟨i, hi, rfl⟩ := List.mem_iff_getElem.1 hx
    have := h3 i hi
    unfold settAt at this
    rw [Bool.and_eq_true, getD_lt _ hi] at this
    exact this.1
theorem settOk_pos {x : S150} (h : settOk x = true) : 1 ≤ x.f0.size := by
  unfold settOk nameOk at h
  rw [Bool.and_eq_true, Bool.and_eq_true, decide_eq_true_eq] at h
  exact h.1.1

/-- A state with another setting. -/
def setL (e : S150) : List S150 → Bool → List S150
  | [], done => if done = true then [] else [e]
  | x :: xs, done => if done = false ∧ ¬ skey x < skey e then e :: ((if x.f0 = e.f0 then [] else [x]) ++ setL e xs true) else (if x.f0 = e.f0 then [] else [x]) ++ setL e xs done
theorem setL_true (e : S150) : ∀ l : List S150, (∀ x ∈ l, skey e < skey x) → setL e l true = l
  | [], _ => rfl
  | x :: xs, h => by
    have h1 := h x List.mem_cons_self
    have h2 : ¬ x.f0 = e.f0 := fun h3 => by
      have : skey x = skey e := by unfold skey; rw [h3]
      rw [this] at h1
      exact bs_irr _ h1
    simp only [setL]
    rw [if_neg (by simp), if_neg h2, setL_true e xs (fun y hy => h y (List.mem_cons_of_mem _ hy))]
    rfl
theorem setL_keys (e : S150) : ∀ l : List S150, (l.map skey).Pairwise (· < ·) → (setL e l false).map skey = insU (skey e) (l.map skey)
  | [], _ => rfl
  | x :: xs, h => by
    rw [List.map_cons] at h
    obtain ⟨h1, h2⟩ := List.pairwise_cons.1 h
    have hk : ∀ y ∈ xs, skey x < skey y := fun y hy => h1 _ (List.mem_map.2 ⟨y, hy, rfl⟩)
    simp only [setL, List.map_cons, insU]
    by_cases a : skey x < skey e
    · rw [if_neg (by simp [a]), if_pos a]
      have h3 : ¬ x.f0 = e.f0 := fun h3 => by
        have : skey x = skey e := by unfold skey; rw [h3]
        rw [this] at a
        exact bs_irr _ a
      rw [if_neg h3, List.map_append, setL_keys e xs h2]
      rfl
    · rw [if_pos (by simp [a]), if_neg a]
      by_cases b : skey x = skey e
      · have h3 : x.f0 = e.f0 := ext_data b
        rw [if_pos h3, if_pos b, List.nil_append, setL_true e xs (fun y hy => by rw [← b]; exact hk y hy), List.map_cons, b]
      · have h3 : ¬ x.f0 = e.f0 := fun h3 => b (by unfold skey; rw [h3])
        have c : skey e < skey x := bs_tri a b
        rw [if_neg h3, if_neg b, setL_true e xs (fun y hy => bs_tr c (hk y hy))]
        rfl
theorem setL_len (e : S150) : ∀ (l : List S150) (d : Bool), (setL e l d).length ≤ l.length + 1
  | [], d => by cases d <;> simp [setL]
  | x :: xs, d => by
    have h1 := setL_len e xs true
    have h2 := setL_len e xs d
    have h3 : ((if x.f0 = e.f0 then [] else [x]) : List S150).length ≤ 1 := by split <;> simp
    simp only [setL]
    split
    · rename_i h
      have h4 : ∀ ys : List S150, (setL e ys true).length ≤ ys.length := by
        intro ys
        induction ys with
        | nil => simp [setL]
        | cons y ys ih =>
          have h5 : ((if y.f0 = e.f0 then [] else [y]) : List S150).length ≤ 1 := by split <;> simp
          simp only [setL]
          rw [if_neg (by simp), List.length_append, List.length_cons]
          omega
      have := h4 xs
      simp only [List.length_cons, List.length_append]
      omega
    · simp only [List.length_cons, List.length_append]
      omega
def allL (l acc : List S150) : List S150 := l.foldl (fun o e => setL e o false) acc
theorem allL_len : ∀ (l acc : List S150), (allL l acc).length ≤ acc.length + l.length
  | [], acc => by simp [allL]
  | e :: l, acc => by
    have h1 := allL_len l (setL e acc false)
    have h2 := setL_len e acc false
    unfold allL at h1 ⊢
    simp only [List.foldl_cons, List.length_cons]
    omega
theorem allL_keys : ∀ (l acc : List S150), (acc.map skey).Pairwise (· < ·) → (allL l acc).map skey = (l.map skey).foldl (fun o x => insU x o) (acc.map skey) ∧ ((allL l acc).map skey).Pairwise (· < ·)
  | [], acc, h => ⟨rfl, h⟩
  | e :: l, acc, h => by
    have h1 := setL_keys e acc h
    have h2 : ((setL e acc false).map skey).Pairwise (· < ·) := by rw [h1]; exact insU_strict _ _ h
    obtain ⟨h3, h4⟩ := allL_keys l (setL e acc false) h2
    refine ⟨?_, h4⟩
    rw [List.map_cons, List.foldl_cons, ← h1]
    exact h3
def nmB (base a b : List S150) : List Bs := ((base ++ (a ++ b)).map skey).foldl (fun o x => insU x o) []
theorem nmB_all (base a b : List S150) : (allL b (allL a (allL base []))).map skey = nmB base a b := by
  obtain ⟨h1, h2⟩ := allL_keys base [] List.Pairwise.nil
  obtain ⟨h3, h4⟩ := allL_keys a _ h2
  obtain ⟨h5, _⟩ := allL_keys b _ h4
  rw [h5, h3, h1]
  unfold nmB
  rw [List.map_append, List.map_append, List.foldl_append, List.foldl_append]
  rfl
theorem mkB_skey (x : S150) : mkB (skey x) = x.f0 := rfl
theorem nmB_len (base a b : List S150) : (nmB base a b).length ≤ base.length + a.length + b.length := by
  have h1 := allL_len base []
  have h2 := allL_len a (allL base [])
  have h3 := allL_len b (allL a (allL base []))
  rw [← nmB_all, List.length_map]
  simp only [List.length_nil] at h1
  omega
theorem nmB_mem {base a b : List S150} {n : ByteArray} (h : n ∈ (nmB base a b).map mkB) : ∃ x, (x ∈ base ∨ x ∈ a ∨ x ∈ b) ∧ n = x.f0 := by
  obtain ⟨y, hy, rfl⟩ := List.mem_map.1 h
  unfold nmB at hy
  rw [(foldU_spec _ [] List.Pairwise.nil).2] at hy
  rcases hy with hy | hy
  · obtain ⟨x, hx, rfl⟩ := List.mem_map.1 hy
    rw [List.mem_append, List.mem_append] at hx
    exact ⟨x, hx, rfl⟩
  · cases hy

/-- The place of a name: how many come before it. -/
def plc (e : Bs) : List S150 → Nat
  | [] => 0
  | y :: r => if skey y < e then plc e r + 1 else 0
def hasP (l : List S150) (e : Bs) : Bool := decide (plc e l < l.length) && decide (skey (l.getD (plc e l) z150) = e)
theorem plc_le (e : Bs) : ∀ l : List S150, plc e l ≤ l.length
  | [] => Nat.le_refl _
  | y :: r => by
    rw [plc, List.length_cons]
    have := plc_le e r
    split <;> omega
theorem plc_lt (e : Bs) : ∀ (l : List S150) (t : Nat), t < plc e l → skey (l.getD t z150) < e
  | [], t, h => absurd h (Nat.not_lt_zero _)
  | y :: r, t, h => by
    rw [plc] at h
    split at h
    · rename_i hy
      cases t with
      | zero => exact hy
      | succ t => exact plc_lt e r t (by omega)
    · exact absurd h (Nat.not_lt_zero _)
theorem plc_ge (e : Bs) : ∀ (l : List S150), (l.map skey).Pairwise (· < ·) → ∀ t : Nat, plc e l ≤ t → t < l.length → ¬ skey (l.getD t z150) < e
  | [], _, t, _, h => absurd h (Nat.not_lt_zero _)
  | y :: r, hs, t, h, hl => by
    rw [List.map_cons] at hs
    obtain ⟨h1, h2⟩ := List.pairwise_cons.1 hs
    rw [plc] at h
    split at h
    · rename_i hy
      cases t with
      | zero => omega
      | succ t => exact plc_ge e r h2 t (by omega) (by simpa using hl)
    · rename_i hy
      cases t with
      | zero => exact hy
      | succ t =>
        intro h3
        have hm : (r.getD t z150) ∈ r := getD_mem _ (by simpa using hl)
        exact hy (bs_tr (h1 _ (List.mem_map.2 ⟨_, hm, rfl⟩)) h3)
theorem hasP_cons (e : Bs) (y : S150) (r : List S150) : hasP (y :: r) e = if skey y < e then hasP r e else decide (skey y = e) := by
  unfold hasP
  rw [plc]
  split
  · rw [List.length_cons, List.getD_cons_succ]
    congr 1
    exact decide_eq_decide.2 (by omega)
  · rw [List.length_cons, List.getD_cons_zero, decide_eq_true (by omega), Bool.true_and]
theorem setL_plc (x : S150) : ∀ l : List S150, (l.map skey).Pairwise (· < ·) → setL x l false = if hasP l (skey x) = true then l.set (plc (skey x) l) x else l.take (plc (skey x) l) ++ x :: l.drop (plc (skey x) l)
  | [], _ => rfl
  | y :: r, hs => by
    rw [List.map_cons] at hs
    obtain ⟨h1, h2⟩ := List.pairwise_cons.1 hs
    have hk : ∀ z ∈ r, skey y < skey z := fun z hz => h1 _ (List.mem_map.2 ⟨z, hz, rfl⟩)
    have ih := setL_plc x r h2
    rw [hasP_cons]
    simp only [setL, plc]
    by_cases a : skey y < skey x
    · have h3 : ¬ y.f0 = x.f0 := fun h3 => by
        have : skey y = skey x := by unfold skey; rw [h3]
        rw [this] at a
        exact bs_irr _ a
      rw [if_neg (by simp [a]), if_neg h3, if_pos a, if_pos a, ih]
      cases hasP r (skey x) with
      | true => simp
      | false => simp
    · rw [if_pos (by simp [a]), if_neg a, if_neg a]
      by_cases b : skey y = skey x
      · have h3 : y.f0 = x.f0 := ext_data b
        rw [if_pos h3, List.nil_append, setL_true x r (fun z hz => by rw [← b]; exact hk z hz), if_pos (decide_eq_true b)]
        rfl
      · have h3 : ¬ y.f0 = x.f0 := fun h3 => b (by unfold skey; rw [h3])
        have c : skey x < skey y := bs_tri a b
        rw [if_neg h3, setL_true x r (fun z hz => bs_tr c (hk z hz)), if_neg (by simpa using b)]
        rfl
theorem setL_sorted {l : List S150} (h : (l.map skey).Pairwise (· < ·)) (x : S150) : ((setL x l false).map skey).Pairwise (· < ·) := by
  rw [setL_keys x l h]
  exact insU_strict _ _ h
theorem setL_length {l : List S150} (h : (l.map skey).Pairwise (· < ·)) (x : S150) : (setL x l false).length = if hasP l (skey x) = true then l.length else l.length + 1 := by
  rw [setL_plc x l h]
  have := plc_le (skey x) l
  split
  · rw [List.length_set]
  · rw [List.length_append, List.length_take, List.length_cons, List.length_drop]; omega
/-- Where a name stands in a state, or -1. -/
def atI (l : List S150) (e : Bs) : Int := if hasP l e = true then (plc e l : Int) else -1
theorem eq_key (y : S150) (n : ByteArray) : (y.f0.toList = n.toList) ↔ skey y = n.data.toList := by
  rw [beqB]
  exact ⟨fun h => by unfold skey; rw [h], fun h => ext_data h⟩

def sameS (u v : S150) : Bool := u.f0.toList == v.f0.toList && (u.f1 == v.f1)

def chOk (c : S152) : Bool := (c.f0 == 1 || c.f0 == 2) && settOk c.f1
/-- Changes made one by one. -/
def apG : List S152 → List S150 → List S150 × Int
  | [], out => (out, 0)
  | c :: r, out => if c.f0 = 1 then (if (setL c.f1 out false).length > 24 then ([], 5) else apG r (setL c.f1 out false)) else if hasP out (skey c.f1) = true then (if sameS (out.getD (plc (skey c.f1) out) z150) c.f1 = true then apG r (out.take (plc (skey c.f1) out) ++ out.drop (plc (skey c.f1) out + 1)) else ([], 6)) else ([], 3)
def apR (l : List S150) (cs : List S152) : List S150 × Int := if stateOk l = true then (if cs.all chOk = true then apG cs l else ([], 1)) else ([], 1)
theorem cut_sub (l : List S150) (p : Nat) : (l.take p ++ l.drop (p + 1)).Sublist l := by
  have h : (l.drop (p + 1)).Sublist (l.drop p) := by
    rw [← List.drop_drop]
    exact List.drop_sublist _ _
  have := (List.Sublist.refl (l.take p)).append h
  rwa [List.take_append_drop] at this
theorem cut_sorted {l : List S150} (h : (l.map skey).Pairwise (· < ·)) (p : Nat) : ((l.take p ++ l.drop (p + 1)).map skey).Pairwise (· < ·) := h.sublist ((cut_sub l p).map _)

theorem specIn_eq (a lo hi : Int) : spec_l00In.f a lo hi = some (inR lo hi a) := by
  unfold spec_l00In.f inR
  by_cases h : a ≥ lo
  · rw [if_pos h, decide_eq_true (show lo ≤ a from h)]; rfl
  · rw [if_neg h, decide_eq_false (show ¬ lo ≤ a from h)]; rfl

theorem specSmall_eq (c : Int) : spec_l01Small.f c = some (smallC c) := by
  unfold spec_l01Small.f smallC
  by_cases h : c ≥ 97
  · rw [if_pos h, decide_eq_true (show 97 ≤ c from h)]; rfl
  · rw [if_neg h, decide_eq_false (show ¬ 97 ≤ c from h)]; rfl

theorem specDigit_eq (c : Int) : spec_l01Digit.f c = some (digitC c) := by
  unfold spec_l01Digit.f digitC
  by_cases h : c ≥ 48
  · rw [if_pos h, decide_eq_true (show 48 ≤ c from h)]; rfl
  · rw [if_neg h, decide_eq_false (show ¬ 48 ≤ c from h)]; rfl

/-- A loop that looks at all elements: on, or out with b; at the end c. -/
theorem ev_all {α ρ : Type} (L : Nat → Int → Option ρ) (xs : List α) (d : α) (p : α → Bool) (b c : ρ)
    (step : ∀ i, i < xs.length → p (xs.getD i d) = true → ∀ r, Ev (fun k => L k ((i + 1 : Nat) : Int)) r → Ev (fun k => L k (i : Int)) r)
    (bad : ∀ i, i < xs.length → p (xs.getD i d) = false → Ev (fun k => L k (i : Int)) b)
    (fin : Ev (fun k => L k (xs.length : Int)) c) : Ev (fun k => L k 0) (if xs.all p = true then c else b) := by
  have key : ∀ (m i : Nat), i + m = xs.length → Ev (fun k => L k (i : Int)) (if (xs.drop i).all p = true then c else b) := by
    intro m
    induction m with
    | zero =>
      intro i hi
      have : i = xs.length := by omega
      subst this
      rw [List.drop_length]
      exact fin
    | succ m ih =>
      intro i hi
      have hlt : i < xs.length := by omega
      rw [List.drop_eq_getElem_cons hlt, List.all_cons, ← getD_lt d hlt]
      cases hp : p (xs.getD i d) with
      | true => rw [Bool.true_and]; exact step i hlt hp _ (ih (i + 1) (by omega))
      | false => rw [Bool.false_and, if_neg (by decide)]; exact bad i hlt hp
  exact key xs.length 0 (by omega)
/-- The loop that counts what is read. -/
theorem ev_sz {α : Type} (L : Nat → Int → Int → Option Int) (xs : List α) (d : α) (B : α → Prop)
    (step : ∀ i a, i < xs.length → 0 ≤ a → a ≤ 1048576 → Ev (fun k => L k a (i : Int)) (-1) ∨ (∃ a', 0 ≤ a' ∧ a' ≤ a ∧ B (xs.getD i d) ∧ ∀ r, Ev (fun k => L k a' ((i + 1 : Nat) : Int)) r → Ev (fun k => L k a (i : Int)) r))
    (fin : ∀ a, Ev (fun k => L k a (xs.length : Int)) a) : ∀ a, 0 ≤ a → a ≤ 1048576 → ∃ r, Ev (fun k => L k a 0) r ∧ (r < 0 ∨ (0 ≤ r ∧ r ≤ a ∧ ∀ x ∈ xs, B x)) := by
  have key : ∀ (m i : Nat) (a : Int), i + m = xs.length → 0 ≤ a → a ≤ 1048576 → ∃ r, Ev (fun k => L k a (i : Int)) r ∧ (r < 0 ∨ (0 ≤ r ∧ r ≤ a ∧ ∀ j, i ≤ j → j < xs.length → B (xs.getD j d))) := by
    intro m
    induction m with
    | zero =>
      intro i a hi h0 h1
      have : i = xs.length := by omega
      subst this
      exact ⟨a, fin a, .inr ⟨h0, Int.le_refl _, fun j h2 h3 => by omega⟩⟩
    | succ m ih =>
      intro i a hi h0 h1
      rcases step i a (by omega) h0 h1 with h | ⟨a', h2, h3, hB, h⟩
      · exact ⟨-1, h, .inl (by decide)⟩
      · obtain ⟨r, hr, hq⟩ := ih (i + 1) a' (by omega) h2 (by omega)
        refine ⟨r, h r hr, ?_⟩
        rcases hq with hq | ⟨q0, q1, q2⟩
        · exact .inl hq
        · refine .inr ⟨q0, by omega, fun j h4 h5 => ?_⟩
          by_cases e : j = i
          · subst e; exact hB
          · exact q2 j (by omega) h5
  intro a h0 h1
  obtain ⟨r, hr, hq⟩ := key xs.length 0 a (by omega) h0 h1
  refine ⟨r, hr, hq.imp_right fun ⟨q0, q1, q2⟩ => ⟨q0, q1, fun x hx => ?_⟩⟩
  obtain ⟨j, hj, rfl⟩ := List.mem_iff_getElem.1 hx
  rw [← getD_lt d hj]
  exact q2 j (Nat.zero_le _) hj

theorem specName_ev (b : ByteArray) : Ev (fun k => spec_l01Name.f k b) (nameOk b) := by
  unfold spec_l01Name.f nameOk
  have hz : b.toList = ([] : List UInt8) ↔ b.size = 0 := by
    rw [ByteArray.toList_eq, show b.size = b.data.toList.length from rfl]
    exact List.length_eq_zero_iff.symm
  by_cases h1 : b.size < 1
  · rw [decide_eq_false (by omega), Bool.false_and]
    simp only [show b.toList = ([] : List UInt8) from hz.2 (by omega), if_true]
    exact Ev.step (f := fun _ => some false) (fun k => by simp [spec_l01Name.j0]) (Ev.now _)
  · rw [decide_eq_true (show 1 ≤ b.size by omega), Bool.true_and]
    simp only [show ¬ b.toList = ([] : List UInt8) from fun e => by have := hz.1 e; omega, if_false]
    by_cases h10 : b.size > 10
    · rw [decide_eq_false (show ¬ b.size ≤ 10 by omega), Bool.false_and]
      simp only [show (b.size : Int) > 10 by omega, if_true]
      exact Ev.step (f := fun _ => some false) (fun k => by simp [spec_l01Name.j0]) (Ev.now _)
    · rw [decide_eq_true (show b.size ≤ 10 by omega), Bool.true_and]
      simp only [show ¬ (b.size : Int) > 10 by omega, if_false, show 0 < (b.size : Int) by omega, if_true, specSmall_eq, Option.bind_some]
      cases hs : smallC (bt b 0) with
      | false =>
        rw [Bool.false_and]
        exact Ev.step (f := fun _ => some false) (fun k => by simp [spec_l01Name.j0]) (Ev.now _)
      | true =>
        rw [Bool.true_and]
        refine Ev.step (f := fun k => spec_l01Name.l0 k b 0) (fun k => by simp [spec_l01Name.j0]) ?_
        have key := ev_all (fun k i => spec_l01Name.l0 k b i) (List.range b.size) 0 (fun i => nameC (bt b i)) false true (fun i hi hp s hs2 => ?_) (fun i hi hp => ?_) ?_
        · revert key
          cases (List.range b.size).all fun i => nameC (bt b i) <;> exact id
        · rw [List.length_range] at hi
          rw [getD_lt 0 (by simpa using hi), List.getElem_range] at hp
          refine Ev.step (fun k => ?_) hs2
          simp only [spec_l01Name.l0]
          rw [if_pos (by omega), if_pos (by omega), specSmall_eq, specDigit_eq]
          simp only [Option.bind_some]
          unfold nameC at hp
          cases h3 : smallC (bt b i) with
          | true => rw [if_pos rfl, w64 (by omega) (by omega)]; rfl
          | false =>
            rw [h3, Bool.false_or] at hp
            rw [hp, if_neg (by decide), if_pos rfl, w64 (by omega) (by omega)]
            rfl
        · rw [List.length_range] at hi
          rw [getD_lt 0 (by simpa using hi), List.getElem_range] at hp
          refine Ev.step (f := fun _ => some false) (fun k => ?_) (Ev.now _)
          simp only [spec_l01Name.l0]
          unfold nameC at hp
          rw [Bool.or_eq_false_iff] at hp
          rw [if_pos (by omega), if_pos (by omega), specSmall_eq, specDigit_eq, hp.1, hp.2]
          rfl
        · refine Ev.step (f := fun _ => some true) (fun k => ?_) (Ev.now _)
          simp only [spec_l01Name.l0]
          rw [List.length_range, if_neg (by omega)]

theorem Ev.succ {α : Type} {g : Nat → Option α} {r : α} (h : Ev (fun k => g (k + 1)) r) : Ev g r := Ev.step (fun _ => rfl) h
theorem Ev.now' {α : Type} {a b : α} (h : a = b) : Ev (fun _ => some a) b := h ▸ Ev.now a
theorem Ev.uniq {α : Type} {g : Nat → Option α} {a b : α} (h : Ev g a) (k : Ev g b) : a = b := by
  obtain ⟨K, h⟩ := h
  obtain ⟨K', k⟩ := k
  have h1 := h (max K K') (by omega)
  have h2 := k (max K K') (by omega)
  rw [h1] at h2
  exact Option.some.inj h2
theorem lit_i64 {x : Int} (h : (Lit.int .i64 x).wf = true) : -9223372036854775808 ≤ x ∧ x ≤ 9223372036854775807 := by
  have h2 : (decide (IntKind.i64.min ≤ x) && decide (x ≤ IntKind.i64.max)) = true := h
  simp only [Bool.and_eq_true, decide_eq_true_eq] at h2
  exact h2
/-- A loop over a list: on with another state, or out. -/
def runL {α σ ρ : Type} (body : Nat → σ → α → σ ⊕ ρ) (fin : σ → ρ) : Nat → List α → σ → ρ
  | _, [], s => fin s
  | i, x :: xs, s => match body i s x with | .inl s' => runL body fin (i + 1) xs s' | .inr r => r
theorem ev_run {α σ ρ : Type} (L : Nat → σ → Int → Option ρ) (body : Nat → σ → α → σ ⊕ ρ) (f : σ → ρ) (xs : List α) (d : α) (I : Nat → σ → Prop) (s0 : σ) (h0 : I 0 s0)
    (step : ∀ i s, i < xs.length → I i s → ∀ r, (match body i s (xs.getD i d) with | .inl s' => I (i + 1) s' ∧ Ev (fun k => L k s' ((i : Int) + 1)) r | .inr r' => r' = r) → Ev (fun k => L k s i) r)
    (keep : ∀ i s s', i < xs.length → I i s → body i s (xs.getD i d) = .inl s' → I (i + 1) s')
    (fin : ∀ s, I xs.length s → Ev (fun k => L k s xs.length) (f s)) : Ev (fun k => L k s0 0) (runL body f 0 xs s0) := by
  have key : ∀ (m i : Nat) (s : σ), i + m = xs.length → I i s → Ev (fun k => L k s (i : Int)) (runL body f i (xs.drop i) s) := by
    intro m
    induction m with
    | zero =>
      intro i s hi hI
      have : i = xs.length := by omega
      subst this
      rw [List.drop_length]
      exact fin s hI
    | succ m ih =>
      intro i s hi hI
      have hlt : i < xs.length := by omega
      refine step i s hlt hI _ ?_
      rw [List.drop_eq_getElem_cons hlt]
      simp only [runL]
      rw [← getD_lt d hlt]
      cases hb : body i s (xs.getD i d) with
      | inl s' => exact ⟨keep i s s' hlt hI hb, ih (i + 1) s' (by omega) (keep i s s' hlt hI hb)⟩
      | inr r => rfl
  exact key xs.length 0 s0 (by omega) h0

theorem specSett_ev (x : S150) : Ev (fun k => spec_l27Setting.f k [x]) (settOk x) := by
  unfold spec_l27Setting.f settOk
  have e : rd_T150 [x] 0 = x := rfl
  simp only [e, List.length_singleton, show (0 : Int) < ((1 : Nat) : Int) by decide, if_true, specIn_eq, Option.bind_some]
  refine Ev.bind (specName_ev x.f0) ?_
  cases nameOk x.f0 with
  | false => exact Ev.now _
  | true => exact Ev.now _
theorem specState_ev (l : List S150) (hl : l.length ≤ 1048576) : Ev (fun k => spec_l27State.f k l) (stateOk l) := by
  unfold spec_l27State.f
  have key := ev_all (fun k i => spec_l27State.l0 k l i) (List.range l.length) 0 (settAt l) false (decide (l.length ≤ 24)) (fun i hi hp s hs => ?_) (fun i hi hp => ?_) ?_
  · unfold stateOk
    revert key
    cases (List.range l.length).all (settAt l) with
    | true => rw [Bool.and_true]; exact id
    | false => rw [Bool.and_false]; exact id
  · rw [List.length_range] at hi
    rw [getD_lt 0 (by simpa using hi), List.getElem_range] at hp
    unfold settAt at hp
    rw [Bool.and_eq_true, Bool.or_eq_true, decide_eq_true_eq, decide_eq_true_eq] at hp
    refine Ev.succ ?_
    simp (disch := omega) only [spec_l27State.l0, if_pos, w64, rdSt]
    have h1 := specSett_ev (l.getD i z150)
    rw [hp.1] at h1
    refine Ev.bind h1 ?_
    by_cases h0 : 0 < i
    · have := hp.2.resolve_left (by omega)
      simp (disch := omega) only [rdSts, if_pos, if_neg, bltB, this, if_true]
      exact hs
    · simp (disch := omega) only [if_pos, if_neg]
      exact hs
  · rw [List.length_range] at hi
    rw [getD_lt 0 (by simpa using hi), List.getElem_range] at hp
    unfold settAt at hp
    refine Ev.succ ?_
    simp (disch := omega) only [spec_l27State.l0, if_pos, w64, rdSt]
    refine Ev.bind (specSett_ev (l.getD i z150)) ?_
    cases ho : settOk (l.getD i z150) with
    | false => exact Ev.now _
    | true =>
      rw [ho, Bool.true_and, Bool.or_eq_false_iff, decide_eq_false_iff_not, decide_eq_false_iff_not] at hp
      simp (disch := omega) only [rdSts, if_pos, if_neg, bltB, hp.2, if_false]
      exact Ev.now _
  · refine Ev.succ ?_
    simp only [spec_l27State.l0, List.length_range, Int.lt_irrefl, if_false]
    exact Ev.now' (by rw [decide_eq_decide]; omega)

/-- A loop that appends one element a round. -/
theorem ev_build {β ρ : Type} (L : Nat → List β → Int → Option ρ) (n : Nat) (f : Nat → β) (r : ρ)
    (step : ∀ i acc, i < n → acc.length = i → acc = (List.range i).map f → Ev (fun k => L k (acc ++ [f i]) ((i + 1 : Nat) : Int)) r → Ev (fun k => L k acc (i : Int)) r)
    (fin : Ev (fun k => L k ((List.range n).map f) (n : Int)) r) : Ev (fun k => L k [] 0) r := by
  have key : ∀ (m i : Nat), i + m = n → Ev (fun k => L k ((List.range i).map f) (i : Int)) r := by
    intro m
    induction m with
    | zero =>
      intro i hi
      have : i = n := by omega
      subst this
      exact fin
    | succ m ih =>
      intro i hi
      refine step i _ (by omega) (by simp) rfl ?_
      have := ih (i + 1) (by omega)
      rwa [List.range_succ, List.map_append] at this
  exact key n 0 (by omega)
/-- A loop that stores one element a round. -/
theorem ev_fill {β ρ : Type} (L : Nat → List β → Int → Option ρ) (base : List β) (d : β) (f : Nat → β) (r : ρ)
    (step : ∀ i acc, i < base.length → acc.length = base.length → acc.getD i d = base.getD i d → Ev (fun k => L k (acc.set i (f i)) ((i + 1 : Nat) : Int)) r → Ev (fun k => L k acc (i : Int)) r)
    (fin : Ev (fun k => L k ((List.range base.length).map f) (base.length : Int)) r) : Ev (fun k => L k base 0) r := by
  have key : ∀ (m i : Nat), i + m = base.length → Ev (fun k => L k ((List.range i).map f ++ base.drop i) (i : Int)) r := by
    intro m
    induction m with
    | zero =>
      intro i hi
      have : i = base.length := by omega
      subst this
      rw [List.drop_length, List.append_nil]
      exact fin
    | succ m ih =>
      intro i hi
      have hlt : i < base.length := by omega
      refine step i _ hlt (by simp; omega) ?_ ?_
      · rw [List.getD_eq_getElem?_getD, List.getD_eq_getElem?_getD, List.getElem?_append_right (by simp)]
        simp
      · have := ih (i + 1) (by omega)
        rw [List.range_succ, List.map_append, List.append_assoc] at this
        have e : ((List.range i).map f ++ base.drop i).set i (f i) = (List.range i).map f ++ ([i].map f ++ base.drop (i + 1)) := by
          rw [List.set_append_right _ _ (by simp), List.drop_eq_getElem_cons hlt, List.length_map, List.length_range, Nat.sub_self, List.set_cons_zero]
          rfl
        rw [e]
        exact this
  exact key base.length 0 (by omega)
theorem getD_map_range {β : Type} (n : Nat) (f : Nat → β) (d : β) {i : Nat} (h : i < n) : ((List.range n).map f).getD i d = f i := by
  rw [List.getD_eq_getElem?_getD, List.getElem?_map, List.getElem?_range h]; rfl

theorem specSet_ev (l : List S150) (e : S150) (hl : l.length ≤ 1048576) : Ev (fun k => spec_l27Set.f k l e.f0 e.f1) (setL e l false) := by
  unfold spec_l27Set.f
  have key : ∀ (m i : Nat) (out : List S150) (done : Bool), i + m = l.length → out.length ≤ 2 * i → Ev (fun k => spec_l27Set.l0 k l out done i e.f0 e.f1) (out ++ setL e (l.drop i) done) := by
    intro m
    induction m with
    | zero =>
      intro i out done hi ho
      rw [List.drop_of_length_le (by omega)]
      refine Ev.succ ?_
      simp (disch := omega) only [spec_l27Set.l0, if_neg]
      cases done with
      | true => simp only [if_true, setL, List.append_nil]; exact Ev.now _
      | false =>
        simp only [Bool.false_eq_true, if_false, setL]
        simp (disch := omega) only [if_pos]
        exact Ev.now _
    | succ m ih =>
      intro i out done hi ho
      have hlt : i < l.length := by omega
      rw [List.drop_eq_getElem_cons hlt]
      have er : rd_T150 l (i : Int) = l[i] := by rw [rdSt, getD_lt _ hlt]
      generalize hx : l[i] = x at er
      have eta : (⟨x.f0, x.f1⟩ : S150) = x := rfl
      have eta2 : (⟨e.f0, e.f1⟩ : S150) = e := rfl
      have tailE : ∀ (out2 : List S150) (d2 : Bool), out2.length ≤ 2 * i + 1 →
          (Ev (fun k => spec_l27Set.l0 k l (out2 ++ if x.f0 = e.f0 then [] else [x]) d2 ((i : Int) + 1) e.f0 e.f1) (out2 ++ ((if x.f0 = e.f0 then [] else [x]) ++ setL e (l.drop (i + 1)) d2))) := by
        intro out2 d2 h2
        have h3 : ((if x.f0 = e.f0 then [] else [x]) : List S150).length ≤ 1 := by split <;> simp
        have h := ih (i + 1) (out2 ++ if x.f0 = e.f0 then [] else [x]) d2 (by omega) (by rw [List.length_append]; omega)
        rw [List.append_assoc] at h
        exact h
      simp only [setL]
      by_cases hc : done = false ∧ ¬ skey x < skey e
      · rw [if_pos hc]
        obtain ⟨hd, hn⟩ := hc
        subst hd
        have hb : Op.bytesLess x.f0.toList e.f0.toList = false := by
          cases hq : Op.bytesLess x.f0.toList e.f0.toList with
          | false => rfl
          | true => exact absurd ((bltB _ _).1 hq) hn
        have h := tailE (out ++ [e]) true (by rw [List.length_append, List.length_singleton]; omega)
        have h4 : (out ++ [e]).length < 5864062014805 := by rw [List.length_append, List.length_singleton]; omega
        refine Ev.succ ?_
        simp (disch := omega) only [spec_l27Set.l0, if_pos, er, hb, Bool.not_false, Bool.false_eq_true, if_false]
        refine Ev.succ ?_
        simp (disch := omega) only [spec_l27Set.j1, if_true, if_pos, er, eta, eta2, Option.bind_some, w64, beqB, h4]
        rw [show out ++ (e :: ((if x.f0 = e.f0 then [] else [x]) ++ setL e (l.drop (i + 1)) true)) = out ++ [e] ++ ((if x.f0 = e.f0 then [] else [x]) ++ setL e (l.drop (i + 1)) true) by simp]
        by_cases hne : x.f0 = e.f0
        · simp only [hne, if_true, List.append_nil] at h ⊢
          exact h
        · simp only [hne, if_false] at h ⊢
          exact h
      · rw [if_neg hc]
        have h := tailE out done (by omega)
        refine Ev.succ ?_
        have hj : Ev (fun k => spec_l27Set.j1 k l out done i false e.f0 e.f1) (out ++ ((if x.f0 = e.f0 then [] else [x]) ++ setL e (l.drop (i + 1)) done)) := by
          refine Ev.succ ?_
          simp (disch := omega) only [spec_l27Set.j1, Bool.false_eq_true, if_false, if_pos, er, eta, Option.bind_some, w64, beqB]
          by_cases hne : x.f0 = e.f0
          · simp only [hne, if_true, List.append_nil] at h ⊢
            exact h
          · simp only [hne, if_false] at h ⊢
            exact h
        cases done with
        | true =>
          simp (disch := omega) only [spec_l27Set.l0, if_pos, if_true]
          exact hj
        | false =>
          have hb : Op.bytesLess x.f0.toList e.f0.toList = true := (bltB _ _).2 (Classical.byContradiction fun h5 => hc ⟨rfl, h5⟩)
          simp (disch := omega) only [spec_l27Set.l0, if_pos, er, hb, Bool.not_true, Bool.false_eq_true, if_false]
          exact hj
  have := key l.length 0 [] false (by omega) (by simp)
  simpa using this

theorem specAtP_ev (l : List S150) (n : ByteArray) (hl : l.length ≤ 1048576) (hs : (l.map skey).Pairwise (· < ·)) : Ev (fun k => spec_l27At.f k l n) (atI l n.data.toList) := by
  unfold spec_l27At.f
  have hp := plc_le n.data.toList l
  have rdS : ∀ i : Nat, rd_T150 l (i : Int) = l.getD i z150 := fun i => rdSt l i
  have key : ∀ (m i : Nat), i + m = l.length → (∀ t, t < i → ¬ skey (l.getD t z150) = n.data.toList) → Ev (fun k => spec_l27At.l0 k l n (i : Int)) (atI l n.data.toList) := by
    intro m
    induction m with
    | zero =>
      intro i hi hb
      have hh : hasP l n.data.toList = false := by
        unfold hasP
        by_cases c : plc n.data.toList l < l.length
        · rw [decide_eq_false (hb _ (by omega)), Bool.and_false]
        · rw [decide_eq_false c, Bool.false_and]
      refine Ev.succ ?_
      simp only [spec_l27At.l0, show ¬ (i : Int) < (l.length : Int) by omega, if_false]
      unfold atI
      rw [hh]
      exact Ev.now _
    | succ m ih =>
      intro i hi hb
      refine Ev.succ ?_
      simp only [spec_l27At.l0, show (i : Int) < (l.length : Int) by omega, if_true, show (0 : Int) ≤ (i : Int) by omega, rdS, eq_key]
      by_cases c : skey (l.getD i z150) = n.data.toList
      · have h1 : ¬ i < plc n.data.toList l := fun h => by
          have := plc_lt _ l i h
          rw [c] at this
          exact bs_irr _ this
        have h2 : plc n.data.toList l = i := by
          refine Classical.byContradiction fun h3 => ?_
          have h4 : plc n.data.toList l < i := by omega
          have h5 := plc_ge n.data.toList l hs (plc n.data.toList l) (Nat.le_refl _) (by omega)
          have h6 := hb _ h4
          have h7 := List.pairwise_iff_getElem.1 hs (plc n.data.toList l) i (by rw [List.length_map]; omega) (by rw [List.length_map]; omega) h4
          rw [List.getElem_map, List.getElem_map, ← getD_lt z150, ← getD_lt z150, c] at h7
          exact h5 h7
        have hh : hasP l n.data.toList = true := by
          unfold hasP
          rw [h2, decide_eq_true c, decide_eq_true (by omega)]
          rfl
        simp only [c, if_true]
        unfold atI
        rw [hh, h2]
        exact Ev.now _
      · simp only [c, if_false]
        rw [w64 (by omega) (by omega)]
        have hh := ih (i + 1) (by omega) (fun t ht => by
          by_cases d : t = i
          · subst d; exact c
          · exact hb t (by omega))
        push_cast at hh
        exact hh
  exact key l.length 0 (by omega) (fun t ht => absurd ht (Nat.not_lt_zero _))

theorem specChange_ev (c : S152) : Ev (fun k => spec_l27Change.f k [c]) (chOk c) := by
  unfold spec_l27Change.f
  have e0 : rd_T152 [c] 0 = c := rfl
  simp only [List.length_singleton, show (0 : Int) < ((1 : Nat) : Int) by decide, if_true, e0]
  have hin : spec_l00In.f c.f0 1 2 = some (c.f0 == 1 || c.f0 == 2) := by
    unfold spec_l00In.f
    by_cases h1 : c.f0 ≥ 1
    · rw [if_pos h1]
      congr 1
      by_cases h2 : c.f0 ≤ 2
      · rw [decide_eq_true h2]
        have : c.f0 = 1 ∨ c.f0 = 2 := by omega
        rcases this with h | h <;> rw [h] <;> rfl
      · rw [decide_eq_false h2]
        have a : (c.f0 == 1) = false := by rw [beq_eq_false_iff_ne]; omega
        have b : (c.f0 == 2) = false := by rw [beq_eq_false_iff_ne]; omega
        rw [a, b]; rfl
    · rw [if_neg h1]
      have a : (c.f0 == 1) = false := by rw [beq_eq_false_iff_ne]; omega
      have b : (c.f0 == 2) = false := by rw [beq_eq_false_iff_ne]; omega
      rw [a, b]; rfl
  rw [hin]
  simp only [Option.bind_some]
  unfold chOk
  cases (c.f0 == 1 || c.f0 == 2) with
  | true => simp only [if_true, Bool.true_and]; exact specSett_ev _
  | false => simp only [Bool.false_eq_true, if_false, Bool.false_and]; exact Ev.now _
theorem rdCh (l : List S152) (i : Nat) : rd_T152 l (i : Int) = l.getD i z152 := by unfold rd_T152; rw [Int.toNat_natCast]
theorem specAp1_eq (k : Nat) (cs : List S152) (i : Nat) (hi : i < cs.length) (hc : cs.length ≤ 1048576) (out : List S150) : spec_ApplyChanges.l1 (k + 1) cs out (i : Int) = if (cs.getD i z152).f0 = 1 then (spec_l27Set.f k out (cs.getD i z152).f1.f0 (cs.getD i z152).f1.f1).bind (fun t => if (t.length : Int) > 24 then some ([], 5) else spec_ApplyChanges.l1 k cs t ((i + 1 : Nat) : Int)) else (spec_l27At.f k out (cs.getD i z152).f1.f0).bind (fun t => if t < 0 then some ([], 3) else if 0 ≤ t then (if t < (out.length : Int) then (if (!((rd_T150 out t).f0.toList == (cs.getD i z152).f1.f0.toList) || !((rd_T150 out t).f1 == (cs.getD i z152).f1.f1)) = true then some ([], 6) else (if t ≤ (out.length : Int) then (if (out.take t.toNat).length < 5864062014805 then (if 0 ≤ wrap64 (t + 1) then (if wrap64 (t + 1) ≤ (out.length : Int) then (if (out.take t.toNat).length + (out.drop (wrap64 (t + 1)).toNat).length < 5864062014805 then spec_ApplyChanges.l1 k cs (out.take t.toNat ++ out.drop (wrap64 (t + 1)).toNat) ((i + 1 : Nat) : Int) else none) else none) else none) else none) else none)) else none) else none) := by
  rw [spec_ApplyChanges.l1, if_pos (show (i : Int) < (cs.length : Int) by omega), if_pos (show (0 : Int) ≤ (i : Int) by omega), w64 (x := (i : Int) + 1) (by omega) (by omega), rdCh]
  simp only [Option.bind_some, List.length_nil, Nat.zero_add, List.nil_append]
  push_cast
  rfl
theorem specDel_eq (k : Nat) (cs : List S152) (i : Nat) (out : List S150) (x : S150) (p : Nat) (hp : p < out.length) (hl : out.length ≤ 24) : (if (p : Int) < 0 then some ([], 3) else if 0 ≤ (p : Int) then (if (p : Int) < (out.length : Int) then (if (!((rd_T150 out (p : Int)).f0.toList == x.f0.toList) || !((rd_T150 out (p : Int)).f1 == x.f1)) = true then some ([], 6) else (if (p : Int) ≤ (out.length : Int) then (if (out.take (p : Int).toNat).length < 5864062014805 then (if 0 ≤ wrap64 ((p : Int) + 1) then (if wrap64 ((p : Int) + 1) ≤ (out.length : Int) then (if (out.take (p : Int).toNat).length + (out.drop (wrap64 ((p : Int) + 1)).toNat).length < 5864062014805 then spec_ApplyChanges.l1 k cs (out.take (p : Int).toNat ++ out.drop (wrap64 ((p : Int) + 1)).toNat) ((i + 1 : Nat) : Int) else none) else none) else none) else none) else none)) else none) else none) = if sameS (out.getD p z150) x = true then spec_ApplyChanges.l1 k cs (out.take p ++ out.drop (p + 1)) ((i + 1 : Nat) : Int) else some ([], 6) := by
  rw [if_neg (by omega), if_pos (by omega), if_pos (by omega), rdSt, w64 (x := (p : Int) + 1) (by omega) (by omega)]
  have es : (!((out.getD p z150).f0.toList == x.f0.toList) || !((out.getD p z150).f1 == x.f1)) = !(sameS (out.getD p z150) x) := by
    unfold sameS
    rw [Bool.not_and]
  rw [es]
  cases sameS (out.getD p z150) x with
  | false => rfl
  | true =>
    have e1 : ((p : Int) + 1).toNat = p + 1 := by omega
    rw [if_neg (by simp), if_pos (by omega), if_pos (by rw [Int.toNat_natCast, List.length_take]; omega), if_pos (by omega), if_pos (by omega), if_pos (by rw [Int.toNat_natCast, e1, List.length_take, List.length_drop]; omega), e1, Int.toNat_natCast, if_pos rfl]
theorem specAp1_ev (cs : List S152) (hc : cs.length ≤ 1048576) : ∀ (m i : Nat) (out : List S150), i + m = cs.length → out.length ≤ 24 → (out.map skey).Pairwise (· < ·) → Ev (fun k => spec_ApplyChanges.l1 k cs out (i : Int)) (apG (cs.drop i) out) := by
  intro m
  induction m with
  | zero =>
    intro i out hi hl hs
    refine Ev.succ ?_
    rw [List.drop_eq_nil_of_le (by omega)]
    simp only [spec_ApplyChanges.l1, show ¬ (i : Int) < (cs.length : Int) by omega, if_false, apG]
    exact Ev.now _
  | succ m ih =>
    intro i out hi hl hs
    have hlt : i < cs.length := by omega
    rw [List.drop_eq_getElem_cons hlt, ← getD_lt z152 hlt]
    refine Ev.step (fun k => specAp1_eq k cs i hlt hc out) ?_
    generalize cs.getD i z152 = c
    rw [apG]
    by_cases h1 : c.f0 = 1
    · simp only [h1, if_true]
      refine Ev.bind (specSet_ev out c.f1 (by omega)) ?_
      have hlen := setL_len c.f1 out false
      by_cases h2 : (setL c.f1 out false).length > 24
      · simp only [show ((setL c.f1 out false).length : Int) > 24 by omega, if_true, h2]
        exact Ev.now _
      · simp only [show ¬ ((setL c.f1 out false).length : Int) > 24 by omega, if_false, h2]
        exact ih (i + 1) (setL c.f1 out false) (by omega) (by omega) (setL_sorted hs _)
    · simp only [h1, if_false]
      refine Ev.bind (specAtP_ev out c.f1.f0 (by omega) hs) ?_
      unfold atI
      rw [show c.f1.f0.data.toList = skey c.f1 from rfl]
      cases hh : hasP out (skey c.f1) with
      | false =>
        simp only [Bool.false_eq_true, if_false, show (-1 : Int) < 0 by decide, if_true]
        exact Ev.now _
      | true =>
        have hp : plc (skey c.f1) out < out.length := by
          unfold hasP at hh
          rw [Bool.and_eq_true, decide_eq_true_eq] at hh
          exact hh.1
        simp only [if_true]
        refine Ev.congr (fun k => specDel_eq k cs i out c.f1 _ hp hl) ?_
        cases sameS (out.getD (plc (skey c.f1) out) z150) c.f1 with
        | false =>
          simp only [Bool.false_eq_true, if_false]
          exact Ev.now _
        | true =>
          simp only [if_true]
          exact ih (i + 1) _ (by omega) (by have := (cut_sub out (plc (skey c.f1) out)).length_le; omega) (cut_sorted hs _)
theorem specApply_ev (l : List S150) (cs : List S152) (h0 : l.length ≤ 1048576) (h1 : cs.length ≤ 1048576) : Ev (fun k => spec_ApplyChanges.f k l cs) (apR l cs) := by
  unfold spec_ApplyChanges.f apR
  refine Ev.bind (specState_ev l h0) ?_
  cases hst : stateOk l with
  | false =>
    simp only [Bool.false_eq_true, if_false]
    exact Ev.now _
  | true =>
    simp only [if_true]
    obtain ⟨f0, f1, f2⟩ := stateOk_facts hst
    have key : ∀ (m i : Nat), i + m = cs.length → Ev (fun k => spec_ApplyChanges.l0 k l cs (i : Int)) (if (cs.drop i).all chOk = true then apG cs l else ([], 1)) := by
      intro m
      induction m with
      | zero =>
        intro i hi
        refine Ev.succ ?_
        rw [List.drop_eq_nil_of_le (by omega)]
        simp only [spec_ApplyChanges.l0, show ¬ (i : Int) < (cs.length : Int) by omega, if_false, List.all_nil, if_true, Option.bind_some, List.length_nil, List.nil_append, show 0 + l.length < 5864062014805 by omega]
        exact specAp1_ev cs h1 cs.length 0 l (by omega) f0 f1
      | succ m ih =>
        intro i hi
        have hlt : i < cs.length := by omega
        have hh := ih (i + 1) (by omega)
        rw [List.drop_eq_getElem_cons hlt, List.all_cons, ← getD_lt z152 hlt]
        refine Ev.succ ?_
        simp only [spec_ApplyChanges.l0, show (i : Int) < (cs.length : Int) by omega, if_true, show (0 : Int) ≤ (i : Int) by omega, rdCh]
        refine Ev.bind (specChange_ev _) ?_
        cases chOk (cs.getD i z152) with
        | false =>
          simp only [Bool.false_eq_true, if_false, Bool.false_and]
          exact Ev.now _
        | true =>
          simp only [if_true, Bool.true_and]
          rw [w64 (by omega) (by omega)]
          push_cast at hh
          exact hh
    exact key cs.length 0 (by omega)

theorem implIn_eq (a lo hi : Int) : impl_within.f a lo hi = some (inR lo hi a) := rfl

theorem implBytes_ev (b : ByteArray) (hb : b.size ≤ 10) : Ev (fun k => impl_onlyNameBytes.f k b) ((List.range b.size).all fun i => nameC (bt b i)) := by
  unfold impl_onlyNameBytes.f
  have key := ev_all (fun k i => impl_onlyNameBytes.l0 k b b.size i) (List.range b.size) 0 (fun i => nameC (bt b i)) false true (fun i hi hp s hs2 => ?_) (fun i hi hp => ?_) ?_
  · revert key
    cases (List.range b.size).all fun i => nameC (bt b i) <;> exact id
  · rw [List.length_range] at hi
    rw [getD_lt 0 (by simpa using hi), List.getElem_range] at hp
    refine Ev.step (fun k => ?_) hs2
    simp only [impl_onlyNameBytes.l0]
    rw [if_pos (by omega), if_pos (by omega), if_pos (by omega), w64 (by omega) (by omega)]
    simp only [nameC, smallC, digitC, Bool.or_eq_true, Bool.and_eq_true, decide_eq_true_eq] at hp
    split
    · rw [if_neg (by omega), if_neg (by omega)]; rfl
    · split
      · omega
      · rfl
  · rw [List.length_range] at hi
    rw [getD_lt 0 (by simpa using hi), List.getElem_range] at hp
    refine Ev.step (f := fun _ => some false) (fun k => ?_) (Ev.now _)
    simp only [impl_onlyNameBytes.l0]
    rw [if_pos (by omega), if_pos (by omega), if_pos (by omega)]
    simp only [nameC, smallC, digitC, Bool.or_eq_false_iff, Bool.and_eq_false_iff, decide_eq_false_iff_not] at hp
    split
    · split
      · rfl
      · rw [if_pos (by omega)]
    · split
      · rw [if_neg (by omega), if_pos (by omega)]
      · omega
  · refine Ev.step (f := fun _ => some true) (fun k => ?_) (Ev.now _)
    simp only [impl_onlyNameBytes.l0]
    rw [List.length_range, if_neg (by omega)]
theorem implName_ev (b : ByteArray) : Ev (fun k => impl_IsName.f k b) (nameOk b) := by
  unfold impl_IsName.f nameOk
  by_cases h1 : b.size < 1
  · rw [decide_eq_false (by omega), Bool.false_and]
    simp only [show (b.size : Int) < 1 by omega, if_true]
    exact Ev.now _
  · rw [decide_eq_true (show 1 ≤ b.size by omega), Bool.true_and]
    simp only [show ¬ (b.size : Int) < 1 by omega, if_false]
    by_cases h10 : b.size > 10
    · rw [decide_eq_false (show ¬ b.size ≤ 10 by omega), Bool.false_and]
      simp only [show (b.size : Int) > 10 by omega, if_true]
      exact Ev.now _
    · rw [decide_eq_true (show b.size ≤ 10 by omega), Bool.true_and]
      simp only [show ¬ (b.size : Int) > 10 by omega, if_false, show 0 < (b.size : Int) by omega, if_true]
      unfold smallC
      by_cases g1 : bt b 0 < 97
      · simp only [g1, if_true, decide_eq_false (show ¬ 97 ≤ bt b 0 by omega), Bool.false_and]
        exact Ev.now _
      · simp only [g1, if_false, decide_eq_true (show 97 ≤ bt b 0 by omega), Bool.true_and]
        by_cases g2 : bt b 0 > 122
        · simp only [g2, if_true, decide_eq_false (show ¬ bt b 0 ≤ 122 by omega), Bool.false_and]
          exact Ev.now _
        · simp only [g2, if_false, decide_eq_true (show bt b 0 ≤ 122 by omega), Bool.true_and]
          refine Ev.bind (implBytes_ev b (by omega)) ?_
          exact Ev.now _

theorem implSett_ev (x : S150) : Ev (fun k => impl_Setting_valid.f k x.f0 x.f1) (settOk x) := by
  unfold impl_Setting_valid.f settOk
  simp only [implIn_eq, Option.bind_some]
  refine Ev.bind (implName_ev x.f0) ?_
  cases nameOk x.f0 with
  | false => exact Ev.now _
  | true => exact Ev.now _
theorem implState_ev (l : List S150) (hl : l.length ≤ 1048576) : Ev (fun k => impl_ValidState.f k l) (stateOk l) := by
  unfold impl_ValidState.f stateOk
  by_cases hn : l.length > 24
  · rw [decide_eq_false (by omega), Bool.false_and]
    simp only [show (l.length : Int) > 24 by omega, if_true]
    exact Ev.now _
  rw [decide_eq_true (show l.length ≤ 24 by omega), Bool.true_and]
  simp only [show ¬ (l.length : Int) > 24 by omega, if_false]
  have key := ev_all (fun k i => impl_ValidState.l0 k l l l.length i) (List.range l.length) 0 (settAt l) false true (fun i hi hp s hs => ?_) (fun i hi hp => ?_) ?_
  · revert key
    cases (List.range l.length).all (settAt l) <;> exact id
  · rw [List.length_range] at hi
    rw [getD_lt 0 (by simpa using hi), List.getElem_range] at hp
    unfold settAt at hp
    rw [Bool.and_eq_true, Bool.or_eq_true, decide_eq_true_eq, decide_eq_true_eq] at hp
    refine Ev.succ ?_
    simp (disch := omega) only [impl_ValidState.l0, if_pos, w64, rdSt]
    have h1 := implSett_ev (l.getD i z150)
    rw [hp.1] at h1
    refine Ev.bind h1 ?_
    by_cases h0 : 0 < i
    · have := hp.2.resolve_left (by omega)
      simp (disch := omega) only [rdSts, if_pos, if_neg, bltB, this, if_true]
      exact hs
    · simp (disch := omega) only [if_pos, if_neg]
      exact hs
  · rw [List.length_range] at hi
    rw [getD_lt 0 (by simpa using hi), List.getElem_range] at hp
    unfold settAt at hp
    refine Ev.succ ?_
    simp (disch := omega) only [impl_ValidState.l0, if_pos, w64, rdSt]
    refine Ev.bind (implSett_ev (l.getD i z150)) ?_
    cases ho : settOk (l.getD i z150) with
    | false => exact Ev.now _
    | true =>
      rw [ho, Bool.true_and, Bool.or_eq_false_iff, decide_eq_false_iff_not, decide_eq_false_iff_not] at hp
      simp (disch := omega) only [rdSts, if_pos, if_neg, bltB, hp.2, if_false]
      exact Ev.now _
  · refine Ev.succ ?_
    simp only [impl_ValidState.l0, List.length_range, Int.lt_irrefl, if_false]
    exact Ev.now _

def cmpK (a b : Bs) : Int := if a < b then -1 else if b < a then 1 else 0
theorem cmpS_eq (a : ByteArray) (p : Int) (b : ByteArray) (q : Int) : impl_compareSettings.f a p b q = some (cmpK a.data.toList b.data.toList) := by
  unfold impl_compareSettings.f cmp_Compare_string.f cmp_isNaN_string.f cmpK
  simp only [bne_self_eq_false, Option.bind_some, Bool.false_eq_true, if_false, bltB]
  by_cases h : a.data.toList < b.data.toList
  · simp only [h, if_true, Option.bind_some]
  · simp only [h, if_false]
    by_cases h2 : b.data.toList < a.data.toList
    · simp only [h2, if_true, Option.bind_some]
    · simp only [h2, if_false, Option.bind_some]
theorem bsP_ev (l : List S150) (x : S150) (hs : (l.map skey).Pairwise (· < ·)) : Ev (fun k => bsF_Setting (fun y => impl_compareSettings.f y.f0 y.f1 x.f0 x.f1) l k) (plc (skey x) l, hasP l (skey x)) := by
  have hp := plc_le (skey x) l
  have hcf : (fun y : S150 => impl_compareSettings.f y.f0 y.f1 x.f0 x.f1) = fun y => some (cmpK (skey y) (skey x)) := funext fun y => cmpS_eq _ _ _ _
  rw [hcf]
  have key : ∀ (m i j : Nat), j - i ≤ m → i ≤ plc (skey x) l → plc (skey x) l ≤ j → j ≤ l.length → Ev (fun k => bsL_Setting (fun y => some (cmpK (skey y) (skey x))) l k i j) (plc (skey x) l) := by
    intro m
    induction m with
    | zero =>
      intro i j hm h1 h2 h3
      refine Ev.succ ?_
      simp only [bsL_Setting, show ¬ i < j by omega, if_false]
      rw [show i = plc (skey x) l by omega]
      exact Ev.now _
    | succ m ih =>
      intro i j hm h1 h2 h3
      refine Ev.succ ?_
      by_cases c : i < j
      · simp only [bsL_Setting, c, if_true, Option.bind_some, rdSt]
        by_cases d : (i + j) / 2 < plc (skey x) l
        · have hk : cmpK (skey (l.getD ((i + j) / 2) z150)) (skey x) = -1 := by
            unfold cmpK
            exact if_pos (plc_lt _ l _ d)
          simp only [hk, show (-1 : Int) < 0 by decide, if_true]
          exact ih ((i + j) / 2 + 1) j (by omega) (by omega) h2 h3
        · have hk : ¬ cmpK (skey (l.getD ((i + j) / 2) z150)) (skey x) < 0 := by
            have hn := plc_ge (skey x) l hs ((i + j) / 2) (by omega) (by omega)
            unfold cmpK
            rw [if_neg hn]
            split <;> decide
          simp only [hk, if_false]
          exact ih i ((i + j) / 2) (by omega) h1 (by omega) (by omega)
      · simp only [bsL_Setting, c, if_false]
        rw [show i = plc (skey x) l by omega]
        exact Ev.now _
  unfold bsF_Setting
  refine Ev.bind (key l.length 0 l.length (by omega) (Nat.zero_le _) hp (Nat.le_refl _)) ?_
  unfold hasP
  by_cases c : plc (skey x) l < l.length
  · simp only [c, if_true, Option.bind_some, rdSt, decide_true, Bool.true_and]
    have hn := plc_ge (skey x) l hs _ (Nat.le_refl _) c
    have e : (cmpK (skey (l.getD (plc (skey x) l) z150)) (skey x) == 0) = decide (skey (l.getD (plc (skey x) l) z150) = skey x) := by
      unfold cmpK
      rw [if_neg hn]
      by_cases d : skey x < skey (l.getD (plc (skey x) l) z150)
      · rw [if_pos d, decide_eq_false (fun e => by rw [e] at d; exact bs_irr _ d)]; rfl
      · rw [if_neg d, decide_eq_true (Classical.byContradiction fun h => d (bs_tri hn h))]; rfl
    rw [e]
    exact Ev.now _
  · simp only [c, if_false, decide_false, Bool.false_and]
    exact Ev.now _

theorem wr_ev (c : S152) : Ev (fun k => impl_ApplyChanges.wr k c) (!chOk c) := by
  unfold impl_ApplyChanges.wr chOk
  have e : (c.f0 != 1 && c.f0 != 2) = !(c.f0 == 1 || c.f0 == 2) := by rw [Bool.not_or]; rfl
  rw [e]
  cases (c.f0 == 1 || c.f0 == 2) with
  | false => simp only [Bool.not_false, if_true, Bool.false_and]; exact Ev.now _
  | true =>
    simp only [Bool.not_true, Bool.false_eq_true, if_false, Bool.true_and]
    exact Ev.bind (implSett_ev _) (Ev.now _)
theorem idxO_ev {α : Type} (p : Nat → α → Option Bool) (v : α → Bool) : ∀ (l : List α) (n : Nat), (∀ x, Ev (fun k => p k x) (v x)) → ∃ r, Ev (fun k => idxO (p k) l n) r ∧ (0 ≤ r ↔ l.any v = true)
  | [], n, _ => ⟨-1, Ev.now _, by simp⟩
  | x :: xs, n, h => by
    obtain ⟨r, e, hr⟩ := idxO_ev p v xs (n + 1) h
    cases hv : v x with
    | true =>
      refine ⟨(n : Int), ?_, by simp [hv]⟩
      simp only [idxO]
      refine Ev.bind (h x) ?_
      simp only [hv, if_true]
      exact Ev.now _
    | false =>
      refine ⟨r, ?_, by simp [hv, hr]⟩
      simp only [idxO]
      refine Ev.bind (h x) ?_
      simp only [hv, Bool.false_eq_true, if_false]
      exact e
theorem implAp_ev : ∀ (cs : List S152) (out : List S150), out.length ≤ 24 → (out.map skey).Pairwise (· < ·) → Ev (fun k => impl_ApplyChanges.l0 k cs out) (apG cs out)
  | [], out, _, _ => by simp only [impl_ApplyChanges.l0, apG]; exact Ev.now _
  | c :: r, out, hl, hs => by
    have hb := bsP_ev out c.f1 hs
    have hlen := setL_length hs c.f1
    have hset := setL_plc c.f1 out hs
    have hple := plc_le (skey c.f1) out
    simp only [impl_ApplyChanges.l0, apG, show (out.length + 1) * 24 ≤ 140737488355328 by omega, if_true]
    refine Ev.bind hb ?_
    by_cases h1 : c.f0 = 1
    · simp only [h1, if_true]
      cases hh : hasP out (skey c.f1) with
      | true =>
        rw [hh] at hlen hset
        simp only [if_true] at hlen hset
        have h2 : ¬ (setL c.f1 out false).length > 24 := by omega
        simp only [if_true, h2, if_false]
        rw [← hset]
        exact implAp_ev r _ (by omega) (setL_sorted hs _)
      | false =>
        rw [hh] at hlen hset
        simp only [Bool.false_eq_true, if_false] at hlen hset
        simp only [Bool.false_eq_true, if_false]
        by_cases h24 : (out.length : Int) = 24
        · simp only [h24, if_true, show (setL c.f1 out false).length > 24 by omega]
          exact Ev.now _
        · simp only [h24, if_false, show ¬ (setL c.f1 out false).length > 24 by omega]
          rw [← hset]
          exact implAp_ev r _ (by omega) (setL_sorted hs _)
    · simp only [h1, if_false]
      cases hh : hasP out (skey c.f1) with
      | false =>
        simp only [Bool.false_eq_true, if_false]
        exact Ev.now _
      | true =>
        have es : ((out.getD (plc (skey c.f1) out) z150).f0.toList == c.f1.f0.toList && (out.getD (plc (skey c.f1) out) z150).f1 == c.f1.f1) = sameS (out.getD (plc (skey c.f1) out) z150) c.f1 := rfl
        simp only [if_true, rdSt, es]
        cases sameS (out.getD (plc (skey c.f1) out) z150) c.f1 with
        | true =>
          simp only [if_true]
          exact implAp_ev r _ (by have := (cut_sub out (plc (skey c.f1) out)).length_le; omega) (cut_sorted hs _)
        | false =>
          simp only [Bool.false_eq_true, if_false]
          exact Ev.now _
theorem implApply_ev (l : List S150) (cs : List S152) (h0 : l.length ≤ 1048576) (h1 : cs.length ≤ 1048576) : Ev (fun k => impl_ApplyChanges.f k l cs) (apR l cs) := by
  unfold impl_ApplyChanges.f apR
  simp only [h1, if_true]
  refine Ev.bind (implState_ev l h0) ?_
  cases hst : stateOk l with
  | false =>
    simp only [Bool.false_eq_true, if_false]
    exact Ev.now _
  | true =>
    simp only [if_true]
    obtain ⟨f0, f1, f2⟩ := stateOk_facts hst
    obtain ⟨r, er, hr⟩ := idxO_ev (fun k => impl_ApplyChanges.wr k) (fun c => !chOk c) cs 0 wr_ev
    refine Ev.bind er ?_
    cases ha : cs.all chOk with
    | false =>
      have : 0 ≤ r := hr.2 (by rw [List.all_eq_not_any_not] at ha; simpa using ha)
      simp only [this, if_true, Bool.false_eq_true, if_false]
      exact Ev.now _
    | true =>
      have : ¬ 0 ≤ r := fun h => by
        have h2 := hr.1 h
        rw [List.all_eq_not_any_not] at ha
        rw [h2] at ha
        cases ha
      simp only [this, if_false, if_true]
      have e : impl_Setting.f l = some l := by unfold impl_Setting.f; rw [if_pos (by omega)]
      rw [e]
      simp only [Option.bind_some]
      exact implAp_ev cs l f0 f1

def okSetting1 (x : S150) : Prop := x.f0.size ≤ 1048576 ∧ (-9223372036854775808 ≤ x.f1 ∧ x.f1 ≤ 9223372036854775807)

theorem szSetting_eq (x : S143) (a : Int) (w0 : x.f0.size ≤ maxLen) (h0 : 0 ≤ a) (h1 : a ≤ 1048576) : ∃ r, laws_szSetting.f (x.f0) (x.f1) a = some r ∧ (r < 0 ∨ (0 ≤ r ∧ r ≤ a ∧ x.f0.size ≤ 1048576)) := by
  unfold maxLen at w0
  unfold laws_szSetting.f wrap64
  repeat' split
  all_goals exact ⟨_, rfl, by omega⟩

def okSettingS (l : List S150) : Prop := l.length ≤ 1048576 ∧ ∀ x ∈ l, okSetting1 x

def cvSetting (x : S143) : S150 := ⟨x.f0, x.f1⟩

def cvSettingS (l : List S143) : List S150 := l.map cvSetting

theorem szSettingS_evo (l : List S143) (a : Int) (hw : l.length ≤ maxLen ∧ ∀ x0 ∈ l, x0.f0.size ≤ maxLen ∧ (Lit.int .i64 x0.f1).wf = true) (h0 : 0 ≤ a) (h1 : a ≤ 1048576) :
    ∃ r, Ev (fun k => laws_szSettingS.f k l a) r ∧ (r < 0 ∨ (0 ≤ r ∧ r ≤ a ∧ okSettingS (cvSettingS l))) := by
  obtain ⟨hl, hw⟩ := hw
  unfold maxLen at hl
  unfold laws_szSettingS.f
  rw [w64 (by omega) (by omega)]
  by_cases h : a - l.length < 0
  · simp only [h, if_true]
    exact ⟨-1, Ev.now _, .inl (by decide)⟩
  · simp only [h, if_false]
    obtain ⟨r, hr, hq⟩ := ev_sz (fun k a i => laws_szSettingS.l0 k l a i) l z143 (fun x => x.f0.size ≤ 1048576) (fun i a hi h0 h1 => by
      have hx := hw _ (getD_mem z143 hi)
      obtain ⟨r, hr, hq⟩ := szSetting_eq (l.getD i z143) a (hx.1) h0 h1
      have e : ∀ k, laws_szSettingS.l0 (k + 1) l a i = if r < 0 then some (-1) else laws_szSettingS.l0 k l r ((i + 1 : Nat) : Int) := fun k => by
        simp only [laws_szSettingS.l0]
        rw [if_pos (by omega), if_pos (by omega)]
        unfold rd_T143
        rw [Int.toNat_natCast, hr]
        simp only [Option.bind_some]
        rw [w64 (by omega) (by omega)]
        rfl
      rcases hq with hq | ⟨q0, q1, q2⟩
      · exact .inl (Ev.step (f := fun _ => some (-1)) (fun k => by rw [e, if_pos hq]) (Ev.now _))
      · exact .inr ⟨r, q0, q1, q2, fun s hs => Ev.step (fun k => by rw [e, if_neg (by omega)]) hs⟩) (fun a => Ev.step (f := fun _ => some a) (fun k => by simp only [laws_szSettingS.l0]; rw [if_neg (by omega)]) (Ev.now _)) (a - l.length) (by omega) (by omega)
    refine ⟨r, hr, hq.imp_right fun ⟨q0, q1, q2⟩ => ⟨q0, by omega, by simp only [cvSettingS, List.length_map]; omega, fun x hx => ?_⟩⟩
    obtain ⟨y, hy, rfl⟩ := List.mem_map.1 hx
    have hs := q2 y hy
    have hw := hw y hy
    exact ⟨hs, lit_i64 (hw.2)⟩

def okChange1 (x : S152) : Prop := (-9223372036854775808 ≤ x.f0 ∧ x.f0 ≤ 9223372036854775807) ∧ x.f1.f0.size ≤ 1048576 ∧ (-9223372036854775808 ≤ x.f1.f1 ∧ x.f1.f1 ≤ 9223372036854775807)

theorem szChange_eq (x : S146) (a : Int) (w0 : x.f1.f0.size ≤ maxLen) (h0 : 0 ≤ a) (h1 : a ≤ 1048576) : ∃ r, laws_szChange.f (x.f0) (x.f1.f0) (x.f1.f1) a = some r ∧ (r < 0 ∨ (0 ≤ r ∧ r ≤ a ∧ x.f1.f0.size ≤ 1048576)) := by
  obtain ⟨r, hr, hq⟩ := szSetting_eq x.f1 a w0 h0 h1
  unfold laws_szChange.f
  rw [hr]
  simp only [Option.bind_some]
  split
  · exact ⟨_, rfl, .inl (by decide)⟩
  · exact ⟨_, rfl, hq⟩

def okChangeS (l : List S152) : Prop := l.length ≤ 1048576 ∧ ∀ x ∈ l, okChange1 x

def cvChange (x : S146) : S152 := ⟨x.f0, cvSetting x.f1⟩

def cvChangeS (l : List S146) : List S152 := l.map cvChange

theorem szChangeS_evo (l : List S146) (a : Int) (hw : l.length ≤ maxLen ∧ ∀ x0 ∈ l, (Lit.int .i64 x0.f0).wf = true ∧ x0.f1.f0.size ≤ maxLen ∧ (Lit.int .i64 x0.f1.f1).wf = true) (h0 : 0 ≤ a) (h1 : a ≤ 1048576) :
    ∃ r, Ev (fun k => laws_szChangeS.f k l a) r ∧ (r < 0 ∨ (0 ≤ r ∧ r ≤ a ∧ okChangeS (cvChangeS l))) := by
  obtain ⟨hl, hw⟩ := hw
  unfold maxLen at hl
  unfold laws_szChangeS.f
  rw [w64 (by omega) (by omega)]
  by_cases h : a - l.length < 0
  · simp only [h, if_true]
    exact ⟨-1, Ev.now _, .inl (by decide)⟩
  · simp only [h, if_false]
    obtain ⟨r, hr, hq⟩ := ev_sz (fun k a i => laws_szChangeS.l0 k l a i) l z146 (fun x => x.f1.f0.size ≤ 1048576) (fun i a hi h0 h1 => by
      have hx := hw _ (getD_mem z146 hi)
      obtain ⟨r, hr, hq⟩ := szChange_eq (l.getD i z146) a (hx.2.1) h0 h1
      have e : ∀ k, laws_szChangeS.l0 (k + 1) l a i = if r < 0 then some (-1) else laws_szChangeS.l0 k l r ((i + 1 : Nat) : Int) := fun k => by
        simp only [laws_szChangeS.l0]
        rw [if_pos (by omega), if_pos (by omega)]
        unfold rd_T146
        rw [Int.toNat_natCast, hr]
        simp only [Option.bind_some]
        rw [w64 (by omega) (by omega)]
        rfl
      rcases hq with hq | ⟨q0, q1, q2⟩
      · exact .inl (Ev.step (f := fun _ => some (-1)) (fun k => by rw [e, if_pos hq]) (Ev.now _))
      · exact .inr ⟨r, q0, q1, q2, fun s hs => Ev.step (fun k => by rw [e, if_neg (by omega)]) hs⟩) (fun a => Ev.step (f := fun _ => some a) (fun k => by simp only [laws_szChangeS.l0]; rw [if_neg (by omega)]) (Ev.now _)) (a - l.length) (by omega) (by omega)
    refine ⟨r, hr, hq.imp_right fun ⟨q0, q1, q2⟩ => ⟨q0, by omega, by simp only [cvChangeS, List.length_map]; omega, fun x hx => ?_⟩⟩
    obtain ⟨y, hy, rfl⟩ := List.mem_map.1 hx
    have hs := q2 y hy
    have hw := hw y hy
    exact ⟨lit_i64 (hw.1), hs, lit_i64 (hw.2.2)⟩

theorem toSetting_eq (x : S143) : laws_toSetting.f (x.f0) (x.f1) = some (x.f0, x.f1) := by
  unfold laws_toSetting.f
  rfl

/-- A loop that makes a list out of another one, element by element. -/
theorem ev_cmap {α β : Type} (L : Nat → List β → Int → Option (List β)) (xs : List α) (d : α) (d' : β) (g : α → β)
    (step : ∀ (ys : List β) (i : Nat), i < xs.length → ys.length = xs.length → ∀ r, Ev (fun k => L k (ys.set i (g (xs.getD i d))) ((i + 1 : Nat) : Int)) r → Ev (fun k => L k ys (i : Int)) r)
    (fin : ∀ ys, Ev (fun k => L k ys (xs.length : Int)) ys) : Ev (fun k => L k (List.replicate xs.length d') 0) (xs.map g) := by
  have e : xs.map g = (List.range xs.length).map (fun i => g (xs.getD i d)) := by
    refine List.ext_getElem (by simp) fun i h1 h2 => ?_
    rw [List.getElem_map, List.getElem_map, List.getElem_range, getD_lt d (by simpa using h1)]
  have key := ev_fill L (List.replicate xs.length d') d' (fun i => g (xs.getD i d)) (xs.map g) (fun i acc hi hl _ hs => ?_) ?_
  · exact key
  · rw [List.length_replicate] at hi hl
    exact step acc i hi hl _ hs
  · rw [List.length_replicate, ← e]
    exact fin _

theorem toSettingS_evo (l : List S143) (h : okSettingS (cvSettingS l)) : Ev (fun k => laws_toSettingS.f k l) (cvSettingS l) := by
  have hl : l.length ≤ 1048576 := by have := h.1; simpa [cvSettingS] using this
  refine Ev.congr (f := fun k => laws_toSettingS.l0 k l (List.replicate l.length z150) 0) (fun k => ?_) ?_
  · unfold laws_toSettingS.f
    rw [if_pos (by omega), if_pos (by omega), Int.toNat_natCast]
  · refine ev_cmap (fun k ys i => laws_toSettingS.l0 k l ys i) l z143 z150 cvSetting (fun ys i hi hl r hr => ?_) (fun ys => ?_)
    · refine Ev.step (fun k => ?_) hr
      simp only [laws_toSettingS.l0]
      rw [if_pos (by omega), if_pos (by omega), toSetting_eq]
      simp only [Option.bind_some]
      rw [if_pos (by omega), w64 (by omega) (by omega), Int.toNat_natCast]
      unfold rd_T143
      rw [Int.toNat_natCast]
      rfl
    · refine Ev.step (f := fun _ => some ys) (fun k => ?_) (Ev.now _)
      simp only [laws_toSettingS.l0]
      rw [if_neg (by omega)]

theorem toChange_eq (x : S146) : laws_toChange.f (x.f0) (x.f1.f0) (x.f1.f1) = some (x.f0, x.f1.f0, x.f1.f1) := by
  unfold laws_toChange.f
  rw [toSetting_eq x.f1]
  rfl

theorem toChangeS_evo (l : List S146) (h : okChangeS (cvChangeS l)) : Ev (fun k => laws_toChangeS.f k l) (cvChangeS l) := by
  have hl : l.length ≤ 1048576 := by have := h.1; simpa [cvChangeS] using this
  refine Ev.congr (f := fun k => laws_toChangeS.l0 k l (List.replicate l.length z152) 0) (fun k => ?_) ?_
  · unfold laws_toChangeS.f
    rw [if_pos (by omega), if_pos (by omega), Int.toNat_natCast]
  · refine ev_cmap (fun k ys i => laws_toChangeS.l0 k l ys i) l z146 z152 cvChange (fun ys i hi hl r hr => ?_) (fun ys => ?_)
    · refine Ev.step (fun k => ?_) hr
      simp only [laws_toChangeS.l0]
      rw [if_pos (by omega), if_pos (by omega), toChange_eq]
      simp only [Option.bind_some]
      rw [if_pos (by omega), w64 (by omega) (by omega), Int.toNat_natCast]
      unfold rd_T146
      rw [Int.toNat_natCast]
      rfl
    · refine Ev.step (f := fun _ => some ys) (fun k => ?_) (Ev.now _)
      simp only [laws_toChangeS.l0]
      rw [if_neg (by omega)]

theorem eqSetting_eq (x : S150) : laws_eqSetting.f (x.f0) (x.f1) (x.f0) (x.f1) = some true := by
  unfold laws_eqSetting.f
  simp

theorem eqSettingS_evo (l : List S150) (h : okSettingS l) : Ev (fun k => laws_eqSettingS.f k l l) true := by
  have h := h.1
  refine Ev.congr (f := fun k => laws_eqSettingS.l0 k l l 0) (fun k => ?_) ?_
  · unfold laws_eqSettingS.f
    rw [if_pos rfl]
  · refine ev_eq laws_eqSettingS.l0 l (fun i hi hr => ?_) ?_
    · refine Ev.step (fun k => ?_) hr
      simp only [laws_eqSettingS.l0]
      rw [if_pos (by omega), if_pos (by omega), if_pos (by omega), eqSetting_eq]
      simp only [Option.bind_some, if_true]
      rw [w64 (by omega) (by omega)]
      rfl
    · refine Ev.step (f := fun _ => some true) (fun k => ?_) (Ev.now _)
      simp only [laws_eqSettingS.l0]
      rw [if_neg (by omega)]

theorem eqChange_eq (x : S152) : laws_eqChange.f (x.f0) (x.f1.f0) (x.f1.f1) (x.f0) (x.f1.f0) (x.f1.f1) = some true := by
  unfold laws_eqChange.f
  simp [eqSetting_eq x.f1]

theorem eqChangeS_evo (l : List S152) (h : okChangeS l) : Ev (fun k => laws_eqChangeS.f k l l) true := by
  have h := h.1
  refine Ev.congr (f := fun k => laws_eqChangeS.l0 k l l 0) (fun k => ?_) ?_
  · unfold laws_eqChangeS.f
    rw [if_pos rfl]
  · refine ev_eq laws_eqChangeS.l0 l (fun i hi hr => ?_) ?_
    · refine Ev.step (fun k => ?_) hr
      simp only [laws_eqChangeS.l0]
      rw [if_pos (by omega), if_pos (by omega), if_pos (by omega), eqChange_eq]
      simp only [Option.bind_some, if_true]
      rw [w64 (by omega) (by omega)]
      rfl
    · refine Ev.step (f := fun _ => some true) (fun k => ?_) (Ev.now _)
      simp only [laws_eqChangeS.l0]
      rw [if_neg (by omega)]

theorem markText_ev0 (m : Nat) : ∀ (n : Nat) (x : Int) (s : ByteArray), 0 ≤ x → x < n → s.size + n ≤ 1000000000000000001 → n ≤ m → ∃ t, Ev (fun k => laws_markText.l0 k x s) t := by
  induction m with
  | zero => intro n x s h0 h1 h2 h3; omega
  | succ m ih =>
    intro n x s h0 h1 h2 h3
    by_cases hx : x > 0
    · have hd : Int.tdiv x 10 = x / 10 := Int.tdiv_eq_ediv_of_nonneg h0
      have hs : ∀ c : Int, (strOfNums [c]).size = 1 := fun _ => rfl
      have hs2 : ∀ c : Int, (strOfNums [c] ++ s).size = 1 + s.size := fun c => by rw [ByteArray.size_append, hs]
      obtain ⟨t, ht⟩ := ih (n - 1) (x / 10) (strOfNums [(wrap64 (48 + (Int.tmod x 10))) % 256] ++ s) (by omega) (by omega) (by rw [hs2]; omega) (by omega)
      refine ⟨t, Ev.succ ?_⟩
      simp only [laws_markText.l0, hx, if_true, Option.bind_some, hs, hd]
      rw [w64 (x := x / 10) (by omega) (by omega)]
      simp only [show 1 + s.size ≤ 9223372036854775807 by omega, if_true]
      exact ht
    · refine ⟨(⟨#[109]⟩ : ByteArray) ++ s, Ev.succ ?_⟩
      simp only [laws_markText.l0, hx, if_false, show 1 + s.size ≤ 9223372036854775807 by omega, if_true]
      exact Ev.now _
theorem markText_ex (x : Int) : ∃ t, x ≤ 1000000000000000000 → Ev (fun k => laws_markText.f k x) t := by
  by_cases hb : x ≤ 1000000000000000000
  · by_cases h : x ≤ 0
    · refine ⟨⟨#[109, 48]⟩, fun _ => ?_⟩
      unfold laws_markText.f
      simp only [h, if_true]
      exact Ev.now _
    · obtain ⟨t, ht⟩ := markText_ev0 _ (x.toNat + 1) x ⟨#[]⟩ (by omega) (by omega) (by show 0 + _ ≤ _; omega) (Nat.le_refl _)
      refine ⟨t, fun _ => ?_⟩
      unfold laws_markText.f
      simp only [h, if_false]
      exact ht
  · exact ⟨⟨#[]⟩, fun h => absurd h hb⟩
/-- The text of a mark. -/
noncomputable def mtx (x : Int) : ByteArray := Classical.choose (markText_ex x)
theorem markText_ev (x : Int) (h : x ≤ 1000000000000000000) : Ev (fun k => laws_markText.f k x) (mtx x) := Classical.choose_spec (markText_ex x) h

noncomputable def mk1Setting (k : Int) : S150 := ⟨mtx (k), k + 1⟩
noncomputable def mkSettingS (l : List S150) (k : Int) : List S150 := (List.range l.length).map fun i : Nat => mk1Setting (k + 2 * (i : Int))
def cntSettingS (l : List S150) : Int := 2 * (l.length : Int)
theorem mkSettingS_len (l : List S150) (k : Int) : (mkSettingS l k).length = l.length := by simp [mkSettingS]
theorem cntSettingS_bd (l : List S150) (h : okSettingS l) : 0 ≤ cntSettingS l ∧ cntSettingS l ≤ 2000000000000 := by have h := h.1; unfold cntSettingS; omega
theorem rdsetSetting (l : List S150) (i : Nat) (v : S150) (h : i < l.length) : rd_T150 (l.set i v) (i : Int) = v := by
  unfold rd_T150
  rw [Int.toNat_natCast, getD_lt _ (by simpa using h), List.getElem_set_self]
set_option maxRecDepth 10000 in
theorem markSettingS_ev (l : List S150) (k0 : Int) (h : okSettingS l) (h0 : 0 ≤ k0) (h1 : k0 ≤ 1000000000000000) : Ev (fun k => laws_markSettingS.f k l k0) (k0 + cntSettingS l, mkSettingS l k0) := by
  have h := h.1
  unfold laws_markSettingS.f
  have key := ev_fill (fun k acc i => laws_markSettingS.l0 k acc (k0 + 2 * i) i) l z150 (fun i => mk1Setting (k0 + 2 * (i : Int))) (k0 + cntSettingS l, mkSettingS l k0) (fun i acc hi hl _ hs => ?_) ?_
  · simpa using key
  · refine Ev.succ ?_
    simp (disch := omega) only [laws_markSettingS.l0, if_pos, w64, Option.bind_some, Int.toNat_natCast]
    refine Ev.bind (markText_ev _ (by omega)) ?_
    (try simp (disch := omega) only [if_pos, w64, Option.bind_some, Int.toNat_natCast])
    simp (disch := (first | omega | (simp only [List.length_set]; omega))) only [rdsetSetting, List.set_set]
    refine Ev.congr (fun k => ?_) hs
    simp only [mk1Setting]
    congr 1
    all_goals first | rfl | omega | (push_cast; omega)
  · refine Ev.succ ?_
    simp only [laws_markSettingS.l0]
    simp only [mkSettingS, List.length_map, List.length_range, Int.lt_irrefl, if_false]
    exact Ev.now' (by unfold cntSettingS; rfl)

noncomputable def mk1Change (k : Int) : S152 := ⟨k, ⟨mtx (k + 1), k + 1 + 1⟩⟩
noncomputable def mkChangeS (l : List S152) (k : Int) : List S152 := (List.range l.length).map fun i : Nat => mk1Change (k + 3 * (i : Int))
def cntChangeS (l : List S152) : Int := 3 * (l.length : Int)
theorem mkChangeS_len (l : List S152) (k : Int) : (mkChangeS l k).length = l.length := by simp [mkChangeS]
theorem cntChangeS_bd (l : List S152) (h : okChangeS l) : 0 ≤ cntChangeS l ∧ cntChangeS l ≤ 2000000000000 := by have h := h.1; unfold cntChangeS; omega
theorem rdsetChange (l : List S152) (i : Nat) (v : S152) (h : i < l.length) : rd_T152 (l.set i v) (i : Int) = v := by
  unfold rd_T152
  rw [Int.toNat_natCast, getD_lt _ (by simpa using h), List.getElem_set_self]
set_option maxRecDepth 10000 in
theorem markChangeS_ev (l : List S152) (k0 : Int) (h : okChangeS l) (h0 : 0 ≤ k0) (h1 : k0 ≤ 1000000000000000) : Ev (fun k => laws_markChangeS.f k l k0) (k0 + cntChangeS l, mkChangeS l k0) := by
  have h := h.1
  unfold laws_markChangeS.f
  have key := ev_fill (fun k acc i => laws_markChangeS.l0 k acc (k0 + 3 * i) i) l z152 (fun i => mk1Change (k0 + 3 * (i : Int))) (k0 + cntChangeS l, mkChangeS l k0) (fun i acc hi hl _ hs => ?_) ?_
  · simpa using key
  · refine Ev.succ ?_
    simp (disch := omega) only [laws_markChangeS.l0, if_pos, w64, Option.bind_some, Int.toNat_natCast]
    refine Ev.bind (markText_ev _ (by omega)) ?_
    (try simp (disch := omega) only [if_pos, w64, Option.bind_some, Int.toNat_natCast])
    simp (disch := (first | omega | (simp only [List.length_set]; omega))) only [rdsetChange, List.set_set]
    refine Ev.congr (fun k => ?_) hs
    simp only [mk1Change]
    congr 1
    all_goals first | rfl | omega | (push_cast; omega)
  · refine Ev.succ ?_
    simp only [laws_markChangeS.l0]
    simp only [mkChangeS, List.length_map, List.length_range, Int.lt_irrefl, if_false]
    exact Ev.now' (by unfold cntChangeS; rfl)

theorem heldSettingS_ev (l : List S150) (k0 : Int) (h : okSettingS l) (h0 : 0 ≤ k0) (h1 : k0 ≤ 1000000000000000) : Ev (fun k => laws_heldSettingS.f k (mkSettingS l k0) k0) (k0 + cntSettingS l) := by
  have h := h.1
  unfold laws_heldSettingS.f
  have key : ∀ (m i : Nat), i + m = l.length → Ev (fun k => laws_heldSettingS.l0 k (mkSettingS l k0) (k0 + 2 * i) i) (k0 + cntSettingS l) := by
    intro m
    induction m with
    | zero =>
      intro i hi
      refine Ev.succ ?_
      simp only [laws_heldSettingS.l0, mkSettingS_len, show ¬ (i : Int) < (l.length : Int) by omega, if_false]
      exact Ev.now' (by unfold cntSettingS; omega)
    | succ m ih =>
      intro i hi
      have hs := ih (i + 1) (by omega)
      have e : rd_T150 (mkSettingS l k0) (i : Int) = mk1Setting (k0 + 2 * (i : Int)) := by
        unfold rd_T150
        rw [Int.toNat_natCast]
        exact getD_map_range _ _ _ (by omega)
      refine Ev.succ ?_
      simp only [laws_heldSettingS.l0, mkSettingS_len, e, mk1Setting]
      simp (disch := first | omega | rfl) only [if_pos, if_true, w64, Option.bind_some]
      refine Ev.bind (markText_ev _ (by omega)) ?_
      (try simp (disch := first | omega | rfl) only [if_pos, if_true, w64, Option.bind_some])
      refine Ev.congr (fun k => ?_) hs
      congr 1
      all_goals first | rfl | omega | (push_cast; omega)
  simpa using key l.length 0 (by omega)

theorem apG_ok : ∀ (cs : List S152) (out : List S150), okSettingS out → out.length ≤ 24 → (out.map skey).Pairwise (· < ·) → okChangeS cs → okSettingS (apG cs out).1
  | [], out, h, _, _, _ => h
  | c :: r, out, h, hl, hs, hc => by
    have h0 : okSettingS [] := ⟨by simp, fun x hx => by cases hx⟩
    have hr : okChangeS r := ⟨by have := hc.1; rw [List.length_cons] at this; omega, fun x hx => hc.2 x (List.mem_cons_of_mem _ hx)⟩
    have hx := hc.2 c List.mem_cons_self
    have hmem : ∀ x ∈ setL c.f1 out false, x = c.f1 ∨ x ∈ out := fun x hx2 => by
      rw [setL_plc c.f1 out hs] at hx2
      split at hx2
      · rcases List.mem_or_eq_of_mem_set hx2 with h3 | h3
        · exact .inr h3
        · exact .inl h3
      · rcases List.mem_append.1 hx2 with h3 | h3
        · exact .inr (List.mem_of_mem_take h3)
        · rcases List.mem_cons.1 h3 with h4 | h4
          · exact .inl h4
          · exact .inr (List.mem_of_mem_drop h4)
    simp only [apG]
    split
    · split
      · exact h0
      · rename_i h24
        refine apG_ok r _ ⟨by have := setL_len c.f1 out false; omega, fun x hx2 => ?_⟩ (by omega) (setL_sorted hs _) hr
        rcases hmem x hx2 with rfl | h3
        · exact hx.2
        · exact h.2 x h3
    · split
      · split
        · exact apG_ok r _ ⟨by have := (cut_sub out (plc (skey c.f1) out)).length_le; omega, fun x hx2 => h.2 x ((cut_sub out _).subset hx2)⟩ (by have := (cut_sub out (plc (skey c.f1) out)).length_le; omega) (cut_sorted hs _) hr
        · exact h0
      · exact h0
theorem core : ∀ (l0 : List (S150)) (l1 : List (S152)) (o0 : okSettingS l0) (o1 : okChangeS l1), ∃ (r1 : List (S150)) (r2 : Int), Ev (fun k => spec_ApplyChanges.f k l0 l1) (r1, r2) ∧ Ev (fun k => impl_ApplyChanges.f k l0 l1) (r1, r2) ∧ okSettingS r1 := by
  intro l0 l1 o0 o1
  have h0 := o0.1
  have h1 := o1.1
  refine ⟨(apR l0 l1).1, (apR l0 l1).2, specApply_ev l0 l1 h0 h1, implApply_ev l0 l1 h0 h1, ?_⟩
  have ok0 : okSettingS [] := ⟨by simp, fun x hx => by cases hx⟩
  unfold apR
  cases hst : stateOk l0 with
  | false => simp only [Bool.false_eq_true, if_false]; exact ok0
  | true =>
    obtain ⟨f0, f1, f2⟩ := stateOk_facts hst
    simp only [if_true]
    split
    · exact apG_ok l1 l0 o0 f0 f1 o1
    · exact ok0

end Go.Proofs.Ytobhjkpegcfdfaa.Pure
