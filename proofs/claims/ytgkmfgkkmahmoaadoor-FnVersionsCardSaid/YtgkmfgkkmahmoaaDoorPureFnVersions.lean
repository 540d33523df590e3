/- FnVersions: for every draw of states and of a history, changes lead from one state to the other, undoing gives the state before, and versions come from earlier ones. -/
import Derived.Test.YtgkmfgkkmahmoaaDoorPFnVersionsx0
import Derived.Test.YtgkmfgkkmahmoaaDoorPFnVersionsx1
import Derived.Test.YtgkmfgkkmahmoaaDoorPFnVersionsx2
import Derived.Test.YtgkmfgkkmahmoaaDoorPFnVersionsx3
import Derived.Test.YtgkmfgkkmahmoaaDoorPFnVersionsx4
import Derived.Test.YtgkmfgkkmahmoaaDoorPFnVersionsx5
import Derived.Test.YtgkmfgkkmahmoaaDoorPFnVersionsx6
import Derived.Test.YtgkmfgkkmahmoaaDoorPFnVersionsx7
import Derived.Test.YtgkmfgkkmahmoaaDoorPFnVersionsx8
import Derived.Test.YtgkmfgkkmahmoaaDoorPFnVersionsx9
import Derived.Test.YtgkmfgkkmahmoaaDoorPFnVersionsx10
import Derived.Test.YtgkmfgkkmahmoaaDoorPFnVersionsx11
import Derived.Test.YtgkmfgkkmahmoaaDoorPFnVersionsx12
import Derived.Test.YtgkmfgkkmahmoaaDoorPFnVersionsx13
import Derived.Test.YtgkmfgkkmahmoaaDoorPFnVersionsx14
namespace Go.Proofs.YtgkmfgkkmahmoaaDoor.Pure
open Go.RowKit Go.Proofs.YtgkmfgkkmahmoaaDoor.PFnVersions Go.Proofs.YtgkmfgkkmahmoaaDoorW.PrintWords Go.Proofs.YtgkmfgkkmahmoaaDoorW.PrintLast Go.Proofs.YtgkmfgkkmahmoaaDoorW.PrintMore
set_option linter.unusedVariables false
set_option linter.unusedSimpArgs false
def smallC (c : Int) : Bool := decide (97 ≤ c) && decide (c ≤ 122)
def digitC (c : Int) : Bool := decide (48 ≤ c) && decide (c ≤ 57)
def nameC (c : Int) : Bool := smallC c || digitC c
def nameOk (b : ByteArray) : Bool := decide (1 ≤ b.size) && (decide (b.size ≤ 10) && (smallC (bt b 0) && (List.range b.size).all fun i => nameC (bt b i)))
def inR (lo hi x : Int) : Bool := decide (lo ≤ x) && decide (x ≤ hi)
theorem w64 {x : Int} (h0 : -9223372036854775808 ≤ x) (h1 : x ≤ 9223372036854775807) : wrap64 x = x := by unfold wrap64; omega
theorem rd_nat (l : List Int) (i : Nat) : rd l (i : Int) = l.getD i 0 := by unfold rd; rw [Int.toNat_natCast]
theorem getD_mem {α : Type} {l : List α} {i : Nat} (d : α) (h : i < l.length) : l.getD i d ∈ l := by
 rw [List.getD_eq_getElem?_getD, List.getElem?_eq_getElem h]; exact List.getElem_mem _
theorem getD_lt {α : Type} {l : List α} {i : Nat} (d : α) (h : i < l.length) : l.getD i d = l[i] := by
 rw [List.getD_eq_getElem?_getD, List.getElem?_eq_getElem h]; rfl
abbrev Bs := List UInt8
theorem bs_irr (x : Bs) : ¬ x < x := List.lt_irrefl x
theorem bs_tr {x y z : Bs} (h1 : x < y) (h2 : y < z) : x < z := List.lt_trans h1 h2
theorem bs_tri {x y : Bs} (h1 : ¬ x < y) (h2 : x ≠ y) : y < x := by
 refine Classical.byContradiction fun h3 => h2 ?_
 exact List.le_antisymm (List.not_lt.1 h3) (List.not_lt.1 h1)
def insU (x : Bs) : List Bs → List Bs
 | [] => [x]
 | y :: ys => if y < x then y :: insU x ys else if y = x then y :: ys else x :: y :: ys
theorem insU_mem (x a : Bs) : ∀ ys : List Bs, a ∈ insU x ys ↔ a = x ∨ a ∈ ys
 | [] => by simp [insU]
 | y :: ys => by
  unfold insU
  split
  ·
   rw [List.mem_cons, insU_mem x a ys, List.mem_cons]
   constructor
   ·
    rintro (h | h | h) <;> simp [h]
   ·
    rintro (h | h | h) <;> simp [h]
  ·
   split
   ·
    rename_i e
    subst e
    simp
   ·
    simp
theorem insU_strict (x : Bs) : ∀ ys : List Bs, ys.Pairwise (· < ·) → (insU x ys).Pairwise (· < ·)
 | [], _ => by simp [insU]
 | y :: ys, h => by
  obtain ⟨h1, h2⟩ := List.pairwise_cons.1 h
  unfold insU
  split
  ·
   rename_i hyx
   refine List.pairwise_cons.2 ⟨fun a ha => ?_, insU_strict x ys h2⟩
   rcases (insU_mem x a ys).1 ha with e | m
   ·
    subst e; exact hyx
   ·
    exact h1 a m
  ·
   split
   ·
    exact h
   ·
    rename_i h3 h4
    have hxy := bs_tri h3 h4
    refine List.pairwise_cons.2 ⟨fun a ha => ?_, h⟩
    rcases List.mem_cons.1 ha with e | m
    ·
     subst e; exact hxy
    ·
     exact bs_tr hxy (h1 a m)
theorem bytesLess_iff : ∀ (a b : List UInt8), Op.bytesLess a b = true ↔ a < b
 | [], [] => by simp [Op.bytesLess]
 | [], y :: ys => by simp [Op.bytesLess]
 | x :: xs, [] => by simp [Op.bytesLess]
 | x :: xs, y :: ys => by
  have ih := bytesLess_iff xs ys
  simp only [Op.bytesLess, List.cons_lt_cons_iff]
  by_cases h : x = y
  ·
   subst h
   simp [ih]
  ·
   simp [h]
def mkB (x : Bs) : ByteArray := ⟨x.toArray⟩
theorem bltB (a b : ByteArray) : (Op.bytesLess a.toList b.toList = true) ↔ a.data.toList < b.data.toList := by
 rw [bytesLess_iff, ByteArray.toList_eq, ByteArray.toList_eq]
theorem beqB (a b : ByteArray) : (a.toList = b.toList) ↔ a = b := by
 rw [ByteArray.toList_eq, ByteArray.toList_eq]
 constructor
 ·
  intro h
  cases a; cases b
  congr 1
  exact Array.ext' h
 ·
  intro h; rw [h]
theorem ext_data {a b : ByteArray} (h : a.data.toList = b.data.toList) : a = b := by
 cases a; cases b
 congr 1
 exact Array.ext' h
def settOk (x : S96) : Bool := nameOk x.f0 && inR 0 1000 x.f1
def settAt (l : List S96) (i : Nat) : Bool := settOk (l.getD i z96) && (decide (i = 0) || decide ((l.getD (i - 1) z96).f0.data.toList < (l.getD i z96).f0.data.toList))
def stateOk (l : List S96) : Bool := decide (l.length ≤ 24) && (List.range l.length).all (settAt l)
theorem rdSt (l : List S96) (i : Nat) : rd_T96 l (i : Int) = l.getD i z96 := by unfold rd_T96; rw [Int.toNat_natCast]
theorem rdSts (l : List S96) (i : Nat) (h : 0 < i) : rd_T96 l ((i : Int) - 1) = l.getD (i - 1) z96 := by
 unfold rd_T96
 congr 1
 omega
def skey (x : S96) : Bs := x.f0.data.toList
theorem stateOk_facts {l : List S96} (h : stateOk l = true) : l.length ≤ 24 ∧ (l.map skey).Pairwise (· < ·) ∧ ∀ x ∈ l, settOk x = true := by
 unfold stateOk at h
 rw [Bool.and_eq_true, decide_eq_true_eq, List.all_eq_true] at h
 obtain ⟨h1, h2⟩ := h
 have h3 : ∀ i, i < l.length → settAt l i = true := fun i hi => h2 i (List.mem_range.2 hi)
 refine ⟨h1, ?_, fun x hx => ?_⟩
 ·
  rw [List.pairwise_iff_getElem]
  have step : ∀ i, (hi : i + 1 < l.length) → skey l[i] < skey l[i + 1] := fun i hi => by
   have := h3 (i + 1) hi
   unfold settAt at this
   rw [Bool.and_eq_true, Bool.or_eq_true, decide_eq_true_eq, decide_eq_true_eq] at this
   have h4 := this.2.resolve_left (by omega)
   rw [Nat.add_sub_cancel, getD_lt _ (by omega), getD_lt _ hi] at h4
   exact h4
  have far : ∀ m i, (hi : i + m + 1 < l.length) → skey (l[i]'(by omega)) < skey (l[i + m + 1]'hi) := by
   intro m
   induction m with
   | zero => intro i hi; exact step i hi
   | succ m ih =>
    intro i hi
    exact bs_tr (ih i (by omega)) (step (i + m + 1) hi)
  intro i j hi hj hij
  rw [List.length_map] at hi hj
  rw [List.getElem_map, List.getElem_map]
  have e : j = i + (j - i - 1) + 1 := by omega
  have := far (j - i - 1) i (by omega)
  simpa only [← e] using this
 ·
  obtain ⟨i, hi, rfl⟩ := List.mem_iff_getElem.1 hx
  have := h3 i hi
  unfold settAt at this
  rw [Bool.and_eq_true, getD_lt _ hi] at this
  exact this.1
def sameS (u v : S96) : Bool := u.f0.toList == v.f0.toList && (u.f1 == v.f1)
def fndS (l : List S96) (n : ByteArray) : Option S96 := l.find? fun x => decide (x.f0 = n)
def thS (l : List S96) (n : ByteArray) : Int × Bool := match fndS l n with | some x => (x.f1, true) | none => (0, false)
theorem fndS_some {l : List S96} {n : ByteArray} {x : S96} (h : fndS l n = some x) : x ∈ l ∧ x.f0 = n := by
 unfold fndS at h
 exact ⟨List.mem_of_find?_eq_some h, by simpa using List.find?_some h⟩
def setL (e : S96) : List S96 → Bool → List S96
 | [], done => if done = true then [] else [e]
 | x :: xs, done => if done = false ∧ ¬ skey x < skey e then e :: ((if x.f0 = e.f0 then [] else [x]) ++ setL e xs true) else (if x.f0 = e.f0 then [] else [x]) ++ setL e xs done
theorem setL_true (e : S96) : ∀ l : List S96, (∀ x ∈ l, skey e < skey x) → setL e l true = l
 | [], _ => rfl
 | x :: xs, h => by
  have h1 := h x List.mem_cons_self
  have h2 : ¬ x.f0 = e.f0 := fun h3 => by
   have : skey x = skey e := by unfold skey; rw [h3]
   rw [this] at h1
   exact bs_irr _ h1
  simp only [setL]
  rw [if_neg (by simp), if_neg h2, setL_true e xs (fun y hy => h y (List.mem_cons_of_mem _ hy))]
  rfl
theorem setL_keys (e : S96) : ∀ l : List S96, (l.map skey).Pairwise (· < ·) → (setL e l false).map skey = insU (skey e) (l.map skey)
 | [], _ => rfl
 | x :: xs, h => by
  rw [List.map_cons] at h
  obtain ⟨h1, h2⟩ := List.pairwise_cons.1 h
  have hk : ∀ y ∈ xs, skey x < skey y := fun y hy => h1 _ (List.mem_map.2 ⟨y, hy, rfl⟩)
  simp only [setL, List.map_cons, insU]
  by_cases a : skey x < skey e
  ·
   rw [if_neg (by simp [a]), if_pos a]
   have h3 : ¬ x.f0 = e.f0 := fun h3 => by
    have : skey x = skey e := by unfold skey; rw [h3]
    rw [this] at a
    exact bs_irr _ a
   rw [if_neg h3, List.map_append, setL_keys e xs h2]
   rfl
  ·
   rw [if_pos (by simp [a]), if_neg a]
   by_cases b : skey x = skey e
   ·
    have h3 : x.f0 = e.f0 := ext_data b
    rw [if_pos h3, if_pos b, List.nil_append, setL_true e xs (fun y hy => by rw [← b]; exact hk y hy), List.map_cons, b]
   ·
    have h3 : ¬ x.f0 = e.f0 := fun h3 => b (by unfold skey; rw [h3])
    have c : skey e < skey x := bs_tri a b
    rw [if_neg h3, if_neg b, setL_true e xs (fun y hy => bs_tr c (hk y hy))]
    rfl
def plc (e : Bs) : List S96 → Nat
 | [] => 0
 | y :: r => if skey y < e then plc e r + 1 else 0
def hasP (l : List S96) (e : Bs) : Bool := decide (plc e l < l.length) && decide (skey (l.getD (plc e l) z96) = e)
theorem plc_le (e : Bs) : ∀ l : List S96, plc e l ≤ l.length
 | [] => Nat.le_refl _
 | y :: r => by
  rw [plc, List.length_cons]
  have := plc_le e r
  split <;> omega
theorem plc_lt (e : Bs) : ∀ (l : List S96) (t : Nat), t < plc e l → skey (l.getD t z96) < e
 | [], t, h => absurd h (Nat.not_lt_zero _)
 | y :: r, t, h => by
  rw [plc] at h
  split at h
  ·
   rename_i hy
   cases t with
   | zero => exact hy
   | succ t => exact plc_lt e r t (by omega)
  ·
   exact absurd h (Nat.not_lt_zero _)
theorem plc_ge (e : Bs) : ∀ (l : List S96), (l.map skey).Pairwise (· < ·) → ∀ t : Nat, plc e l ≤ t → t < l.length → ¬ skey (l.getD t z96) < e
 | [], _, t, _, h => absurd h (Nat.not_lt_zero _)
 | y :: r, hs, t, h, hl => by
  rw [List.map_cons] at hs
  obtain ⟨h1, h2⟩ := List.pairwise_cons.1 hs
  rw [plc] at h
  split at h
  ·
   rename_i hy
   cases t with
   | zero => omega
   | succ t => exact plc_ge e r h2 t (by omega) (by simpa using hl)
  ·
   rename_i hy
   cases t with
   | zero => exact hy
   | succ t =>
    intro h3
    have hm : (r.getD t z96) ∈ r := getD_mem _ (by simpa using hl)
    exact hy (bs_tr (h1 _ (List.mem_map.2 ⟨_, hm, rfl⟩)) h3)
theorem hasP_cons (e : Bs) (y : S96) (r : List S96) : hasP (y :: r) e = if skey y < e then hasP r e else decide (skey y = e) := by
 unfold hasP
 rw [plc]
 split
 ·
  rw [List.length_cons, List.getD_cons_succ]
  congr 1
  exact decide_eq_decide.2 (by omega)
 ·
  rw [List.length_cons, List.getD_cons_zero, decide_eq_true (by omega), Bool.true_and]
theorem setL_plc (x : S96) : ∀ l : List S96, (l.map skey).Pairwise (· < ·) → setL x l false = if hasP l (skey x) = true then l.set (plc (skey x) l) x else l.take (plc (skey x) l) ++ x :: l.drop (plc (skey x) l)
 | [], _ => rfl
 | y :: r, hs => by
  rw [List.map_cons] at hs
  obtain ⟨h1, h2⟩ := List.pairwise_cons.1 hs
  have hk : ∀ z ∈ r, skey y < skey z := fun z hz => h1 _ (List.mem_map.2 ⟨z, hz, rfl⟩)
  have ih := setL_plc x r h2
  rw [hasP_cons]
  simp only [setL, plc]
  by_cases a : skey y < skey x
  ·
   have h3 : ¬ y.f0 = x.f0 := fun h3 => by
    have : skey y = skey x := by unfold skey; rw [h3]
    rw [this] at a
    exact bs_irr _ a
   rw [if_neg (by simp [a]), if_neg h3, if_pos a, if_pos a, ih]
   cases hasP r (skey x) with
   | true => simp
   | false => simp
  ·
   rw [if_pos (by simp [a]), if_neg a, if_neg a]
   by_cases b : skey y = skey x
   ·
    have h3 : y.f0 = x.f0 := ext_data b
    rw [if_pos h3, List.nil_append, setL_true x r (fun z hz => by rw [← b]; exact hk z hz), if_pos (decide_eq_true b)]
    rfl
   ·
    have h3 : ¬ y.f0 = x.f0 := fun h3 => b (by unfold skey; rw [h3])
    have c : skey x < skey y := bs_tri a b
    rw [if_neg h3, setL_true x r (fun z hz => bs_tr c (hk z hz)), if_neg (by simpa using b)]
    rfl
theorem setL_sorted {l : List S96} (h : (l.map skey).Pairwise (· < ·)) (x : S96) : ((setL x l false).map skey).Pairwise (· < ·) := by
 rw [setL_keys x l h]
 exact insU_strict _ _ h
theorem setL_length {l : List S96} (h : (l.map skey).Pairwise (· < ·)) (x : S96) : (setL x l false).length = if hasP l (skey x) = true then l.length else l.length + 1 := by
 rw [setL_plc x l h]
 have := plc_le (skey x) l
 split
 ·
  rw [List.length_set]
 ·
  rw [List.length_append, List.length_take, List.length_cons, List.length_drop]; omega
def chOk (c : S100) : Bool := (c.f0 == 1 || c.f0 == 2) && settOk c.f1
def apG : List S100 → List S96 → List S96 × Int
 | [], out => (out, 0)
 | c :: r, out => if c.f0 = 1 then (if (setL c.f1 out false).length > 24 then ([], 5) else apG r (setL c.f1 out false)) else if hasP out (skey c.f1) = true then (if sameS (out.getD (plc (skey c.f1) out) z96) c.f1 = true then apG r (out.take (plc (skey c.f1) out) ++ out.drop (plc (skey c.f1) out + 1)) else ([], 6)) else ([], 3)
def apR (l : List S96) (cs : List S100) : List S96 × Int := if stateOk l = true then (if cs.all chOk = true then apG cs l else ([], 1)) else ([], 1)
theorem cut_sub (l : List S96) (p : Nat) : (l.take p ++ l.drop (p + 1)).Sublist l := by
 have h : (l.drop (p + 1)).Sublist (l.drop p) := by
  rw [← List.drop_drop]
  exact List.drop_sublist _ _
 have := (List.Sublist.refl (l.take p)).append h
 rwa [List.take_append_drop] at this
theorem cut_sorted {l : List S96} (h : (l.map skey).Pairwise (· < ·)) (p : Nat) : ((l.take p ++ l.drop (p + 1)).map skey).Pairwise (· < ·) := h.sublist ((cut_sub l p).map _)
theorem key_inj {α : Type} (key : α → Bs) : ∀ {l : List α}, (l.map key).Pairwise (· < ·) → ∀ {x y}, x ∈ l → y ∈ l → key x = key y → x = y
 | [], _, _, _, hx, _, _ => by cases hx
 | z :: l, h, x, y, hx, hy, e => by
  rw [List.map_cons] at h
  obtain ⟨h1, h2⟩ := List.pairwise_cons.1 h
  rcases List.mem_cons.1 hx with hx1 | hx1
  ·
   rcases List.mem_cons.1 hy with hy1 | hy1
   ·
    rw [hx1, hy1]
   ·
    exact absurd (h1 _ (List.mem_map.2 ⟨y, hy1, rfl⟩)) (by rw [← hx1, e]; exact bs_irr _)
  ·
   rcases List.mem_cons.1 hy with hy1 | hy1
   ·
    exact absurd (h1 _ (List.mem_map.2 ⟨x, hx1, rfl⟩)) (by rw [← hy1, e]; exact bs_irr _)
   ·
    exact key_inj key h2 hx1 hy1 e
theorem strict_extk {α : Type} (key : α → Bs) : ∀ {l m : List α}, (l.map key).Pairwise (· < ·) → (m.map key).Pairwise (· < ·) → (∀ x, x ∈ l ↔ x ∈ m) → l = m
 | [], [], _, _, _ => rfl
 | [], y :: m, _, _, h => by have := (h y).2 List.mem_cons_self; cases this
 | x :: l, [], _, _, h => by have := (h x).1 List.mem_cons_self; cases this
 | x :: l, y :: m, h1, h2, h => by
  rw [List.map_cons] at h1 h2
  obtain ⟨a1, b1⟩ := List.pairwise_cons.1 h1
  obtain ⟨a2, b2⟩ := List.pairwise_cons.1 h2
  have e : x = y := by
   rcases List.mem_cons.1 ((h x).1 List.mem_cons_self) with e | hx
   ·
    exact e
   ·
    rcases List.mem_cons.1 ((h y).2 List.mem_cons_self) with e | hy
    ·
     exact e.symm
    ·
     exact absurd (bs_tr (a2 _ (List.mem_map.2 ⟨x, hx, rfl⟩)) (a1 _ (List.mem_map.2 ⟨y, hy, rfl⟩))) (bs_irr _)
  subst e
  congr 1
  refine strict_extk key b1 b2 (fun z => ⟨fun hz => ?_, fun hz => ?_⟩)
  ·
   rcases List.mem_cons.1 ((h z).1 (List.mem_cons_of_mem _ hz)) with rfl | h3
   ·
    exact absurd (a1 _ (List.mem_map.2 ⟨z, hz, rfl⟩)) (bs_irr _)
   ·
    exact h3
  ·
   rcases List.mem_cons.1 ((h z).2 (List.mem_cons_of_mem _ hz)) with rfl | h3
   ·
    exact absurd (a2 _ (List.mem_map.2 ⟨z, hz, rfl⟩)) (bs_irr _)
   ·
    exact h3
def six : List Bs := [[97], [98], [99], [100], [101], [102]]
def goodS (l : List S96) : Prop := (l.map skey).Pairwise (· < ·) ∧ ∀ x ∈ l, skey x ∈ six ∧ 0 ≤ x.f1 ∧ x.f1 ≤ 1000
theorem six_strict : six.Pairwise (· < ·) := by unfold six; decide
theorem goodS_len {l : List S96} (h : goodS l) : l.length ≤ 6 := by
 have e : l.map skey = six.filter (fun x => decide (x ∈ l.map skey)) := by
  refine strict_extk id (by rw [List.map_id]; exact h.1) (by rw [List.map_id]; exact six_strict.filter _) (fun x => ?_)
  rw [List.mem_filter, decide_eq_true_eq]
  refine ⟨fun hx => ⟨?_, hx⟩, fun hx => hx.2⟩
  obtain ⟨y, hy, rfl⟩ := List.mem_map.1 hx
  exact (h.2 y hy).1
 have := List.length_filter_le (fun x => decide (x ∈ l.map skey)) six
 rw [← e, List.length_map] at this
 exact this
theorem stateOk_of {l : List S96} (h1 : l.length ≤ 24) (h2 : (l.map skey).Pairwise (· < ·)) (h3 : ∀ x ∈ l, settOk x = true) : stateOk l = true := by
 unfold stateOk
 rw [Bool.and_eq_true, decide_eq_true_eq, List.all_eq_true]
 refine ⟨h1, fun i hi => ?_⟩
 have hi := List.mem_range.1 hi
 unfold settAt
 rw [Bool.and_eq_true, Bool.or_eq_true, decide_eq_true_eq, decide_eq_true_eq]
 refine ⟨h3 _ (getD_mem _ hi), ?_⟩
 by_cases h0 : i = 0
 ·
  exact .inl h0
 ·
  refine .inr ?_
  rw [getD_lt _ (by omega), getD_lt _ hi]
  have := List.pairwise_iff_getElem.1 h2 (i - 1) i (by rw [List.length_map]; omega) (by rw [List.length_map]; omega) (by omega)
  rw [List.getElem_map, List.getElem_map] at this
  exact this
theorem six_name : ∀ n ∈ six, nameOk (mkB n) = true := by unfold six; decide
theorem goodS_sett {l : List S96} (h : goodS l) : ∀ x ∈ l, settOk x = true := fun x hx => by
 obtain ⟨a, b, c⟩ := h.2 x hx
 have := six_name _ a
 unfold settOk
 rw [Bool.and_eq_true]
 refine ⟨this, ?_⟩
 unfold inR
 simp [b, c]
theorem goodS_ok {l : List S96} (h : goodS l) : stateOk l = true := stateOk_of (by have := goodS_len h; omega) h.1 (goodS_sett h)
theorem goodS_sub {l m : List S96} (h : goodS l) (hs : m.Sublist l) : goodS m := ⟨h.1.sublist (hs.map _), fun x hx => h.2 x (hs.subset hx)⟩
theorem setL_mem (e : S96) : ∀ (l : List S96) (d : Bool), ∀ x ∈ setL e l d, x = e ∨ x ∈ l
 | [], d, x, hx => by cases d <;> simp [setL] at hx; exact .inl hx
 | y :: l, d, x, hx => by
  simp only [setL] at hx
  have hy : ∀ z, z ∈ ((if y.f0 = e.f0 then [] else [y]) : List S96) → z = y := fun z hz => by split at hz <;> simp at hz; exact hz
  split at hx
  ·
   rcases List.mem_cons.1 hx with hx | hx
   ·
    exact .inl hx
   ·
    rcases List.mem_append.1 hx with hx | hx
    ·
     rw [hy x hx]; exact .inr List.mem_cons_self
    ·
     exact (setL_mem e l true x hx).imp_right (List.mem_cons_of_mem _)
  ·
   rcases List.mem_append.1 hx with hx | hx
   ·
    rw [hy x hx]; exact .inr List.mem_cons_self
   ·
    exact (setL_mem e l d x hx).imp_right (List.mem_cons_of_mem _)
theorem goodS_set {l : List S96} (h : goodS l) {e : S96} (h1 : skey e ∈ six) (h2 : 0 ≤ e.f1) (h3 : e.f1 ≤ 1000) : goodS (setL e l false) := by
 refine ⟨?_, fun x hx => ?_⟩
 ·
  rw [setL_keys e l h.1]
  exact insU_strict _ _ h.1
 ·
  rcases setL_mem e l false x hx with rfl | hx
  ·
   exact ⟨h1, h2, h3⟩
  ·
   exact h.2 x hx
def remP (b : List S96) (x : S96) : Bool := !(thS b x.f0).2
def setP (a : List S96) (y : S96) : Bool := !((thS a y.f0).2 && decide ((thS a y.f0).1 = y.f1))
def remC (x : S96) : S100 := ⟨2, x⟩
def setC (x : S96) : S100 := ⟨1, x⟩
def diffL (a b : List S96) : List S100 := (a.filter (remP b)).map remC ++ (b.filter (setP a)).map setC
theorem thS_in {l : List S96} {n : ByteArray} : (thS l n).2 = true ↔ ∃ x ∈ l, x.f0 = n := by
 unfold thS
 cases h : fndS l n with
 | none =>
  refine ⟨fun e => (by cases e), fun ⟨x, hx, e⟩ => ?_⟩
  unfold fndS at h
  have := List.find?_eq_none.1 h x hx
  simp [e] at this
 | some x => exact ⟨fun _ => ⟨x, (fndS_some h).1, (fndS_some h).2⟩, fun _ => rfl⟩
theorem thS_val {l : List S96} {n : ByteArray} (h : (thS l n).2 = true) : (⟨n, (thS l n).1⟩ : S96) ∈ l := by
 unfold thS at h ⊢
 cases e : fndS l n with
 | none => rw [e] at h; cases h
 | some x =>
  have := fndS_some e
  rw [← this.2]
  exact this.1
theorem skey_f0 {x y : S96} : skey x = skey y ↔ x.f0 = y.f0 := by
 constructor
 ·
  intro e
  have h1 : mkB (skey x) = mkB (skey y) := by rw [e]
  exact h1
 ·
  intro e
  unfold skey
  rw [e]
theorem plc_at (e : Bs) : ∀ (p r : List S96), (∀ x ∈ p, skey x < e) → (∀ x ∈ r, ¬ skey x < e) → plc e (p ++ r) = p.length
 | [], [], _, _ => rfl
 | [], y :: r, _, h => by rw [List.nil_append, plc, if_neg (h y (List.mem_cons_self ..))]; rfl
 | y :: p, r, h, h2 => by
  rw [List.cons_append, plc, if_pos (h y (List.mem_cons_self ..)), plc_at e p r (fun x hx => h x (List.mem_cons_of_mem _ hx)) h2]
  rfl
theorem lt_irr (a : Bs) : ¬ a < a := List.lt_irrefl a
theorem sameS_refl (x : S96) : sameS x x = true := by unfold sameS; simp
theorem rem_step (p r : List S96) (x : S96) (h : ((p ++ x :: r).map skey).Pairwise (· < ·)) (cs : List S100) : apG (remC x :: cs) (p ++ x :: r) = apG cs (p ++ r) := by
 have h' := h
 rw [List.map_append, List.map_cons, List.pairwise_append] at h'
 obtain ⟨_, h2, h3⟩ := h'
 have hp : plc (skey x) (p ++ x :: r) = p.length := plc_at _ p (x :: r) (fun y hy => h3 _ (List.mem_map_of_mem hy) _ (List.mem_cons_self ..)) (fun y hy => by
  rcases List.mem_cons.1 hy with rfl | hy
  ·
   exact lt_irr _
  ·
   exact fun hlt => lt_irr _ (List.lt_trans hlt ((List.pairwise_cons.1 h2).1 _ (List.mem_map_of_mem hy))))
 have hg : (p ++ x :: r).getD p.length z96 = x := by
  rw [List.getD_eq_getElem?_getD, List.getElem?_append_right (Nat.le_refl _), Nat.sub_self]; rfl
 have hh : hasP (p ++ x :: r) (skey x) = true := by
  unfold hasP
  rw [hp, hg, List.length_append, List.length_cons]
  simp
 rw [apG]
 simp only [remC, show ¬ ((2 : Int) = 1) by decide, if_false, hh, if_true, hp, hg, sameS_refl]
 congr 1
 rw [List.take_left, List.drop_append, List.drop_of_length_le (by omega), List.nil_append, show p.length + 1 - p.length = 1 by omega]
 rfl
theorem rem_all (b : List S96) (cs : List S100) : ∀ (r p : List S96), ((p ++ r).map skey).Pairwise (· < ·) → apG ((r.filter (remP b)).map remC ++ cs) (p ++ r) = apG cs (p ++ r.filter (fun x => !remP b x))
 | [], p, _ => rfl
 | x :: r, p, h => by
  cases c : remP b x with
  | true =>
   rw [List.filter_cons_of_pos (by simpa using c), List.filter_cons_of_neg (by simp [c]), List.map_cons, List.cons_append, rem_step p r x h]
   exact rem_all b cs r p (h.sublist ((List.Sublist.append (List.Sublist.refl p) (List.sublist_cons_self x r)).map _))
  | false =>
   rw [List.filter_cons_of_neg (by simp [c]), List.filter_cons_of_pos (by simp [c])]
   have := rem_all b cs r (p ++ [x]) (by simpa using h)
   simpa using this
theorem setL_in (e : S96) : ∀ (l : List S96) (d : Bool) (x : S96), x ∈ setL e l d ↔ (x = e ∧ d = false) ∨ (x ∈ l ∧ x.f0 ≠ e.f0)
 | [], d, x => by cases d <;> simp [setL]
 | y :: r, d, x => by
  have h1 := setL_in e r true x
  have h2 := setL_in e r d x
  rw [setL]
  by_cases c : d = false ∧ ¬ skey y < skey e
  ·
   rw [if_pos c, List.mem_cons, List.mem_append, h1]
   by_cases k : y.f0 = e.f0
   ·
    rw [if_pos k]
    constructor
    ·
     rintro (h | h | h | h)
     ·
      exact .inl ⟨h, c.1⟩
     ·
      cases h
     ·
      exact absurd h.2 (by decide)
     ·
      exact .inr ⟨List.mem_cons_of_mem _ h.1, h.2⟩
    ·
     rintro (h | h)
     ·
      exact .inl h.1
     ·
      rcases List.mem_cons.1 h.1 with g | g
      ·
       exact absurd (by rw [g]; exact k) h.2
      ·
       exact .inr (.inr (.inr ⟨g, h.2⟩))
   ·
    rw [if_neg k]
    constructor
    ·
     rintro (h | h | h | h)
     ·
      exact .inl ⟨h, c.1⟩
     ·
      obtain rfl := List.mem_singleton.1 h
      exact .inr ⟨List.mem_cons_self .., k⟩
     ·
      exact absurd h.2 (by decide)
     ·
      exact .inr ⟨List.mem_cons_of_mem _ h.1, h.2⟩
    ·
     rintro (h | h)
     ·
      exact .inl h.1
     ·
      rcases List.mem_cons.1 h.1 with g | g
      ·
       exact .inr (.inl (List.mem_singleton.2 g))
      ·
       exact .inr (.inr (.inr ⟨g, h.2⟩))
  ·
   rw [if_neg c, List.mem_append, h2]
   by_cases k : y.f0 = e.f0
   ·
    rw [if_pos k]
    constructor
    ·
     rintro (h | h | h)
     ·
      cases h
     ·
      exact .inl h
     ·
      exact .inr ⟨List.mem_cons_of_mem _ h.1, h.2⟩
    ·
     rintro (h | h)
     ·
      exact .inr (.inl h)
     ·
      rcases List.mem_cons.1 h.1 with g | g
      ·
       exact absurd (by rw [g]; exact k) h.2
      ·
       exact .inr (.inr ⟨g, h.2⟩)
   ·
    rw [if_neg k]
    constructor
    ·
     rintro (h | h | h)
     ·
      obtain rfl := List.mem_singleton.1 h
      exact .inr ⟨List.mem_cons_self .., k⟩
     ·
      exact .inl h
     ·
      exact .inr ⟨List.mem_cons_of_mem _ h.1, h.2⟩
    ·
     rintro (h | h)
     ·
      exact .inr (.inl h)
     ·
      rcases List.mem_cons.1 h.1 with g | g
      ·
       exact .inl (List.mem_singleton.2 g)
      ·
       exact .inr (.inr ⟨g, h.2⟩)
theorem set_all : ∀ (ys out : List S96), goodS out → (∀ y ∈ ys, skey y ∈ six ∧ 0 ≤ y.f1 ∧ y.f1 ≤ 1000) → ys.Pairwise (fun a b => a.f0 ≠ b.f0) → ∃ res, apG (ys.map setC) out = (res, 0) ∧ goodS res ∧ ∀ x, x ∈ res ↔ x ∈ ys ∨ (x ∈ out ∧ ∀ y ∈ ys, x.f0 ≠ y.f0)
 | [], out, h, _, _ => ⟨out, rfl, h, fun x => by simp⟩
 | y :: r, out, h, h2, h3 => by
  obtain ⟨p1, p2⟩ := List.pairwise_cons.1 h3
  obtain ⟨q1, q2, q3⟩ := h2 y (List.mem_cons_self ..)
  have hg := goodS_set h q1 q2 q3
  obtain ⟨res, e, hr, hm⟩ := set_all r (setL y out false) hg (fun z hz => h2 z (List.mem_cons_of_mem _ hz)) p2
  refine ⟨res, ?_, hr, fun x => ?_⟩
  ·
   rw [List.map_cons, apG]
   simp only [setC, if_true, show ¬ (setL y out false).length > 24 by have := goodS_len hg; omega, if_false]
   exact e
  ·
   rw [hm x, setL_in y out false x, List.mem_cons]
   constructor
   ·
    rintro (g | ⟨g | g, k⟩)
    ·
     exact .inl (.inr g)
    ·
     exact .inl (.inl g.1)
    ·
     refine .inr ⟨g.1, fun z hz => ?_⟩
     rcases List.mem_cons.1 hz with rfl | hz
     ·
      exact g.2
     ·
      exact k z hz
   ·
    rintro ((g | g) | g)
    ·
     subst g
     exact .inr ⟨.inl ⟨rfl, rfl⟩, fun z hz => p1 z hz⟩
    ·
     exact .inl g
    ·
     exact .inr ⟨.inr ⟨g.1, g.2 y (List.mem_cons_self ..)⟩, fun z hz => g.2 z (List.mem_cons_of_mem _ hz)⟩
theorem keys_ne {l : List S96} (h : (l.map skey).Pairwise (· < ·)) : l.Pairwise (fun a b => a.f0 ≠ b.f0) := by
 rw [List.pairwise_map] at h
 exact h.imp (fun {a b} hlt e => by rw [skey_f0.2 e] at hlt; exact lt_irr _ hlt)
theorem key_eq {l : List S96} (h : (l.map skey).Pairwise (· < ·)) {x y : S96} (hx : x ∈ l) (hy : y ∈ l) (e : x.f0 = y.f0) : x = y := key_inj skey h hx hy (skey_f0.2 e)
theorem diff_all {a b : List S96} (ha : goodS a) (hb : goodS b) : apG (diffL a b) a = (b, 0) := by
 have h1 := rem_all b ((b.filter (setP a)).map setC) a [] (by simpa using ha.1)
 rw [List.nil_append, List.nil_append] at h1
 unfold diffL
 rw [h1]
 have hg : goodS (a.filter fun x => !remP b x) := goodS_sub ha List.filter_sublist
 obtain ⟨res, e, hr, hm⟩ := set_all (b.filter (setP a)) _ hg (fun y hy => hb.2 y (List.mem_filter.1 hy).1) ((keys_ne hb.1).filter _)
 rw [e]
 congr 1
 refine strict_extk skey hr.1 hb.1 (fun x => ?_)
 rw [hm x, List.mem_filter, List.mem_filter]
 constructor
 ·
  rintro (g | ⟨⟨g1, g2⟩, g3⟩)
  ·
   exact g.1
  ·
   have hin : (thS b x.f0).2 = true := by simpa [remP] using g2
   obtain ⟨y, hy, ey⟩ := thS_in.1 hin
   by_cases c : setP a y = true
   ·
    exact absurd ey.symm (g3 y (List.mem_filter.2 ⟨hy, c⟩))
   ·
    have c2 : (thS a y.f0).2 = true ∧ (thS a y.f0).1 = y.f1 := by simpa [setP] using c
    have hv := thS_val c2.1
    rw [c2.2] at hv
    have : y ∈ a := hv
    rw [key_eq ha.1 g1 this ey.symm]
    exact hy
 ·
  intro g
  by_cases c : setP a x = true
  ·
   exact .inl ⟨g, c⟩
  ·
   have c2 : (thS a x.f0).2 = true ∧ (thS a x.f0).1 = x.f1 := by simpa [setP] using c
   have hv := thS_val c2.1
   rw [c2.2] at hv
   have hxa : x ∈ a := hv
   refine .inr ⟨⟨hxa, ?_⟩, fun y hy e2 => ?_⟩
   ·
    have : (thS b x.f0).2 = true := thS_in.2 ⟨x, g, rfl⟩
    simp [remP, this]
   ·
    have hy2 := List.mem_filter.1 hy
    have := key_eq hb.1 g hy2.1 e2
    subst this
    exact c hy2.2
theorem Ev.succ {α : Type} {g : Nat → Option α} {r : α} (h : Ev (fun k => g (k + 1)) r) : Ev g r := Ev.step (fun _ => rfl) h
theorem Ev.now' {α : Type} {a b : α} (h : a = b) : Ev (fun _ => some a) b := h ▸ Ev.now a
theorem valAt_ev (l : List S96) (n : ByteArray) (hl : l.length ≤ 1048576) : Ev (fun k => impl_valueAt.f k l n) (thS l n) := by
 have hat : ∀ (m i : Nat), i + m = l.length → Ev (fun k => impl_valueAt.l0 k n l l.length i) (thS (l.drop i) n) := by
  intro m
  induction m with
  | zero =>
   intro i hi
   rw [List.drop_of_length_le (by omega)]
   refine Ev.succ ?_
   simp (disch := omega) only [impl_valueAt.l0, if_neg]
   exact Ev.now _
  | succ m ih =>
   intro i hi
   have hlt : i < l.length := by omega
   refine Ev.succ ?_
   simp (disch := omega) only [impl_valueAt.l0, if_pos, rdSt, getD_lt _ hlt, beqB, w64]
   rw [List.drop_eq_getElem_cons hlt]
   by_cases hn : l[i].f0 = n
   ·
    have e : thS (l[i] :: l.drop (i + 1)) n = (l[i].f1, true) := by unfold thS fndS; simp only [List.find?_cons, hn, decide_true]
    rw [e]
    simp only [hn, if_true]
    exact Ev.now _
   ·
    have e : thS (l[i] :: l.drop (i + 1)) n = thS (l.drop (i + 1)) n := by unfold thS fndS; simp only [List.find?_cons, hn, decide_false]
    rw [e]
    simp only [hn, if_false]
    exact ih (i + 1) (by omega)
 have h := hat l.length 0 (by omega)
 rw [List.drop_zero] at h
 exact h
theorem implIn_eq (a lo hi : Int) : impl_within.f a lo hi = some (inR lo hi a) := rfl
theorem ev_all {α ρ : Type} (L : Nat → Int → Option ρ) (xs : List α) (d : α) (p : α → Bool) (b c : ρ)
  (step : ∀ i, i < xs.length → p (xs.getD i d) = true → ∀ r, Ev (fun k => L k ((i + 1 : Nat) : Int)) r → Ev (fun k => L k (i : Int)) r)
  (bad : ∀ i, i < xs.length → p (xs.getD i d) = false → Ev (fun k => L k (i : Int)) b)
  (fin : Ev (fun k => L k (xs.length : Int)) c) : Ev (fun k => L k 0) (if xs.all p = true then c else b) := by
 have key : ∀ (m i : Nat), i + m = xs.length → Ev (fun k => L k (i : Int)) (if (xs.drop i).all p = true then c else b) := by
  intro m
  induction m with
  | zero =>
   intro i hi
   have : i = xs.length := by omega
   subst this
   rw [List.drop_length]
   exact fin
  | succ m ih =>
   intro i hi
   have hlt : i < xs.length := by omega
   rw [List.drop_eq_getElem_cons hlt, List.all_cons, ← getD_lt d hlt]
   cases hp : p (xs.getD i d) with
   | true => rw [Bool.true_and]; exact step i hlt hp _ (ih (i + 1) (by omega))
   | false => rw [Bool.false_and, if_neg (by decide)]; exact bad i hlt hp
 exact key xs.length 0 (by omega)
theorem implBytes_ev (b : ByteArray) (hb : b.size ≤ 10) : Ev (fun k => impl_onlyNameBytes.f k b) ((List.range b.size).all fun i => nameC (bt b i)) := by
 unfold impl_onlyNameBytes.f
 have key := ev_all (fun k i => impl_onlyNameBytes.l0 k b b.size i) (List.range b.size) 0 (fun i => nameC (bt b i)) false true (fun i hi hp s hs2 => ?_) (fun i hi hp => ?_) ?_
 ·
  revert key
  cases (List.range b.size).all fun i => nameC (bt b i) <;> exact id
 ·
  rw [List.length_range] at hi
  rw [getD_lt 0 (by simpa using hi), List.getElem_range] at hp
  refine Ev.step (fun k => ?_) hs2
  simp only [impl_onlyNameBytes.l0]
  rw [if_pos (by omega), if_pos (by omega), if_pos (by omega), w64 (by omega) (by omega)]
  simp only [nameC, smallC, digitC, Bool.or_eq_true, Bool.and_eq_true, decide_eq_true_eq] at hp
  split
  ·
   rw [if_neg (by omega), if_neg (by omega)]; rfl
  ·
   split
   ·
    omega
   ·
    rfl
 ·
  rw [List.length_range] at hi
  rw [getD_lt 0 (by simpa using hi), List.getElem_range] at hp
  refine Ev.step (f := fun _ => some false) (fun k => ?_) (Ev.now _)
  simp only [impl_onlyNameBytes.l0]
  rw [if_pos (by omega), if_pos (by omega), if_pos (by omega)]
  simp only [nameC, smallC, digitC, Bool.or_eq_false_iff, Bool.and_eq_false_iff, decide_eq_false_iff_not] at hp
  split
  ·
   split
   ·
    rfl
   ·
    rw [if_pos (by omega)]
  ·
   split
   ·
    rw [if_neg (by omega), if_pos (by omega)]
   ·
    omega
 ·
  refine Ev.step (f := fun _ => some true) (fun k => ?_) (Ev.now _)
  simp only [impl_onlyNameBytes.l0]
  rw [List.length_range, if_neg (by omega)]
theorem implName_ev (b : ByteArray) : Ev (fun k => impl_IsName.f k b) (nameOk b) := by
 unfold impl_IsName.f nameOk
 by_cases h1 : b.size < 1
 ·
  rw [decide_eq_false (by omega), Bool.false_and]
  simp only [show (b.size : Int) < 1 by omega, if_true]
  exact Ev.now _
 ·
  rw [decide_eq_true (show 1 ≤ b.size by omega), Bool.true_and]
  simp only [show ¬ (b.size : Int) < 1 by omega, if_false]
  by_cases h10 : b.size > 10
  ·
   rw [decide_eq_false (show ¬ b.size ≤ 10 by omega), Bool.false_and]
   simp only [show (b.size : Int) > 10 by omega, if_true]
   exact Ev.now _
  ·
   rw [decide_eq_true (show b.size ≤ 10 by omega), Bool.true_and]
   simp only [show ¬ (b.size : Int) > 10 by omega, if_false, show 0 < (b.size : Int) by omega, if_true]
   unfold smallC
   by_cases g1 : bt b 0 < 97
   ·
    simp only [g1, if_true, decide_eq_false (show ¬ 97 ≤ bt b 0 by omega), Bool.false_and]
    exact Ev.now _
   ·
    simp only [g1, if_false, decide_eq_true (show 97 ≤ bt b 0 by omega), Bool.true_and]
    by_cases g2 : bt b 0 > 122
    ·
     simp only [g2, if_true, decide_eq_false (show ¬ bt b 0 ≤ 122 by omega), Bool.false_and]
     exact Ev.now _
    ·
     simp only [g2, if_false, decide_eq_true (show bt b 0 ≤ 122 by omega), Bool.true_and]
     refine Ev.bind (implBytes_ev b (by omega)) ?_
     exact Ev.now _
theorem implSett_ev (x : S96) : Ev (fun k => impl_Setting_valid.f k x.f0 x.f1) (settOk x) := by
 unfold impl_Setting_valid.f settOk
 simp only [implIn_eq, Option.bind_some]
 refine Ev.bind (implName_ev x.f0) ?_
 cases nameOk x.f0 with
 | false => exact Ev.now _
 | true => exact Ev.now _
theorem implState_ev (l : List S96) (hl : l.length ≤ 1048576) : Ev (fun k => impl_ValidState.f k l) (stateOk l) := by
 unfold impl_ValidState.f stateOk
 by_cases hn : l.length > 24
 ·
  rw [decide_eq_false (by omega), Bool.false_and]
  simp only [show (l.length : Int) > 24 by omega, if_true]
  exact Ev.now _
 rw [decide_eq_true (show l.length ≤ 24 by omega), Bool.true_and]
 simp only [show ¬ (l.length : Int) > 24 by omega, if_false]
 have key := ev_all (fun k i => impl_ValidState.l0 k l l l.length i) (List.range l.length) 0 (settAt l) false true (fun i hi hp s hs => ?_) (fun i hi hp => ?_) ?_
 ·
  revert key
  cases (List.range l.length).all (settAt l) <;> exact id
 ·
  rw [List.length_range] at hi
  rw [getD_lt 0 (by simpa using hi), List.getElem_range] at hp
  unfold settAt at hp
  rw [Bool.and_eq_true, Bool.or_eq_true, decide_eq_true_eq, decide_eq_true_eq] at hp
  refine Ev.succ ?_
  simp (disch := omega) only [impl_ValidState.l0, if_pos, w64, rdSt]
  have h1 := implSett_ev (l.getD i z96)
  rw [hp.1] at h1
  refine Ev.bind h1 ?_
  by_cases h0 : 0 < i
  ·
   have := hp.2.resolve_left (by omega)
   simp (disch := omega) only [rdSts, if_pos, if_neg, bltB, this, if_true]
   exact hs
  ·
   simp (disch := omega) only [if_pos, if_neg]
   exact hs
 ·
  rw [List.length_range] at hi
  rw [getD_lt 0 (by simpa using hi), List.getElem_range] at hp
  unfold settAt at hp
  refine Ev.succ ?_
  simp (disch := omega) only [impl_ValidState.l0, if_pos, w64, rdSt]
  refine Ev.bind (implSett_ev (l.getD i z96)) ?_
  cases ho : settOk (l.getD i z96) with
  | false => exact Ev.now _
  | true =>
   rw [ho, Bool.true_and, Bool.or_eq_false_iff, decide_eq_false_iff_not, decide_eq_false_iff_not] at hp
   simp (disch := omega) only [rdSts, if_pos, if_neg, bltB, hp.2, if_false]
   exact Ev.now _
 ·
  refine Ev.succ ?_
  simp only [impl_ValidState.l0, List.length_range, Int.lt_irrefl, if_false]
  exact Ev.now _
def cmpK (a b : Bs) : Int := if a < b then -1 else if b < a then 1 else 0
theorem cmpS_eq (a : ByteArray) (p : Int) (b : ByteArray) (q : Int) : impl_compareSettings.f a p b q = some (cmpK a.data.toList b.data.toList) := by
 unfold impl_compareSettings.f cmp_Compare_string.f cmp_isNaN_string.f cmpK
 simp only [bne_self_eq_false, Option.bind_some, Bool.false_eq_true, if_false, bltB]
 by_cases h : a.data.toList < b.data.toList
 ·
  simp only [h, if_true, Option.bind_some]
 ·
  simp only [h, if_false]
  by_cases h2 : b.data.toList < a.data.toList
  ·
   simp only [h2, if_true, Option.bind_some]
  ·
   simp only [h2, if_false, Option.bind_some]
theorem bsP_ev (l : List S96) (x : S96) (hs : (l.map skey).Pairwise (· < ·)) : Ev (fun k => bsF_Setting (fun y => impl_compareSettings.f y.f0 y.f1 x.f0 x.f1) l k) (plc (skey x) l, hasP l (skey x)) := by
 have hp := plc_le (skey x) l
 have hcf : (fun y : S96 => impl_compareSettings.f y.f0 y.f1 x.f0 x.f1) = fun y => some (cmpK (skey y) (skey x)) := funext fun y => cmpS_eq _ _ _ _
 rw [hcf]
 have key : ∀ (m i j : Nat), j - i ≤ m → i ≤ plc (skey x) l → plc (skey x) l ≤ j → j ≤ l.length → Ev (fun k => bsL_Setting (fun y => some (cmpK (skey y) (skey x))) l k i j) (plc (skey x) l) := by
  intro m
  induction m with
  | zero =>
   intro i j hm h1 h2 h3
   refine Ev.succ ?_
   simp only [bsL_Setting, show ¬ i < j by omega, if_false]
   rw [show i = plc (skey x) l by omega]
   exact Ev.now _
  | succ m ih =>
   intro i j hm h1 h2 h3
   refine Ev.succ ?_
   by_cases c : i < j
   ·
    simp only [bsL_Setting, c, if_true, Option.bind_some, rdSt]
    by_cases d : (i + j) / 2 < plc (skey x) l
    ·
     have hk : cmpK (skey (l.getD ((i + j) / 2) z96)) (skey x) = -1 := by
      unfold cmpK
      exact if_pos (plc_lt _ l _ d)
     simp only [hk, show (-1 : Int) < 0 by decide, if_true]
     exact ih ((i + j) / 2 + 1) j (by omega) (by omega) h2 h3
    ·
     have hk : ¬ cmpK (skey (l.getD ((i + j) / 2) z96)) (skey x) < 0 := by
      have hn := plc_ge (skey x) l hs ((i + j) / 2) (by omega) (by omega)
      unfold cmpK
      rw [if_neg hn]
      split <;> decide
     simp only [hk, if_false]
     exact ih i ((i + j) / 2) (by omega) h1 (by omega) (by omega)
   ·
    simp only [bsL_Setting, c, if_false]
    rw [show i = plc (skey x) l by omega]
    exact Ev.now _
 unfold bsF_Setting
 refine Ev.bind (key l.length 0 l.length (by omega) (Nat.zero_le _) hp (Nat.le_refl _)) ?_
 unfold hasP
 by_cases c : plc (skey x) l < l.length
 ·
  simp only [c, if_true, Option.bind_some, rdSt, decide_true, Bool.true_and]
  have hn := plc_ge (skey x) l hs _ (Nat.le_refl _) c
  have e : (cmpK (skey (l.getD (plc (skey x) l) z96)) (skey x) == 0) = decide (skey (l.getD (plc (skey x) l) z96) = skey x) := by
   unfold cmpK
   rw [if_neg hn]
   by_cases d : skey x < skey (l.getD (plc (skey x) l) z96)
   ·
    rw [if_pos d, decide_eq_false (fun e => by rw [e] at d; exact bs_irr _ d)]; rfl
   ·
    rw [if_neg d, decide_eq_true (Classical.byContradiction fun h => d (bs_tri hn h))]; rfl
  rw [e]
  exact Ev.now _
 ·
  simp only [c, if_false, decide_false, Bool.false_and]
  exact Ev.now _
theorem wr_ev (c : S100) : Ev (fun k => impl_ApplyChanges.wr k c) (!chOk c) := by
 unfold impl_ApplyChanges.wr chOk
 have e : (c.f0 != 1 && c.f0 != 2) = !(c.f0 == 1 || c.f0 == 2) := by rw [Bool.not_or]; rfl
 rw [e]
 cases (c.f0 == 1 || c.f0 == 2) with
 | false => simp only [Bool.not_false, if_true, Bool.false_and]; exact Ev.now _
 | true =>
  simp only [Bool.not_true, Bool.false_eq_true, if_false, Bool.true_and]
  exact Ev.bind (implSett_ev _) (Ev.now _)
theorem idxO_ev {α : Type} (p : Nat → α → Option Bool) (v : α → Bool) : ∀ (l : List α) (n : Nat), (∀ x, Ev (fun k => p k x) (v x)) → ∃ r, Ev (fun k => idxO (p k) l n) r ∧ (0 ≤ r ↔ l.any v = true)
 | [], n, _ => ⟨-1, Ev.now _, by simp⟩
 | x :: xs, n, h => by
  obtain ⟨r, e, hr⟩ := idxO_ev p v xs (n + 1) h
  cases hv : v x with
  | true =>
   refine ⟨(n : Int), ?_, by simp [hv]⟩
   simp only [idxO]
   refine Ev.bind (h x) ?_
   simp only [hv, if_true]
   exact Ev.now _
  | false =>
   refine ⟨r, ?_, by simp [hv, hr]⟩
   simp only [idxO]
   refine Ev.bind (h x) ?_
   simp only [hv, Bool.false_eq_true, if_false]
   exact e
theorem implAp_ev : ∀ (cs : List S100) (out : List S96), out.length ≤ 24 → (out.map skey).Pairwise (· < ·) → Ev (fun k => impl_ApplyChanges.l0 k cs out) (apG cs out)
 | [], out, _, _ => by simp only [impl_ApplyChanges.l0, apG]; exact Ev.now _
 | c :: r, out, hl, hs => by
  have hb := bsP_ev out c.f1 hs
  have hlen := setL_length hs c.f1
  have hset := setL_plc c.f1 out hs
  have hple := plc_le (skey c.f1) out
  simp only [impl_ApplyChanges.l0, apG, show (out.length + 1) * 24 ≤ 140737488355328 by omega, if_true]
  refine Ev.bind hb ?_
  by_cases h1 : c.f0 = 1
  ·
   simp only [h1, if_true]
   cases hh : hasP out (skey c.f1) with
   | true =>
    rw [hh] at hlen hset
    simp only [if_true] at hlen hset
    have h2 : ¬ (setL c.f1 out false).length > 24 := by omega
    simp only [if_true, h2, if_false]
    rw [← hset]
    exact implAp_ev r _ (by omega) (setL_sorted hs _)
   | false =>
    rw [hh] at hlen hset
    simp only [Bool.false_eq_true, if_false] at hlen hset
    simp only [Bool.false_eq_true, if_false]
    by_cases h24 : (out.length : Int) = 24
    ·
     simp only [h24, if_true, show (setL c.f1 out false).length > 24 by omega]
     exact Ev.now _
    ·
     simp only [h24, if_false, show ¬ (setL c.f1 out false).length > 24 by omega]
     rw [← hset]
     exact implAp_ev r _ (by omega) (setL_sorted hs _)
  ·
   simp only [h1, if_false]
   cases hh : hasP out (skey c.f1) with
   | false =>
    simp only [Bool.false_eq_true, if_false]
    exact Ev.now _
   | true =>
    have es : ((out.getD (plc (skey c.f1) out) z96).f0.toList == c.f1.f0.toList && (out.getD (plc (skey c.f1) out) z96).f1 == c.f1.f1) = sameS (out.getD (plc (skey c.f1) out) z96) c.f1 := rfl
    simp only [if_true, rdSt, es]
    cases sameS (out.getD (plc (skey c.f1) out) z96) c.f1 with
    | true =>
     simp only [if_true]
     exact implAp_ev r _ (by have := (cut_sub out (plc (skey c.f1) out)).length_le; omega) (cut_sorted hs _)
    | false =>
     simp only [Bool.false_eq_true, if_false]
     exact Ev.now _
theorem implApply_ev (l : List S96) (cs : List S100) (h0 : l.length ≤ 1048576) (h1 : cs.length ≤ 1048576) : Ev (fun k => impl_ApplyChanges.f k l cs) (apR l cs) := by
 unfold impl_ApplyChanges.f apR
 simp only [h1, if_true]
 refine Ev.bind (implState_ev l h0) ?_
 cases hst : stateOk l with
 | false =>
  simp only [Bool.false_eq_true, if_false]
  exact Ev.now _
 | true =>
  simp only [if_true]
  obtain ⟨f0, f1, f2⟩ := stateOk_facts hst
  obtain ⟨r, er, hr⟩ := idxO_ev (fun k => impl_ApplyChanges.wr k) (fun c => !chOk c) cs 0 wr_ev
  refine Ev.bind er ?_
  cases ha : cs.all chOk with
  | false =>
   have : 0 ≤ r := hr.2 (by rw [List.all_eq_not_any_not] at ha; simpa using ha)
   simp only [this, if_true, Bool.false_eq_true, if_false]
   exact Ev.now _
  | true =>
   have : ¬ 0 ≤ r := fun h => by
    have h2 := hr.1 h
    rw [List.all_eq_not_any_not] at ha
    rw [h2] at ha
    cases ha
   simp only [this, if_false, if_true]
   have e : impl_Setting.f l = some l := by unfold impl_Setting.f; rw [if_pos (by omega)]
   rw [e]
   simp only [Option.bind_some]
   exact implAp_ev cs l f0 f1
theorem diffB_ev (a b : List S96) (ha : a.length ≤ 24) (hb : b.length ≤ 24) : ∀ (m i : Nat), i + m = b.length → ∀ acc : List S100, acc.length ≤ 24 + i → Ev (fun k => impl_DiffStates.l1 k a acc b (b.length : Int) (i : Int)) (acc ++ ((b.drop i).filter (setP a)).map setC, 0) := by
 intro m
 induction m with
 | zero =>
  intro i hi acc _
  refine Ev.succ ?_
  rw [List.drop_of_length_le (by omega)]
  simp only [impl_DiffStates.l1, show ¬ (i : Int) < (b.length : Int) by omega, if_false, List.filter_nil, List.map_nil, List.append_nil]
  exact Ev.now _
 | succ m ih =>
  intro i hi acc hacc
  have hlt : i < b.length := by omega
  refine Ev.succ ?_
  simp only [impl_DiffStates.l1, show (i : Int) < (b.length : Int) by omega, show (0 : Int) ≤ (i : Int) by omega, if_true, rdSt, getD_lt _ hlt]
  refine Ev.bind (valAt_ev a _ (by omega)) ?_
  rw [List.drop_eq_getElem_cons hlt]
  have hl : acc.length < 4398046511104 := by omega
  have next : ∀ acc2 : List S100, acc2.length ≤ 24 + (i + 1) → Ev (fun k => impl_DiffStates.l1 k a acc2 b (b.length : Int) (wrap64 ((i : Int) + 1))) (acc2 ++ ((b.drop (i + 1)).filter (setP a)).map setC, 0) := fun acc2 h2 => by
   rw [w64 (by omega) (by omega)]
   exact ih (i + 1) (by omega) acc2 h2
  have app : ∀ x : S96, Ev (fun k => impl_DiffStates.l1 k a (acc ++ [(⟨1, (⟨x.f0, x.f1⟩ : S96)⟩ : S100)]) b (b.length : Int) (wrap64 ((i : Int) + 1))) (acc ++ setC x :: ((b.drop (i + 1)).filter (setP a)).map setC, 0) := fun x => by
   have := next (acc ++ [setC x]) (by rw [List.length_append, List.length_singleton]; omega)
   rw [List.append_assoc] at this
   exact this
  cases h2 : (thS a b[i].f0).2 with
  | true =>
   simp only [if_true]
   by_cases h1 : (thS a b[i].f0).1 = b[i].f1
   ·
    have hc : setP a b[i] = false := by simp [setP, h2, h1]
    rw [List.filter_cons_of_neg (by simp [hc])]
    simp only [h1, if_true]
    exact next acc (by omega)
   ·
    have hc : setP a b[i] = true := by simp [setP, h1]
    rw [List.filter_cons_of_pos hc, List.map_cons]
    simp only [h1, if_false, hl, if_true]
    exact app _
  | false =>
   have hc : setP a b[i] = true := by simp [setP, h2]
   rw [List.filter_cons_of_pos hc, List.map_cons]
   simp only [Bool.false_eq_true, if_false, hl, if_true]
   exact app _
theorem diffA_ev (a b : List S96) (ha : a.length ≤ 24) (hb : b.length ≤ 24) : ∀ (m i : Nat), i + m = a.length → ∀ acc : List S100, acc.length ≤ i → Ev (fun k => impl_DiffStates.l0 k a b acc a (a.length : Int) (i : Int)) (acc ++ (((a.drop i).filter (remP b)).map remC ++ (b.filter (setP a)).map setC), 0) := by
 intro m
 induction m with
 | zero =>
  intro i hi acc hacc
  refine Ev.succ ?_
  rw [List.drop_of_length_le (by omega)]
  simp only [impl_DiffStates.l0, show ¬ (i : Int) < (a.length : Int) by omega, if_false, List.filter_nil, List.map_nil, List.nil_append]
  have := diffB_ev a b ha hb b.length 0 (by omega) acc (by omega)
  rw [List.drop_zero] at this
  exact this
 | succ m ih =>
  intro i hi acc hacc
  have hlt : i < a.length := by omega
  refine Ev.succ ?_
  simp only [impl_DiffStates.l0, show (i : Int) < (a.length : Int) by omega, show (0 : Int) ≤ (i : Int) by omega, if_true, rdSt, getD_lt _ hlt]
  refine Ev.bind (valAt_ev b _ (by omega)) ?_
  rw [List.drop_eq_getElem_cons hlt]
  have hl : acc.length < 4398046511104 := by omega
  cases h2 : (thS b a[i].f0).2 with
  | true =>
   have hc : remP b a[i] = false := by simp [remP, h2]
   rw [List.filter_cons_of_neg (by simp [hc])]
   simp only [if_true]
   rw [w64 (by omega) (by omega)]
   exact ih (i + 1) (by omega) acc (by omega)
  | false =>
   have hc : remP b a[i] = true := by simp [remP, h2]
   rw [List.filter_cons_of_pos hc, List.map_cons]
   simp only [Bool.false_eq_true, if_false, hl, if_true]
   have := ih (i + 1) (by omega) (acc ++ [remC a[i]]) (by rw [List.length_append, List.length_singleton]; omega)
   rw [List.append_assoc] at this
   rw [w64 (by omega) (by omega)]
   exact this
theorem diff_ev {a b : List S96} (ha : goodS a) (hb : goodS b) : Ev (fun k => impl_DiffStates.f k a b) (diffL a b, 0) := by
 have la := goodS_len ha
 have lb := goodS_len hb
 have va := implState_ev a (by omega)
 have vb := implState_ev b (by omega)
 rw [goodS_ok ha] at va
 rw [goodS_ok hb] at vb
 unfold impl_DiffStates.f
 refine Ev.bind va ?_
 simp only [if_true]
 refine Ev.bind vb (Ev.succ ?_)
 simp only [impl_DiffStates.j0, Bool.not_true, Bool.false_eq_true, if_false]
 have := diffA_ev a b (by omega) (by omega) a.length 0 (by omega) [] (by simp)
 rw [List.drop_zero, List.nil_append] at this
 exact this
theorem diffL_len (a b : List S96) : (diffL a b).length ≤ a.length + b.length := by
 unfold diffL
 rw [List.length_append, List.length_map, List.length_map]
 have h1 := List.length_filter_le (remP b) a
 have h2 := List.length_filter_le (setP a) b
 omega
theorem diffL_ok {a b : List S96} (ha : goodS a) (hb : goodS b) : (diffL a b).all chOk = true := by
 rw [List.all_eq_true]
 intro c hc
 unfold diffL at hc
 rcases List.mem_append.1 hc with h | h
 ·
  obtain ⟨x, hx, rfl⟩ := List.mem_map.1 h
  simp [chOk, remC, goodS_sett ha x (List.mem_filter.1 hx).1]
 ·
  obtain ⟨x, hx, rfl⟩ := List.mem_map.1 h
  simp [chOk, setC, goodS_sett hb x (List.mem_filter.1 hx).1]
theorem applyD_ev {a b : List S96} (ha : goodS a) (hb : goodS b) : Ev (fun k => impl_ApplyChanges.f k a (diffL a b)) (b, 0) := by
 have la := goodS_len ha
 have lb := goodS_len hb
 have ld := diffL_len a b
 have h := implApply_ev a (diffL a b) (by omega) (by omega)
 unfold apR at h
 rw [if_pos (goodS_ok ha), if_pos (diffL_ok ha hb), diff_all ha hb] at h
 exact h
def memos : List ByteArray := [(⟨#[]⟩ : ByteArray), (⟨#[110, 101, 119]⟩ : ByteArray), (⟨#[97, 32, 98]⟩ : ByteArray)]
def goodV (n : Nat) (v : S48) : Prop := v.f0 = (n : Int) + 1 ∧ 0 ≤ v.f1 ∧ v.f1 ≤ n ∧ v.f2 ∈ memos ∧ goodS v.f3
def goodH (l : List S48) : Prop := ∀ i, i < l.length → goodV i (l.getD i z48)
theorem goodH_snoc {l : List S48} (h : goodH l) {v : S48} (hv : goodV l.length v) : goodH (l ++ [v]) := by
 intro i hi
 rw [List.length_append, List.length_singleton] at hi
 rw [List.getD_eq_getElem?_getD]
 by_cases c : i < l.length
 ·
  rw [List.getElem?_append_left c, ← List.getD_eq_getElem?_getD]
  exact h i c
 ·
  have e : i = l.length := by omega
  subst e
  rw [List.getElem?_append_right (Nat.le_refl _), Nat.sub_self]
  exact hv
def memoOk (b : ByteArray) : Bool := decide (b.size ≤ 20) && (List.range b.size).all fun i : Nat => decide (32 ≤ bt b (i : Int)) && decide (bt b (i : Int) ≤ 126)
theorem specMemo_ev (b : ByteArray) (hb : b.size ≤ 1048576) : Ev (fun k => spec_l27Memo.f k b) (memoOk b) := by
 unfold spec_l27Memo.f
 have key := ev_all (fun k i => spec_l27Memo.l0 k b i) (List.range b.size) 0 (fun i : Nat => decide (32 ≤ bt b (i : Int)) && decide (bt b (i : Int) ≤ 126)) false (decide (b.size ≤ 20)) (fun i hi hp s hs => ?_) (fun i hi hp => ?_) ?_
 ·
  unfold memoOk
  revert key
  cases (List.range b.size).all (fun i : Nat => decide (32 ≤ bt b (i : Int)) && decide (bt b (i : Int) ≤ 126)) with
  | true => rw [Bool.and_true]; exact id
  | false => rw [Bool.and_false]; exact id
 ·
  rw [List.length_range] at hi
  rw [getD_lt 0 (by simpa using hi), List.getElem_range, Bool.and_eq_true, decide_eq_true_eq, decide_eq_true_eq] at hp
  refine Ev.succ ?_
  simp (disch := omega) only [spec_l27Memo.l0, if_pos, if_neg, w64]
  exact hs
 ·
  rw [List.length_range] at hi
  rw [getD_lt 0 (by simpa using hi), List.getElem_range, Bool.and_eq_false_iff, decide_eq_false_iff_not, decide_eq_false_iff_not] at hp
  refine Ev.succ ?_
  by_cases c : bt b (i : Int) < 32
  ·
   simp (disch := omega) only [spec_l27Memo.l0, if_pos]; exact Ev.now _
  ·
   simp (disch := omega) only [spec_l27Memo.l0, if_pos, if_neg]; exact Ev.now _
 ·
  refine Ev.succ ?_
  simp only [spec_l27Memo.l0, List.length_range, Int.lt_irrefl, if_false]
  exact Ev.now' (by rw [decide_eq_decide]; omega)
theorem implMemo_ev (b : ByteArray) (hb : b.size ≤ 1048576) : Ev (fun k => impl_memoValid.f k b) (memoOk b) := by
 unfold impl_memoValid.f memoOk
 by_cases hn : b.size ≤ 20
 ·
  rw [decide_eq_true hn, Bool.true_and]
  simp only [show ((b.size : Nat) : Int) ≤ 20 by omega, if_true]
  have key := ev_all (fun k i => impl_bytesWithin.l0 k b 32 126 (b.size : Int) i) (List.range b.size) 0 (fun i : Nat => decide (32 ≤ bt b (i : Int)) && decide (bt b (i : Int) ≤ 126)) false true (fun i hi hp s hs => ?_) (fun i hi hp => ?_) ?_
  ·
   have hk : Ev (fun k => impl_bytesWithin.f k b 32 126) ((List.range b.size).all (fun i : Nat => decide (32 ≤ bt b (i : Int)) && decide (bt b (i : Int) ≤ 126))) := by
    unfold impl_bytesWithin.f
    revert key
    cases (List.range b.size).all (fun i : Nat => decide (32 ≤ bt b (i : Int)) && decide (bt b (i : Int) ≤ 126)) <;> exact id
   exact Ev.bind hk (Ev.now _)
  ·
   rw [List.length_range] at hi
   rw [getD_lt 0 (by simpa using hi), List.getElem_range, Bool.and_eq_true, decide_eq_true_eq, decide_eq_true_eq] at hp
   refine Ev.succ ?_
   simp (disch := omega) only [impl_bytesWithin.l0, if_pos, if_neg, w64]
   exact hs
  ·
   rw [List.length_range] at hi
   rw [getD_lt 0 (by simpa using hi), List.getElem_range, Bool.and_eq_false_iff, decide_eq_false_iff_not, decide_eq_false_iff_not] at hp
   refine Ev.succ ?_
   by_cases c : bt b (i : Int) < 32
   ·
    simp (disch := omega) only [impl_bytesWithin.l0, if_pos]; exact Ev.now _
   ·
    simp (disch := omega) only [impl_bytesWithin.l0, if_pos, if_neg]; exact Ev.now _
  ·
   refine Ev.succ ?_
   simp only [impl_bytesWithin.l0, List.length_range, Int.lt_irrefl, if_false]
   exact Ev.now _
 ·
  rw [decide_eq_false hn, Bool.false_and]
  simp only [show ¬ ((b.size : Nat) : Int) ≤ 20 by omega, if_false]
  exact Ev.now _
def verAt (l : List S48) (i : Nat) : Bool := decide ((l.getD i z48).f0 = (i : Int) + 1) && (inR 0 (i : Int) (l.getD i z48).f1 && (memoOk (l.getD i z48).f2 && stateOk (l.getD i z48).f3))
def histOk (l : List S48) : Bool := decide (l.length ≤ 32) && (List.range l.length).all (verAt l)
theorem rdV (l : List S48) (i : Nat) : rd_T48 l (i : Int) = l.getD i z48 := by unfold rd_T48; rw [Int.toNat_natCast]
theorem histOk_facts {l : List S48} (h : histOk l = true) : l.length ≤ 32 ∧ ∀ i, i < l.length → (l.getD i z48).f0 = (i : Int) + 1 ∧ 0 ≤ (l.getD i z48).f1 ∧ (l.getD i z48).f1 ≤ i ∧ memoOk (l.getD i z48).f2 = true ∧ stateOk (l.getD i z48).f3 = true := by
 unfold histOk at h
 rw [Bool.and_eq_true, decide_eq_true_eq, List.all_eq_true] at h
 refine ⟨h.1, fun i hi => ?_⟩
 have := h.2 i (List.mem_range.2 hi)
 unfold verAt inR at this
 simp only [Bool.and_eq_true, decide_eq_true_eq] at this
 obtain ⟨a, ⟨b, c⟩, d, e⟩ := this
 exact ⟨a, b, c, d, e⟩
def par (l : List S48) : Prop := ∀ i, i < l.length → 0 ≤ (l.getD i z48).f1 ∧ (l.getD i z48).f1 ≤ i
def lineL (l : List S48) : Nat → Int → List Int
 | 0, _ => []
 | k + 1, p => if p > 0 then p :: lineL l k (l.getD (p - 1).toNat z48).f1 else []
theorem lineL_mem {l : List S48} (h : par l) : ∀ (k : Nat) (p : Int), p ≤ l.length → ∀ x ∈ lineL l k p, 1 ≤ x ∧ x ≤ p
 | 0, _, _, x, hx => by cases hx
 | k + 1, p, hp, x, hx => by
  unfold lineL at hx
  by_cases c : p > 0
  ·
   rw [if_pos c] at hx
   obtain ⟨b1, b2⟩ := h (p - 1).toNat (by omega)
   rcases List.mem_cons.1 hx with rfl | hx
   ·
    omega
   ·
    have := lineL_mem h k _ (by omega) x hx
    omega
  ·
   rw [if_neg c] at hx
   cases hx
theorem lineL_strict {l : List S48} (h : par l) : ∀ (k : Nat) (p : Int), p ≤ l.length → (lineL l k p).Pairwise (· > ·)
 | 0, _, _ => List.Pairwise.nil
 | k + 1, p, hp => by
  unfold lineL
  by_cases c : p > 0
  ·
   rw [if_pos c]
   obtain ⟨b1, b2⟩ := h (p - 1).toNat (by omega)
   refine List.pairwise_cons.2 ⟨fun x hx => ?_, lineL_strict h k _ (by omega)⟩
   have := lineL_mem h k _ (by omega) x hx
   omega
  ·
   rw [if_neg c]
   exact List.Pairwise.nil
theorem lineL_len (l : List S48) : ∀ (k : Nat) (p : Int), (lineL l k p).length ≤ k
 | 0, _ => Nat.le_refl _
 | k + 1, p => by
  unfold lineL
  split
  ·
   have := lineL_len l k (l.getD (p - 1).toNat z48).f1
   rw [List.length_cons]; omega
  ·
   simp
theorem lineOf_ev {l : List S48} (hl : l.length ≤ 32) (h : par l) : ∀ (m : Nat) (p : Int), 0 ≤ p → p < m → p ≤ l.length → ∀ (acc : List Int), acc.length + m ≤ 100 → Ev (fun k => impl_lineOf.l0 k l p acc) (acc ++ lineL l m p) := by
 intro m
 induction m with
 | zero => intro p h0 h1; omega
 | succ m ih =>
  intro p h0 h1 h2 acc ha
  refine Ev.succ ?_
  unfold lineL
  by_cases c : p > 0
  ·
   obtain ⟨b1, b2⟩ := h (p - 1).toNat (by omega)
   have er : rd_T48 l (p - 1) = l.getD (p - 1).toNat z48 := rfl
   simp only [impl_lineOf.l0, c, if_true]
   simp (disch := omega) only [w64, if_pos, er]
   have e := ih _ b1 (by omega) (by omega) (acc ++ [p]) (by rw [List.length_append, List.length_singleton]; omega)
   rw [List.append_assoc] at e
   exact e
  ·
   simp only [impl_lineOf.l0, c, if_false, List.append_nil]
   exact Ev.now _
theorem histOk_of {l : List S48} (h0 : l.length ≤ 32) (h : ∀ i, i < l.length → (l.getD i z48).f0 = (i : Int) + 1 ∧ 0 ≤ (l.getD i z48).f1 ∧ (l.getD i z48).f1 ≤ i ∧ memoOk (l.getD i z48).f2 = true ∧ stateOk (l.getD i z48).f3 = true) : histOk l = true := by
 unfold histOk
 rw [Bool.and_eq_true, decide_eq_true_eq, List.all_eq_true]
 refine ⟨h0, fun i hi => ?_⟩
 obtain ⟨a, b, c, d, e⟩ := h i (List.mem_range.1 hi)
 unfold verAt inR
 simp only [Bool.and_eq_true, decide_eq_true_eq]
 exact ⟨a, ⟨b, c⟩, d, e⟩
theorem memos_ok : ∀ b ∈ memos, memoOk b = true := by unfold memos; decide
theorem goodH_ok {l : List S48} (h : goodH l) (hl : l.length ≤ 5) : histOk l = true := histOk_of (by omega) (fun i hi => by
 obtain ⟨a, b, c, d, e⟩ := h i hi
 exact ⟨a, b, c, memos_ok _ d, goodS_ok e⟩)
theorem histOk_snoc {l : List S48} (h : histOk l = true) (h0 : l.length < 32) (p : Int) (b : ByteArray) (st : List S96) (p0 : 0 ≤ p) (p1 : p ≤ l.length) (hb : memoOk b = true) (hs : stateOk st = true) : histOk (l ++ [⟨(l.length : Int) + 1, p, b, st⟩]) = true := by
 refine histOk_of (by rw [List.length_append, List.length_singleton]; omega) (fun i hi => ?_)
 rw [List.length_append, List.length_singleton] at hi
 rw [List.getD_eq_getElem?_getD]
 by_cases d : i < l.length
 ·
  rw [List.getElem?_append_left d, ← List.getD_eq_getElem?_getD]
  exact (histOk_facts h).2 i d
 ·
  obtain rfl : i = l.length := by omega
  rw [List.getElem?_append_right (Nat.le_refl _), Nat.sub_self]
  exact ⟨rfl, p0, p1, hb, hs⟩
theorem par_of {l : List S48} (h : histOk l = true) : par l := fun i hi => ⟨((histOk_facts h).2 i hi).2.1, ((histOk_facts h).2 i hi).2.2.1⟩
theorem small_of {l : List S48} (h : histOk l = true) : ∀ x ∈ l, x.f2.size ≤ 1048576 ∧ x.f3.length ≤ 1048576 := fun x hx => by
 obtain ⟨i, hi, rfl⟩ := List.getElem_of_mem hx
 have := (histOk_facts h).2 i hi
 rw [getD_lt _ hi] at this
 obtain ⟨_, _, _, d, e⟩ := this
 unfold memoOk at d
 unfold stateOk at e
 simp only [Bool.and_eq_true, decide_eq_true_eq] at d e
 exact ⟨by omega, by omega⟩
theorem r8Has_ev (l : List Int) (x : Int) (hl : l.length ≤ 1000) : Ev (fun k => laws_r8Has.f k l x) (decide (x ∈ l)) := by
 have key : ∀ (m i : Nat), i + m = l.length → Ev (fun k => laws_r8Has.l0 k l x (i : Int)) (decide (x ∈ l.drop i)) := by
  intro m
  induction m with
  | zero =>
   intro i hi
   refine Ev.succ ?_
   rw [List.drop_of_length_le (by omega)]
   simp only [laws_r8Has.l0, show ¬ (i : Int) < (l.length : Int) by omega, if_false]
   simpa using Ev.now false
  | succ m ih =>
   intro i hi
   have hlt : i < l.length := by omega
   have er : rd l (i : Int) = l[i] := by unfold rd; rw [Int.toNat_natCast, getD_lt _ hlt]
   refine Ev.succ ?_
   rw [List.drop_eq_getElem_cons hlt]
   simp only [laws_r8Has.l0, show (i : Int) < (l.length : Int) by omega, show (0 : Int) ≤ (i : Int) by omega, if_true, er]
   by_cases c : l[i] = x
   ·
    simp only [c, if_true]
    simpa using Ev.now true
   ·
    simp only [c, if_false]
    rw [w64 (by omega) (by omega)]
    have := ih (i + 1) (by omega)
    have e : decide (x ∈ l[i] :: l.drop (i + 1)) = decide (x ∈ l.drop (i + 1)) := by
     rw [decide_eq_decide, List.mem_cons]
     exact ⟨fun h => h.resolve_left (fun e => c e.symm), .inr⟩
    rw [e]
    exact this
 have := key l.length 0 (by omega)
 rw [List.drop_zero] at this
 exact this
theorem implHist_ev (l : List S48) (hl : l.length ≤ 1048576) (h2 : ∀ x ∈ l, x.f2.size ≤ 1048576 ∧ x.f3.length ≤ 1048576) : Ev (fun k => impl_ValidHistory.f k l) (histOk l) := by
 unfold impl_ValidHistory.f histOk
 by_cases hn : l.length ≤ 32
 rotate_left
 ·
  rw [decide_eq_false hn, Bool.false_and]
  simp only [show ((l.length : Nat) : Int) > 32 by omega, if_true]
  exact Ev.now _
 rw [decide_eq_true hn, Bool.true_and]
 simp only [show ¬ ((l.length : Nat) : Int) > 32 by omega, if_false]
 have key := ev_all (fun k i => impl_ValidHistory.l0 k l (l.length : Int) i) (List.range l.length) 0 (verAt l) false true (fun i hi hp s hs => ?_) (fun i hi hp => ?_) ?_
 ·
  revert key
  cases (List.range l.length).all (verAt l) <;> exact id
 ·
  rw [List.length_range] at hi
  rw [getD_lt 0 (by simpa using hi), List.getElem_range] at hp
  obtain ⟨m2, m3⟩ := h2 _ (getD_mem z48 hi)
  unfold verAt at hp
  simp only [Bool.and_eq_true, decide_eq_true_eq] at hp
  obtain ⟨a1, a2, a3, a4⟩ := hp
  refine Ev.succ ?_
  simp (disch := omega) only [impl_ValidHistory.l0, if_pos, w64, rdV, a1, if_true, implIn_eq, Option.bind_some, a2]
  have e1 := implMemo_ev _ m2
  rw [a3] at e1
  have e2 := implState_ev _ m3
  rw [a4] at e2
  refine Ev.bind e1 ?_
  simp only [if_true]
  refine Ev.bind e2 ?_
  simp only [if_true]
  exact hs
 ·
  rw [List.length_range] at hi
  rw [getD_lt 0 (by simpa using hi), List.getElem_range] at hp
  obtain ⟨m2, m3⟩ := h2 _ (getD_mem z48 hi)
  unfold verAt at hp
  refine Ev.succ ?_
  simp (disch := omega) only [impl_ValidHistory.l0, if_pos, w64, rdV, implIn_eq, Option.bind_some]
  by_cases c1 : (l.getD i z48).f0 = (i : Int) + 1
  ·
   rw [decide_eq_true c1, Bool.true_and] at hp
   simp only [c1, if_true]
   cases c2 : inR 0 (i : Int) (l.getD i z48).f1 with
   | false => exact Ev.now _
   | true =>
    rw [c2, Bool.true_and] at hp
    simp only [if_true]
    refine Ev.bind (implMemo_ev _ m2) ?_
    cases c3 : memoOk (l.getD i z48).f2 with
    | false => exact Ev.now _
    | true =>
     rw [c3, Bool.true_and] at hp
     simp only [if_true]
     have e2 := implState_ev _ m3
     rw [hp] at e2
     refine Ev.bind e2 ?_
     exact Ev.now _
  ·
   simp only [c1, if_false]
   exact Ev.now _
 ·
  refine Ev.succ ?_
  simp only [impl_ValidHistory.l0, List.length_range, Int.lt_irrefl, if_false]
  exact Ev.now _
theorem heads_keep (l0 : List S48) : ∀ (r : List S48) (out : List Int) (x : Int), x ∈ out → x ∈ impl_HeadsOf.l0 l0 r out
 | [], out, x, h => h
 | v :: r, out, x, h => by
  rw [impl_HeadsOf.l0]
  split
  ·
   exact heads_keep l0 r out x h
  ·
   exact heads_keep l0 r _ x (List.mem_append_left _ h)
theorem heads_in (l0 : List S48) (v : S48) (hv : ∀ x ∈ l0, x.f1 ≠ v.f0) : ∀ (r : List S48) (out : List Int), v ∈ r → v.f0 ∈ impl_HeadsOf.l0 l0 r out
 | [], _, h => by cases h
 | y :: r, out, h => by
  rw [impl_HeadsOf.l0]
  rcases List.mem_cons.1 h with rfl | h
  ·
   rw [if_neg (by
    rw [List.any_eq_true]
    rintro ⟨x, hx, e⟩
    exact hv x hx (by simpa using e))]
   exact heads_keep l0 r _ _ (List.mem_append_right _ (List.mem_singleton.2 rfl))
  ·
   split
   ·
    exact heads_in l0 v hv r out h
   ·
    exact heads_in l0 v hv r _ h
theorem heads_len (l0 : List S48) : ∀ (r : List S48) (out : List Int), (impl_HeadsOf.l0 l0 r out).length ≤ out.length + r.length
 | [], out => by rw [impl_HeadsOf.l0]; simp
 | y :: r, out => by
  rw [impl_HeadsOf.l0]
  split
  ·
   have := heads_len l0 r out
   rw [List.length_cons]; omega
  ·
   have := heads_len l0 r (out ++ [y.f0])
   rw [List.length_append, List.length_singleton] at this
   rw [List.length_cons]; omega
theorem heads_ev {l : List S48} (h : histOk l = true) : Ev (fun k => impl_HeadsOf.f k l) (impl_HeadsOf.l0 l l [], 0) := by
 have hl := (histOk_facts h).1
 have e := implHist_ev l (by omega) (small_of h)
 rw [h] at e
 unfold impl_HeadsOf.f
 simp only [show l.length ≤ 1048576 by omega, if_true]
 exact Ev.bind e (Ev.now _)
theorem sameS_ev (l : List S96) (hl : l.length ≤ 1000) : Ev (fun k => spec_SameState.f k l l) true := by
 unfold spec_SameState.f spec_l27Same.f
 have key : ∀ (m i : Nat), i + m = l.length → Ev (fun k => spec_l27Same.l0 k l l (i : Int)) true := by
  intro m
  induction m with
  | zero =>
   intro i hi
   refine Ev.succ ?_
   simp only [spec_l27Same.l0, show ¬ (i : Int) < (l.length : Int) by omega, if_false]
   exact Ev.now _
  | succ m ih =>
   intro i hi
   refine Ev.succ ?_
   simp only [spec_l27Same.l0, show (i : Int) < (l.length : Int) by omega, show (0 : Int) ≤ (i : Int) by omega, if_true, beq_self_eq_true, Bool.not_true, Bool.or_false, Bool.false_eq_true, if_false]
   simp (disch := omega) only [w64]
   exact ih (i + 1) (by omega)
 have := key l.length 0 (by omega)
 simp only [if_true]
 first | exact this | exact Ev.bind this (Ev.now _)
def SrcOk (l0 : List Int) : Prop := l0.length ≤ 1048576 ∧ ∀ x ∈ l0, 0 ≤ x ∧ x ≤ 255
theorem wrapu64_rng (n : Int) : 0 ≤ IntKind.u64.wrap n ∧ IntKind.u64.wrap n < 18446744073709551616 := by
 have e : IntKind.u64.wrap n = n % 18446744073709551616 := by simp [IntKind.wrap, IntKind.bits, IntKind.signed]
 rw [e]
 omega
theorem seed_byte (n : Int) : 0 ≤ Go.bits .and .u64 (IntKind.u64.wrap n / 1099511627776) 255 ∧ Go.bits .and .u64 (IntKind.u64.wrap n / 1099511627776) 255 ≤ 255 := by
 obtain ⟨h0, h1⟩ := wrapu64_rng n
 have e := bits_mask .u64 32 (by decide) (fun m a b => by
  have e : IntKind.u64.wrap m = m % 18446744073709551616 := by simp [IntKind.wrap, IntKind.bits, IntKind.signed]
  rw [e]; omega) 8 (by decide) (IntKind.u64.wrap n / 1099511627776) (by omega) (by omega)
 have e2 : Go.bits .and .u64 (IntKind.u64.wrap n / 1099511627776) 255 = (IntKind.u64.wrap n / 1099511627776) % 256 := e
 rw [e2]
 omega
theorem next_eq {l0 : List Int} (h : SrcOk l0) (s t : Int) (h0 : 0 ≤ s) (h1 : s ≤ 1000000000000) : ∃ r t', spec_l00Src_next.f l0 s t = some (r, s + 1, t') ∧ 0 ≤ r ∧ r ≤ 255 := by
 obtain ⟨hl, hx⟩ := h
 unfold spec_l00Src_next.f
 rw [w64 (x := s + 1) (by omega) (by omega)]
 have hb : ∀ n, ∃ t', (some (wrap64 (Go.bits .and .u64 ((IntKind.u64.wrap n) / 1099511627776) 255), s + 1, IntKind.u64.wrap n) : Option (Int × Int × Int)) = some (wrap64 (Go.bits .and .u64 ((IntKind.u64.wrap n) / 1099511627776) 255), s + 1, t') := fun n => ⟨_, rfl⟩
 by_cases c : s < (l0.length : Int)
 ·
  rw [if_pos c, if_pos h0, if_pos (by omega)]
  have hr : 0 ≤ rd l0 s ∧ rd l0 s ≤ 255 := by
   have e : rd l0 s = l0.getD s.toNat 0 := rfl
   rw [e]
   exact hx _ (getD_mem 0 (by omega))
  rw [w64 (x := rd l0 s) (by omega) (by omega)]
  exact ⟨_, _, rfl, hr.1, hr.2⟩
 ·
  rw [if_neg c]
  by_cases d : s + 1 ≤ (l0.length : Int)
  ·
   omega
  ·
   rw [if_neg d]
   refine ⟨_, _, rfl, ?_⟩
   have hb := seed_byte ((IntKind.u64.wrap ((IntKind.u64.wrap (t * 6364136223846793005)) + 0)) + 1442695040888963407)
   rw [w64 (by omega) (by omega)]
   exact hb
theorem pick_eq {l0 : List Int} (h : SrcOk l0) (s t n : Int) (h0 : 0 ≤ s) (h1 : s ≤ 900000000000) (hn : 1 ≤ n) (hn2 : n ≤ 60000) : ∃ r s' t', spec_l00Src_pick.f l0 s t n = some (r, s', t') ∧ 0 ≤ r ∧ r < n ∧ s ≤ s' ∧ s' ≤ s + 2 := by
 unfold spec_l00Src_pick.f
 by_cases c : n ≤ 1
 ·
  rw [if_pos c]
  exact ⟨_, _, _, rfl, by omega, by omega, by omega, by omega⟩
 ·
  rw [if_neg c]
  obtain ⟨r, t', e, r0, r1⟩ := next_eq h s t h0 (by omega)
  rw [e]
  simp only [Option.bind_some]
  by_cases d : n > 200
  ·
   rw [if_pos d]
   obtain ⟨r2, t2, e2, r20, r21⟩ := next_eq h (s + 1) t' (by omega) (by omega)
   rw [e2]
   simp only [Option.bind_some]
   rw [if_neg (by omega), w64 (x := r * 256) (by omega) (by omega), w64 (by omega) (by omega)]
   refine ⟨_, _, _, rfl, Int.tmod_nonneg _ (by omega), Int.tmod_lt_of_pos _ (by omega), by omega, by omega⟩
  ·
   rw [if_neg d, if_neg (by omega)]
   refine ⟨_, _, _, rfl, Int.tmod_nonneg _ (by omega), Int.tmod_lt_of_pos _ (by omega), by omega, by omega⟩
theorem one_eq {l0 : List Int} (h : SrcOk l0) (s t n : Int) (h0 : 0 ≤ s) (h1 : s ≤ 900000000000) (hn : 1 ≤ n) (hn2 : n ≤ 60000) : ∃ r s' t', spec_l00Src_one.f l0 s t n = some (r, s', t') ∧ s ≤ s' ∧ s' ≤ s + 2 := by
 obtain ⟨r, s', t', e, _, _, a, b⟩ := pick_eq h s t n h0 h1 hn hn2
 unfold spec_l00Src_one.f
 rw [e]
 exact ⟨_, _, _, rfl, a, b⟩
def five5 : List ByteArray := [(⟨#[97]⟩ : ByteArray), (⟨#[98]⟩ : ByteArray), (⟨#[99]⟩ : ByteArray), (⟨#[100]⟩ : ByteArray), (⟨#[101]⟩ : ByteArray)]
theorem six_lt : ∀ i, i < 6 → ∀ a ∈ six.take i, a < six.getD i [] := by
 intro i hi
 have : i = 0 ∨ i = 1 ∨ i = 2 ∨ i = 3 ∨ i = 4 ∨ i = 5 := by omega
 rcases this with rfl | rfl | rfl | rfl | rfl | rfl <;> (unfold six; decide)
theorem six_grow : ∀ i, i < 6 → six.getD i [] ∈ six.take (i + 1) ∧ (∀ a ∈ six.take i, a ∈ six.take (i + 1)) := by
 intro i hi
 have : i = 0 ∨ i = 1 ∨ i = 2 ∨ i = 3 ∨ i = 4 ∨ i = 5 := by omega
 rcases this with rfl | rfl | rfl | rfl | rfl | rfl <;> (unfold six; decide)
theorem five_key (i : Nat) (hi : i < 5) : (rdOf ByteArray.empty five5 (i : Int)).data.toList = six.getD i [] := by
 have : i = 0 ∨ i = 1 ∨ i = 2 ∨ i = 3 ∨ i = 4 := by omega
 rcases this with rfl | rfl | rfl | rfl | rfl <;> rfl
theorem drawL_ev {l0 : List Int} (h : SrcOk l0) : ∀ (m i : Nat), i + m = 5 → ∀ (acc : List S96) (s t : Int), 0 ≤ s → s ≤ 800000000000 + 4 * i → (acc.map skey).Pairwise (· < ·) → (∀ x ∈ acc, skey x ∈ six.take i ∧ 0 ≤ x.f1 ∧ x.f1 ≤ 1000) → acc.length ≤ i →
  ∃ r s' t', Ev (fun k => spec_l27DrawState.l0 k five5 acc (i : Int) l0 s t) (r, s', t') ∧ goodS r ∧ s ≤ s' ∧ s' ≤ s + 4 * m := by
 intro m
 induction m with
 | zero =>
  intro i hi acc s t h0 h1 ha hb hl
  refine ⟨acc, s, t, Ev.succ ?_, ⟨ha, fun x hx => ⟨List.mem_of_mem_take (hb x hx).1, (hb x hx).2⟩⟩, by omega, by omega⟩
  simp only [spec_l27DrawState.l0, show ¬ (i : Int) < 5 by omega, if_false]
  exact Ev.now _
 | succ m ih =>
  intro i hi acc s t h0 h1 ha hb hl
  obtain ⟨b1, s1, t1, e1, g1, g2⟩ := one_eq h s t 2 h0 (by omega) (by omega) (by omega)
  obtain ⟨c1, c2⟩ := six_grow i (by omega)
  cases b1 with
  | false =>
   obtain ⟨r, s', t', e, hg, q1, q2⟩ := ih (i + 1) (by omega) acc s1 t1 (by omega) (by push_cast; omega) ha (fun x hx => ⟨c2 _ (hb x hx).1, (hb x hx).2⟩) (by omega)
   refine ⟨r, s', t', Ev.succ ?_, hg, by omega, by push_cast; omega⟩
   simp only [spec_l27DrawState.l0, show (i : Int) < 5 by omega, if_true, e1, Option.bind_some, Bool.false_eq_true, if_false]
   simp (disch := omega) only [w64]
   exact e
  | true =>
   obtain ⟨v, s2, t2, e2, v0, v1, g3, g4⟩ := pick_eq h s1 t1 1001 (by omega) (by omega) (by omega) (by omega)
   have hk := five_key i (by omega)
   obtain ⟨r, s', t', e, hg, q1, q2⟩ := ih (i + 1) (by omega) (acc ++ [⟨rdOf ByteArray.empty five5 (i : Int), v⟩]) s2 t2 (by omega) (by push_cast; omega) (by
    rw [List.map_append, List.pairwise_append]
    refine ⟨ha, by simp, fun a ha2 b hb2 => ?_⟩
    obtain ⟨y, hy, rfl⟩ := List.mem_map.1 ha2
    obtain rfl := List.mem_singleton.1 hb2
    show skey y < (rdOf ByteArray.empty five5 (i : Int)).data.toList
    rw [hk]
    exact six_lt i (by omega) _ (hb y hy).1) (fun x hx => by
    rcases List.mem_append.1 hx with hx | hx
    ·
     exact ⟨c2 _ (hb x hx).1, (hb x hx).2⟩
    ·
     obtain rfl := List.mem_singleton.1 hx
     refine ⟨?_, v0, by show v ≤ 1000; omega⟩
     show (rdOf ByteArray.empty five5 (i : Int)).data.toList ∈ _
     rw [hk]
     exact c1) (by rw [List.length_append, List.length_singleton]; omega)
   refine ⟨r, s', t', Ev.succ ?_, hg, by omega, by push_cast; omega⟩
   simp only [spec_l27DrawState.l0, show (i : Int) < 5 by omega, if_true, e1, Option.bind_some, show (0 : Int) ≤ (i : Int) by omega, show (i : Int) < ((five5.length : Nat) : Int) by simp only [five5, List.length_cons, List.length_nil]; omega, e2]
   simp (disch := omega) only [w64, if_pos]
   exact e
theorem drawState_ev {l0 : List Int} (h : SrcOk l0) (s t : Int) (h0 : 0 ≤ s) (h1 : s ≤ 800000000000) : ∃ r s' t', Ev (fun k => spec_l27DrawState.f k l0 s t) (r, s', t') ∧ goodS r ∧ s ≤ s' ∧ s' ≤ s + 20 := by
 obtain ⟨r, s', t', e, hg, q1, q2⟩ := drawL_ev h 5 0 rfl [] s t h0 (by omega) List.Pairwise.nil (fun x hx => by cases hx) (Nat.le_refl _)
 exact ⟨r, s', t', e, hg, q1, by omega⟩
theorem specSet_ev (l : List S96) (e : S96) (hl : l.length ≤ 1048576) : Ev (fun k => spec_l27Set.f k l e.f0 e.f1) (setL e l false) := by
 unfold spec_l27Set.f
 have key : ∀ (m i : Nat) (out : List S96) (done : Bool), i + m = l.length → out.length ≤ 2 * i → Ev (fun k => spec_l27Set.l0 k l out done i e.f0 e.f1) (out ++ setL e (l.drop i) done) := by
  intro m
  induction m with
  | zero =>
   intro i out done hi ho
   rw [List.drop_of_length_le (by omega)]
   refine Ev.succ ?_
   simp (disch := omega) only [spec_l27Set.l0, if_neg]
   cases done with
   | true => simp only [if_true, setL, List.append_nil]; exact Ev.now _
   | false =>
    simp only [Bool.false_eq_true, if_false, setL]
    simp (disch := omega) only [if_pos]
    exact Ev.now _
  | succ m ih =>
   intro i out done hi ho
   have hlt : i < l.length := by omega
   rw [List.drop_eq_getElem_cons hlt]
   have er : rd_T96 l (i : Int) = l[i] := by rw [rdSt, getD_lt _ hlt]
   generalize hx : l[i] = x at er
   have eta : (⟨x.f0, x.f1⟩ : S96) = x := rfl
   have eta2 : (⟨e.f0, e.f1⟩ : S96) = e := rfl
   have tailE : ∀ (out2 : List S96) (d2 : Bool), out2.length ≤ 2 * i + 1 →
     (Ev (fun k => spec_l27Set.l0 k l (out2 ++ if x.f0 = e.f0 then [] else [x]) d2 ((i : Int) + 1) e.f0 e.f1) (out2 ++ ((if x.f0 = e.f0 then [] else [x]) ++ setL e (l.drop (i + 1)) d2))) := by
    intro out2 d2 h2
    have h3 : ((if x.f0 = e.f0 then [] else [x]) : List S96).length ≤ 1 := by split <;> simp
    have h := ih (i + 1) (out2 ++ if x.f0 = e.f0 then [] else [x]) d2 (by omega) (by rw [List.length_append]; omega)
    rw [List.append_assoc] at h
    exact h
   simp only [setL]
   by_cases hc : done = false ∧ ¬ skey x < skey e
   ·
    rw [if_pos hc]
    obtain ⟨hd, hn⟩ := hc
    subst hd
    have hb : Op.bytesLess x.f0.toList e.f0.toList = false := by
     cases hq : Op.bytesLess x.f0.toList e.f0.toList with
     | false => rfl
     | true => exact absurd ((bltB _ _).1 hq) hn
    have h := tailE (out ++ [e]) true (by rw [List.length_append, List.length_singleton]; omega)
    have h4 : (out ++ [e]).length < 5864062014805 := by rw [List.length_append, List.length_singleton]; omega
    refine Ev.succ ?_
    simp (disch := omega) only [spec_l27Set.l0, if_pos, er, hb, Bool.not_false, Bool.false_eq_true, if_false]
    refine Ev.succ ?_
    simp (disch := omega) only [spec_l27Set.j1, if_true, if_pos, er, eta, eta2, Option.bind_some, w64, beqB, h4]
    rw [show out ++ (e :: ((if x.f0 = e.f0 then [] else [x]) ++ setL e (l.drop (i + 1)) true)) = out ++ [e] ++ ((if x.f0 = e.f0 then [] else [x]) ++ setL e (l.drop (i + 1)) true) by simp]
    by_cases hne : x.f0 = e.f0
    ·
     simp only [hne, if_true, List.append_nil] at h ⊢
     exact h
    ·
     simp only [hne, if_false] at h ⊢
     exact h
   ·
    rw [if_neg hc]
    have h := tailE out done (by omega)
    refine Ev.succ ?_
    have hj : Ev (fun k => spec_l27Set.j1 k l out done i false e.f0 e.f1) (out ++ ((if x.f0 = e.f0 then [] else [x]) ++ setL e (l.drop (i + 1)) done)) := by
     refine Ev.succ ?_
     simp (disch := omega) only [spec_l27Set.j1, Bool.false_eq_true, if_false, if_pos, er, eta, Option.bind_some, w64, beqB]
     by_cases hne : x.f0 = e.f0
     ·
      simp only [hne, if_true, List.append_nil] at h ⊢
      exact h
     ·
      simp only [hne, if_false] at h ⊢
      exact h
    cases done with
    | true =>
     simp (disch := omega) only [spec_l27Set.l0, if_pos, if_true]
     exact hj
    | false =>
     have hb : Op.bytesLess x.f0.toList e.f0.toList = true := (bltB _ _).2 (Classical.byContradiction fun h5 => hc ⟨rfl, h5⟩)
     simp (disch := omega) only [spec_l27Set.l0, if_pos, er, hb, Bool.not_true, Bool.false_eq_true, if_false]
     exact hj
 have := key l.length 0 [] false (by omega) (by simp)
 simpa using this
def six6 : List ByteArray := [(⟨#[97]⟩ : ByteArray), (⟨#[98]⟩ : ByteArray), (⟨#[99]⟩ : ByteArray), (⟨#[100]⟩ : ByteArray), (⟨#[101]⟩ : ByteArray), (⟨#[102]⟩ : ByteArray)]
theorem six6_key (v : Int) (h0 : 0 ≤ v) (h1 : v < 6) : (rdOf ByteArray.empty six6 v).data.toList ∈ six := by
 have : v = 0 ∨ v = 1 ∨ v = 2 ∨ v = 3 ∨ v = 4 ∨ v = 5 := by omega
 rcases this with rfl | rfl | rfl | rfl | rfl | rfl <;> decide
theorem at_ev (l : List S96) (n : ByteArray) (hl : l.length ≤ 1048576) : ∃ r, Ev (fun k => spec_l27At.f k l n) r ∧ -1 ≤ r ∧ r < l.length := by
 unfold spec_l27At.f
 have key : ∀ (m i : Nat), i + m = l.length → ∃ r, Ev (fun k => spec_l27At.l0 k l n (i : Int)) r ∧ -1 ≤ r ∧ r < l.length := by
  intro m
  induction m with
  | zero =>
   intro i hi
   refine ⟨-1, Ev.succ ?_, by omega, by omega⟩
   simp only [spec_l27At.l0, show ¬ (i : Int) < (l.length : Int) by omega, if_false]
   exact Ev.now _
  | succ m ih =>
   intro i hi
   by_cases c : (rd_T96 l (i : Int)).f0.toList = n.toList
   ·
    refine ⟨i, Ev.succ ?_, by omega, by omega⟩
    simp (disch := omega) only [spec_l27At.l0, if_pos, c]
    exact Ev.now _
   ·
    obtain ⟨r, e, q⟩ := ih (i + 1) (by omega)
    refine ⟨r, Ev.succ ?_, q⟩
    simp only [spec_l27At.l0, show (i : Int) < (l.length : Int) by omega, show (0 : Int) ≤ (i : Int) by omega, if_true, c, if_false]
    simp (disch := omega) only [w64]
    exact e
 exact key l.length 0 (by omega)
theorem changedL_ev {l0 : List Int} (h : SrcOk l0) : ∀ (m : Nat), m ≤ 3 → ∀ (acc : List S96) (s t : Int), 0 ≤ s → s + 6 * m ≤ 890000000000 → goodS acc →
  ∃ r s' t', Ev (fun k => spec_l27Changed.l0 k acc six6 (m : Int) l0 s t) (r, s', t') ∧ goodS r ∧ s ≤ s' ∧ s' ≤ s + 6 * m := by
 intro m
 induction m with
 | zero =>
  intro hm acc s t h0 h1 ha
  refine ⟨acc, s, t, Ev.succ ?_, ha, by omega, by omega⟩
  simp only [spec_l27Changed.l0, show ¬ ((0 : Nat) : Int) > 0 by omega, if_false]
  exact Ev.now _
 | succ m ih =>
  intro hm acc s t h0 h1 ha
  have em : ((m + 1 : Nat) : Int) - 1 = (m : Int) := by omega
  have hla := goodS_len ha
  obtain ⟨v, s1, t1, e1, v0, v1, g1, g2⟩ := pick_eq h s t 6 h0 (by omega) (by omega) (by omega)
  have hk := six6_key v v0 v1
  obtain ⟨a, ea, a0, a1⟩ := at_ev acc (rdOf ByteArray.empty six6 v) (by omega)
  have set_ : ∀ s2 t2, s1 ≤ s2 → s2 ≤ s1 + 2 → ∃ r s' t', Ev (fun k => spec_l27Changed.j1 k acc six6 ((m + 1 : Nat) : Int) (rdOf ByteArray.empty six6 v) a false l0 s2 t2) (r, s', t') ∧ goodS r ∧ s ≤ s' ∧ s' ≤ s + 6 * ((m + 1 : Nat) : Int) := by
   intro s2 t2 q1 q2
   obtain ⟨u, s3, t3, e3, u0, u1, g3, g4⟩ := pick_eq h s2 t2 1001 (by omega) (by omega) (by omega) (by omega)
   have hg := goodS_set ha (e := ⟨rdOf ByteArray.empty six6 v, u⟩) hk u0 (by show u ≤ 1000; omega)
   obtain ⟨r, s', t', e, hr, b1, b2⟩ := ih (by omega) _ s3 t3 (by omega) (by omega) hg
   refine ⟨r, s', t', Ev.succ ?_, hr, by omega, by omega⟩
   simp only [spec_l27Changed.j1, Bool.false_eq_true, if_false, e3, Option.bind_some]
   refine Ev.bind (specSet_ev acc ⟨rdOf ByteArray.empty six6 v, u⟩ (by omega)) ?_
   simp (disch := omega) only [w64]
   rw [em]
   exact e
  have del_ : ∀ s2 t2, s1 ≤ s2 → s2 ≤ s1 + 2 → 0 ≤ a → ∃ r s' t', Ev (fun k => spec_l27Changed.j1 k acc six6 ((m + 1 : Nat) : Int) (rdOf ByteArray.empty six6 v) a true l0 s2 t2) (r, s', t') ∧ goodS r ∧ s ≤ s' ∧ s' ≤ s + 6 * ((m + 1 : Nat) : Int) := by
   intro s2 t2 q1 q2 q3
   have hg : goodS (acc.take a.toNat ++ acc.drop (a + 1).toNat) := by
    refine goodS_sub ha ?_
    rw [show (a + 1).toNat = a.toNat + 1 by omega, ← List.eraseIdx_eq_take_drop_succ]
    exact List.eraseIdx_sublist _ _
   obtain ⟨r, s', t', e, hr, b1, b2⟩ := ih (by omega) _ s2 t2 (by omega) (by omega) hg
   refine ⟨r, s', t', Ev.succ ?_, hr, by omega, by omega⟩
   have hlt : (acc.take a.toNat).length ≤ 6 := by rw [List.length_take]; omega
   have hld : (acc.drop (a + 1).toNat).length ≤ 6 := by rw [List.length_drop]; omega
   simp only [spec_l27Changed.j1, if_true, Option.bind_some, List.nil_append, List.length_nil, q3, show a ≤ (acc.length : Int) by omega]
   simp (disch := omega) only [w64, if_pos]
   rw [em]
   exact e
  by_cases c : a ≥ 0
  ·
   obtain ⟨b, s2, t2, e2, q1, q2⟩ := one_eq h s1 t1 2 (by omega) (by omega) (by omega) (by omega)
   have : ∃ r s' t', Ev (fun k => spec_l27Changed.j1 k acc six6 ((m + 1 : Nat) : Int) (rdOf ByteArray.empty six6 v) a b l0 s2 t2) (r, s', t') ∧ goodS r ∧ s ≤ s' ∧ s' ≤ s + 6 * ((m + 1 : Nat) : Int) := by
    cases b with
    | false => exact set_ s2 t2 q1 q2
    | true => exact del_ s2 t2 q1 q2 c
   obtain ⟨r, s', t', e, hr⟩ := this
   refine ⟨r, s', t', Ev.succ ?_, hr⟩
   simp only [spec_l27Changed.l0, show ((m + 1 : Nat) : Int) > 0 by omega, if_true, e1, Option.bind_some, v0, show v < ((six6.length : Nat) : Int) from v1]
   refine Ev.bind ea ?_
   simp only [c, if_true, e2, Option.bind_some]
   exact e
  ·
   obtain ⟨r, s', t', e, hr⟩ := set_ s1 t1 (by omega) (by omega)
   refine ⟨r, s', t', Ev.succ ?_, hr⟩
   simp only [spec_l27Changed.l0, show ((m + 1 : Nat) : Int) > 0 by omega, if_true, e1, Option.bind_some, v0, show v < ((six6.length : Nat) : Int) from v1]
   refine Ev.bind ea ?_
   simp only [c, if_false]
   exact e
theorem changed_ev {l0 : List Int} (h : SrcOk l0) (l : List S96) (hl : goodS l) (s t : Int) (h0 : 0 ≤ s) (h1 : s ≤ 880000000000) : ∃ r s' t', Ev (fun k => spec_l27Changed.f k l0 s t l) (r, s', t') ∧ goodS r ∧ s ≤ s' ∧ s' ≤ s + 20 := by
 have hla := goodS_len hl
 obtain ⟨v, s1, t1, e1, v0, v1, g1, g2⟩ := pick_eq h s t 4 h0 (by omega) (by omega) (by omega)
 obtain ⟨m, rfl⟩ := Int.eq_ofNat_of_zero_le v0
 obtain ⟨r, s', t', e, hr, q1, q2⟩ := changedL_ev h m (by omega) l s1 t1 (by omega) (by omega) hl
 refine ⟨r, s', t', ?_, hr, by omega, by omega⟩
 unfold spec_l27Changed.f
 simp only [Option.bind_some, List.length_nil, List.nil_append, e1]
 simp (disch := omega) only [if_pos]
 exact e
theorem text_eq {l0 : List Int} (h : SrcOk l0) (s t : Int) (h0 : 0 ≤ s) (h1 : s ≤ 890000000000) : ∃ r s' t', spec_l00Src_text.f l0 s t memos = some (r, s', t') ∧ r ∈ memos ∧ s ≤ s' ∧ s' ≤ s + 2 := by
 obtain ⟨v, s1, t1, e1, v0, v1, g1, g2⟩ := pick_eq h s t 3 h0 (by omega) (by omega) (by omega)
 refine ⟨rdOf ByteArray.empty memos v, s1, t1, ?_, ?_, g1, g2⟩
 ·
  unfold spec_l00Src_text.f
  rw [show ((memos.length : Nat) : Int) = 3 from rfl, e1]
  simp only [Option.bind_some, v0, v1, if_true]
 ·
  have : v = 0 ∨ v = 1 ∨ v = 2 := by omega
  rcases this with rfl | rfl | rfl <;> simp [memos, rdOf]
theorem drawHL_ev {l0 : List Int} (h : SrcOk l0) : ∀ (m : Nat) (acc : List S48) (s t : Int), 0 ≤ s → s + 50 * m ≤ 790000000000 → goodH acc → acc.length + m ≤ 5 →
  ∃ r s' t', Ev (fun k => spec_l27Draw.l0 k acc (m : Int) l0 s t) (r, s', t') ∧ goodH r ∧ r.length ≤ 5 := by
 intro m
 induction m with
 | zero =>
  intro acc s t h0 h1 ha hl
  refine ⟨acc, s, t, Ev.succ ?_, ha, by omega⟩
  simp only [spec_l27Draw.l0, show ¬ ((0 : Nat) : Int) > 0 by omega, if_false]
  exact Ev.now _
 | succ m ih =>
  intro acc s t h0 h1 ha hl
  have em : ((m + 1 : Nat) : Int) - 1 = (m : Int) := by omega
  obtain ⟨p, s1, t1, e1, p0, p1, g1, g2⟩ := pick_eq h s t ((acc.length : Int) + 1) h0 (by omega) (by omega) (by omega)
  obtain ⟨st, s2, t2, e2, hst, g3, g4⟩ := drawState_ev h s1 t1 (by omega) (by omega)
  by_cases c : p > 0
  ·
   have hp := ha (p - 1).toNat (by omega)
   obtain ⟨st2, s3, t3, e3, hst2, g5, g6⟩ := changed_ev h (acc.getD (p - 1).toNat z48).f3 hp.2.2.2.2 s2 t2 (by omega) (by omega)
   obtain ⟨mm, s4, t4, e4, hmm, g7, g8⟩ := text_eq h s3 t3 (by omega) (by omega)
   obtain ⟨r, s', t', e, hr⟩ := ih (acc ++ [⟨(acc.length : Int) + 1, p, mm, st2⟩]) s4 t4 (by omega) (by omega) (goodH_snoc ha ⟨rfl, p0, by show p ≤ _; omega, hmm, hst2⟩) (by rw [List.length_append, List.length_singleton]; omega)
   refine ⟨r, s', t', Ev.succ ?_, hr⟩
   simp only [spec_l27Draw.l0, show ((m + 1 : Nat) : Int) > 0 by omega, if_true]
   simp (disch := omega) only [w64]
   rw [em]
   simp only [e1, Option.bind_some]
   refine Ev.bind e2 ?_
   simp only [c, if_true]
   simp (disch := omega) only [w64, if_pos]
   refine Ev.bind e3 ?_
   have e4 := e4
   unfold memos at e4
   simp only [e4, Option.bind_some]
   (try simp (disch := omega) only [if_pos])
   exact e
  ·
   obtain ⟨mm, s4, t4, e4, hmm, g7, g8⟩ := text_eq h s2 t2 (by omega) (by omega)
   obtain ⟨r, s', t', e, hr⟩ := ih (acc ++ [⟨(acc.length : Int) + 1, p, mm, st⟩]) s4 t4 (by omega) (by omega) (goodH_snoc ha ⟨rfl, p0, by show p ≤ _; omega, hmm, hst⟩) (by rw [List.length_append, List.length_singleton]; omega)
   refine ⟨r, s', t', Ev.succ ?_, hr⟩
   simp only [spec_l27Draw.l0, show ((m + 1 : Nat) : Int) > 0 by omega, if_true]
   simp (disch := omega) only [w64]
   rw [em]
   simp only [e1, Option.bind_some]
   refine Ev.bind e2 ?_
   simp only [c, if_false]
   have e4 := e4
   unfold memos at e4
   simp only [e4, Option.bind_some]
   (try simp (disch := omega) only [if_pos])
   exact e
theorem drawH_ev {l0 : List Int} (h : SrcOk l0) (s t : Int) (h0 : 0 ≤ s) (h1 : s ≤ 700000000000) : ∃ r s' t', Ev (fun k => spec_l27Draw.f k l0 s t) (r, s', t') ∧ goodH r ∧ r.length ≤ 5 := by
 obtain ⟨v, s1, t1, e1, v0, v1, g1, g2⟩ := pick_eq h s t 6 h0 (by omega) (by omega) (by omega)
 obtain ⟨m, rfl⟩ := Int.eq_ofNat_of_zero_le v0
 obtain ⟨r, s', t', e, hr⟩ := drawHL_ev h m [] s1 t1 (by omega) (by omega) (fun i hi => by simp at hi) (by simp; omega)
 refine ⟨r, s', t', ?_, hr⟩
 unfold spec_l27Draw.f
 simp only [e1, Option.bind_some]
 exact e
theorem specIn_eq (a lo hi : Int) : spec_l00In.f a lo hi = some (inR lo hi a) := by
 unfold spec_l00In.f inR
 by_cases h : a ≥ lo
 ·
  rw [if_pos h, decide_eq_true (show lo ≤ a from h)]; rfl
 ·
  rw [if_neg h, decide_eq_false (show ¬ lo ≤ a from h)]; rfl
theorem specSmall_eq (c : Int) : spec_l01Small.f c = some (smallC c) := by
 unfold spec_l01Small.f smallC
 by_cases h : c ≥ 97
 ·
  rw [if_pos h, decide_eq_true (show 97 ≤ c from h)]; rfl
 ·
  rw [if_neg h, decide_eq_false (show ¬ 97 ≤ c from h)]; rfl
theorem specDigit_eq (c : Int) : spec_l01Digit.f c = some (digitC c) := by
 unfold spec_l01Digit.f digitC
 by_cases h : c ≥ 48
 ·
  rw [if_pos h, decide_eq_true (show 48 ≤ c from h)]; rfl
 ·
  rw [if_neg h, decide_eq_false (show ¬ 48 ≤ c from h)]; rfl
theorem specName_ev (b : ByteArray) : Ev (fun k => spec_l01Name.f k b) (nameOk b) := by
 unfold spec_l01Name.f nameOk
 have hz : b.toList = ([] : List UInt8) ↔ b.size = 0 := by
  rw [ByteArray.toList_eq, show b.size = b.data.toList.length from rfl]
  exact List.length_eq_zero_iff.symm
 by_cases h1 : b.size < 1
 ·
  rw [decide_eq_false (by omega), Bool.false_and]
  simp only [show b.toList = ([] : List UInt8) from hz.2 (by omega), if_true]
  exact Ev.step (f := fun _ => some false) (fun k => by simp [spec_l01Name.j0]) (Ev.now _)
 ·
  rw [decide_eq_true (show 1 ≤ b.size by omega), Bool.true_and]
  simp only [show ¬ b.toList = ([] : List UInt8) from fun e => by have := hz.1 e; omega, if_false]
  by_cases h10 : b.size > 10
  ·
   rw [decide_eq_false (show ¬ b.size ≤ 10 by omega), Bool.false_and]
   simp only [show (b.size : Int) > 10 by omega, if_true]
   exact Ev.step (f := fun _ => some false) (fun k => by simp [spec_l01Name.j0]) (Ev.now _)
  ·
   rw [decide_eq_true (show b.size ≤ 10 by omega), Bool.true_and]
   simp only [show ¬ (b.size : Int) > 10 by omega, if_false, show 0 < (b.size : Int) by omega, if_true, specSmall_eq, Option.bind_some]
   cases hs : smallC (bt b 0) with
   | false =>
    rw [Bool.false_and]
    exact Ev.step (f := fun _ => some false) (fun k => by simp [spec_l01Name.j0]) (Ev.now _)
   | true =>
    rw [Bool.true_and]
    refine Ev.step (f := fun k => spec_l01Name.l0 k b 0) (fun k => by simp [spec_l01Name.j0]) ?_
    have key := ev_all (fun k i => spec_l01Name.l0 k b i) (List.range b.size) 0 (fun i => nameC (bt b i)) false true (fun i hi hp s hs2 => ?_) (fun i hi hp => ?_) ?_
    ·
     revert key
     cases (List.range b.size).all fun i => nameC (bt b i) <;> exact id
    ·
     rw [List.length_range] at hi
     rw [getD_lt 0 (by simpa using hi), List.getElem_range] at hp
     refine Ev.step (fun k => ?_) hs2
     simp only [spec_l01Name.l0]
     rw [if_pos (by omega), if_pos (by omega), specSmall_eq, specDigit_eq]
     simp only [Option.bind_some]
     unfold nameC at hp
     cases h3 : smallC (bt b i) with
     | true => rw [if_pos rfl, w64 (by omega) (by omega)]; rfl
     | false =>
      rw [h3, Bool.false_or] at hp
      rw [hp, if_neg (by decide), if_pos rfl, w64 (by omega) (by omega)]
      rfl
    ·
     rw [List.length_range] at hi
     rw [getD_lt 0 (by simpa using hi), List.getElem_range] at hp
     refine Ev.step (f := fun _ => some false) (fun k => ?_) (Ev.now _)
     simp only [spec_l01Name.l0]
     unfold nameC at hp
     rw [Bool.or_eq_false_iff] at hp
     rw [if_pos (by omega), if_pos (by omega), specSmall_eq, specDigit_eq, hp.1, hp.2]
     rfl
    ·
     refine Ev.step (f := fun _ => some true) (fun k => ?_) (Ev.now _)
     simp only [spec_l01Name.l0]
     rw [List.length_range, if_neg (by omega)]
theorem specSett_ev (x : S96) : Ev (fun k => spec_l27Setting.f k [x]) (settOk x) := by
 unfold spec_l27Setting.f settOk
 have e : rd_T96 [x] 0 = x := rfl
 simp only [e, List.length_singleton, show (0 : Int) < ((1 : Nat) : Int) by decide, if_true, specIn_eq, Option.bind_some]
 refine Ev.bind (specName_ev x.f0) ?_
 cases nameOk x.f0 with
 | false => exact Ev.now _
 | true => exact Ev.now _
theorem specState_ev (l : List S96) (hl : l.length ≤ 1048576) : Ev (fun k => spec_l27State.f k l) (stateOk l) := by
 unfold spec_l27State.f
 have key := ev_all (fun k i => spec_l27State.l0 k l i) (List.range l.length) 0 (settAt l) false (decide (l.length ≤ 24)) (fun i hi hp s hs => ?_) (fun i hi hp => ?_) ?_
 ·
  unfold stateOk
  revert key
  cases (List.range l.length).all (settAt l) with
  | true => rw [Bool.and_true]; exact id
  | false => rw [Bool.and_false]; exact id
 ·
  rw [List.length_range] at hi
  rw [getD_lt 0 (by simpa using hi), List.getElem_range] at hp
  unfold settAt at hp
  rw [Bool.and_eq_true, Bool.or_eq_true, decide_eq_true_eq, decide_eq_true_eq] at hp
  refine Ev.succ ?_
  simp (disch := omega) only [spec_l27State.l0, if_pos, w64, rdSt]
  have h1 := specSett_ev (l.getD i z96)
  rw [hp.1] at h1
  refine Ev.bind h1 ?_
  by_cases h0 : 0 < i
  ·
   have := hp.2.resolve_left (by omega)
   simp (disch := omega) only [rdSts, if_pos, if_neg, bltB, this, if_true]
   exact hs
  ·
   simp (disch := omega) only [if_pos, if_neg]
   exact hs
 ·
  rw [List.length_range] at hi
  rw [getD_lt 0 (by simpa using hi), List.getElem_range] at hp
  unfold settAt at hp
  refine Ev.succ ?_
  simp (disch := omega) only [spec_l27State.l0, if_pos, w64, rdSt]
  refine Ev.bind (specSett_ev (l.getD i z96)) ?_
  cases ho : settOk (l.getD i z96) with
  | false => exact Ev.now _
  | true =>
   rw [ho, Bool.true_and, Bool.or_eq_false_iff, decide_eq_false_iff_not, decide_eq_false_iff_not] at hp
   simp (disch := omega) only [rdSts, if_pos, if_neg, bltB, hp.2, if_false]
   exact Ev.now _
 ·
  refine Ev.succ ?_
  simp only [spec_l27State.l0, List.length_range, Int.lt_irrefl, if_false]
  exact Ev.now' (by rw [decide_eq_decide]; omega)
theorem specHist_ev (l : List S48) (hl : l.length ≤ 1048576) (h2 : ∀ x ∈ l, x.f2.size ≤ 1048576 ∧ x.f3.length ≤ 1048576) : Ev (fun k => spec_l27Ok.f k l) (histOk l) := by
 unfold spec_l27Ok.f
 have key := ev_all (fun k i => spec_l27Ok.l0 k l i) (List.range l.length) 0 (verAt l) false (decide (l.length ≤ 32)) (fun i hi hp s hs => ?_) (fun i hi hp => ?_) ?_
 ·
  unfold histOk
  revert key
  cases (List.range l.length).all (verAt l) with
  | true => rw [Bool.and_true]; exact id
  | false => rw [Bool.and_false]; exact id
 ·
  rw [List.length_range] at hi
  rw [getD_lt 0 (by simpa using hi), List.getElem_range] at hp
  obtain ⟨m2, m3⟩ := h2 _ (getD_mem z48 hi)
  unfold verAt at hp
  simp only [Bool.and_eq_true, decide_eq_true_eq] at hp
  obtain ⟨a1, a2, a3, a4⟩ := hp
  refine Ev.succ ?_
  simp (disch := omega) only [spec_l27Ok.l0, if_pos, w64, rdV, a1, if_true, specIn_eq, Option.bind_some, a2]
  have e1 := specMemo_ev _ m2
  rw [a3] at e1
  have e2 := specState_ev _ m3
  rw [a4] at e2
  refine Ev.bind e1 ?_
  simp only [if_true]
  refine Ev.bind e2 ?_
  simp only [if_true]
  exact hs
 ·
  rw [List.length_range] at hi
  rw [getD_lt 0 (by simpa using hi), List.getElem_range] at hp
  obtain ⟨m2, m3⟩ := h2 _ (getD_mem z48 hi)
  unfold verAt at hp
  refine Ev.succ ?_
  simp (disch := omega) only [spec_l27Ok.l0, if_pos, w64, rdV, specIn_eq, Option.bind_some]
  by_cases c1 : (l.getD i z48).f0 = (i : Int) + 1
  ·
   rw [decide_eq_true c1, Bool.true_and] at hp
   simp only [c1, if_true]
   cases c2 : inR 0 (i : Int) (l.getD i z48).f1 with
   | false => exact Ev.now _
   | true =>
    rw [c2, Bool.true_and] at hp
    simp only [if_true]
    refine Ev.bind (specMemo_ev _ m2) ?_
    cases c3 : memoOk (l.getD i z48).f2 with
    | false => exact Ev.now _
    | true =>
     rw [c3, Bool.true_and] at hp
     simp only [if_true]
     have e2 := specState_ev _ m3
     rw [hp] at e2
     refine Ev.bind e2 ?_
     exact Ev.now _
  ·
   simp only [c1, if_false]
   exact Ev.now _
 ·
  refine Ev.succ ?_
  simp only [spec_l27Ok.l0, List.length_range, Int.lt_irrefl, if_false]
  exact Ev.now' (by rw [decide_eq_decide]; omega)
theorem code_ev (l : List S48) (hl : l.length ≤ 1048576) (h2 : ∀ x ∈ l, x.f2.size ≤ 1048576 ∧ x.f3.length ≤ 1048576) (p q : Int) : Ev (fun k => impl_versionsCode.f k l [p, q]) (if histOk l = true then (if inR 1 (l.length : Int) p && inR 1 (l.length : Int) q then 0 else 3) else 1) := by
 unfold impl_versionsCode.f
 refine Ev.bind (implHist_ev l hl h2) ?_
 cases histOk l with
 | false => exact Ev.now _
 | true =>
  have e : impl_allWithin.f [p, q] 1 (l.length : Int) = some (inR 1 (l.length : Int) p && inR 1 (l.length : Int) q) := by
   unfold impl_allWithin.f inB inR
   simp
  simp only [if_true, e, Option.bind_some]
  cases inR 1 (l.length : Int) p && inR 1 (l.length : Int) q <;> exact Ev.now _
theorem code1_ev (l : List S48) (hl : l.length ≤ 1048576) (h2 : ∀ x ∈ l, x.f2.size ≤ 1048576 ∧ x.f3.length ≤ 1048576) (p : Int) : Ev (fun k => impl_versionsCode.f k l [p]) (if histOk l = true then (if inR 1 (l.length : Int) p = true then 0 else 3) else 1) := by
 unfold impl_versionsCode.f
 refine Ev.bind (implHist_ev l hl h2) ?_
 cases histOk l with
 | false => exact Ev.now _
 | true =>
  have e : impl_allWithin.f [p] 1 (l.length : Int) = some (inR 1 (l.length : Int) p) := by
   unfold impl_allWithin.f inB inR
   simp
  simp only [if_true, e, Option.bind_some]
  cases inR 1 (l.length : Int) p <;> exact Ev.now _
theorem contI_ev (l : List Int) (x : Int) (hl : l.length ≤ 1000) : Ev (fun k => slices_Contains_int64_int64.f k l x) (decide (x ∈ l)) := by
 unfold slices_Contains_int64_int64.f slices_Index_int64_int64.f
 have key : ∀ (m i : Nat), i + m = l.length → ∃ r, Ev (fun k => slices_Index_int64_int64.l0 k l x (l.length : Int) (i : Int)) r ∧ decide (r ≥ 0) = decide (x ∈ l.drop i) := by
  intro m
  induction m with
  | zero =>
   intro i hi
   refine ⟨-1, Ev.succ ?_, ?_⟩
   ·
    simp only [slices_Index_int64_int64.l0, show ¬ (i : Int) < (l.length : Int) by omega, if_false]
    exact Ev.now _
   ·
    rw [List.drop_eq_nil_of_le (by omega)]
    simp
  | succ m ih =>
   intro i hi
   have ed : l.drop i = l.getD i 0 :: l.drop (i + 1) := by
    rw [getD_lt _ (by omega)]
    exact List.drop_eq_getElem_cons (by omega)
   have er : rd l (i : Int) = l.getD i 0 := rd_nat _ _
   by_cases c : x = l.getD i 0
   ·
    refine ⟨i, Ev.succ ?_, ?_⟩
    ·
     simp only [slices_Index_int64_int64.l0, show (i : Int) < (l.length : Int) by omega, show (0 : Int) ≤ (i : Int) by omega, if_true, er, c]
     exact Ev.now _
    ·
     rw [ed, decide_eq_true (show (i : Int) ≥ 0 by omega), decide_eq_true (by rw [c]; exact List.mem_cons_self)]
   ·
    obtain ⟨r, e, q⟩ := ih (i + 1) (by omega)
    refine ⟨r, Ev.succ ?_, ?_⟩
    ·
     simp only [slices_Index_int64_int64.l0, show (i : Int) < (l.length : Int) by omega, show (0 : Int) ≤ (i : Int) by omega, if_true, er, c, if_false]
     simp (disch := omega) only [w64]
     exact e
    ·
     rw [q, ed]
     exact decide_eq_decide.2 ⟨fun h => List.mem_cons_of_mem _ h, fun h => (List.mem_cons.1 h).resolve_left c⟩
 obtain ⟨r, e, q⟩ := key l.length 0 (by omega)
 rw [List.drop_zero] at q
 rw [← q]
 exact Ev.bind e (Ev.now _)
def ancV (l : List S48) (p q : Int) : Int := ((lineL l 34 p).find? fun x => decide (x ∈ lineL l 34 q)).getD 0
theorem anc_ev {l : List S48} (hl : l.length ≤ 32) (h : par l) (p q : Int) (p0 : 0 ≤ p) (p1 : p ≤ l.length) (q0 : 0 ≤ q) (q1 : q ≤ l.length) : Ev (fun k => impl_commonAncestor.f k l p q) (ancV l p q) := by
 unfold impl_commonAncestor.f impl_lineOf.f
 have e1 := lineOf_ev hl h 34 q q0 (by omega) q1 [] (by simp)
 have e2 := lineOf_ev hl h 34 p p0 (by omega) p1 [] (by simp)
 rw [List.nil_append] at e1 e2
 refine Ev.bind e1 (Ev.bind e2 ?_)
 unfold ancV
 have l1 := lineL_len l 34 p
 have l2 := lineL_len l 34 q
 generalize lineL l 34 p = a at l1 ⊢
 generalize lineL l 34 q = b at l2 ⊢
 have key : ∀ (m i : Nat), i + m = a.length → Ev (fun k => impl_commonAncestor.l0 k b a (a.length : Int) (i : Int)) (((a.drop i).find? fun x => decide (x ∈ b)).getD 0) := by
  intro m
  induction m with
  | zero =>
   intro i hi
   refine Ev.succ ?_
   rw [List.drop_eq_nil_of_le (by omega)]
   simp only [impl_commonAncestor.l0, show ¬ (i : Int) < (a.length : Int) by omega, if_false]
   exact Ev.now _
  | succ m ih =>
   intro i hi
   have ed : a.drop i = a.getD i 0 :: a.drop (i + 1) := by
    rw [getD_lt _ (by omega)]
    exact List.drop_eq_getElem_cons (by omega)
   have er : rd a (i : Int) = a.getD i 0 := rd_nat _ _
   have hs := ih (i + 1) (by omega)
   rw [ed, List.find?_cons]
   refine Ev.succ ?_
   simp only [impl_commonAncestor.l0, show (i : Int) < (a.length : Int) by omega, show (0 : Int) ≤ (i : Int) by omega, if_true, er]
   refine Ev.bind (contI_ev b (a.getD i 0) (by omega)) ?_
   by_cases c : a.getD i 0 ∈ b
   ·
    simp only [decide_eq_true c, if_true]
    exact Ev.now _
   ·
    simp only [decide_eq_false c, Bool.false_eq_true, if_false]
    simp (disch := omega) only [w64]
    exact hs
 have := key a.length 0 (by omega)
 rw [List.drop_zero] at this
 exact this
def addR (l : List S48) (p : Int) (b : ByteArray) (st : List S96) : List S48 × Int := if l.length = 32 then ([], 5) else (l ++ [⟨(l.length : Int) + 1, p, b, st⟩], 0)
theorem addI_ev (l : List S48) (hl : l.length ≤ 32) (h2 : ∀ x ∈ l, x.f3.length ≤ 1048576) (p : Int) (b : ByteArray) (st : List S96) (hst : st.length ≤ 1048576) : Ev (fun k => impl_withVersion.f k l p b st) (addR l p b st) := by
 unfold impl_withVersion.f impl_Version.f addR
 by_cases c : l.length = 32
 ·
  simp only [c, show ((32 : Nat) : Int) = 32 from rfl, if_true]
  exact Ev.now _
 simp only [c, show ¬ (l.length : Int) = 32 by omega, if_false]
 simp (disch := omega) only [if_pos, Option.bind_some, w64]
 have hs : ∀ v ∈ l ++ [(⟨(l.length : Int) + 1, p, b, st⟩ : S48)], v.f3.length ≤ 1048576 := fun v hv => by
  rcases List.mem_append.1 hv with hv | hv
  ·
   exact h2 v hv
  ·
   obtain rfl := List.mem_singleton.1 hv
   exact hst
 have hlen : (l ++ [(⟨(l.length : Int) + 1, p, b, st⟩ : S48)]).length ≤ 33 := by rw [List.length_append, List.length_singleton]; omega
 generalize l ++ [(⟨(l.length : Int) + 1, p, b, st⟩ : S48)] = a at hs hlen ⊢
 have key : ∀ (m i : Nat), i + m = a.length → Ev (fun k => impl_withVersion.l0 k (a.take i) a (a.length : Int) (i : Int)) (a, 0) := by
  intro m
  induction m with
  | zero =>
   intro i hi
   refine Ev.succ ?_
   rw [List.take_of_length_le (by omega)]
   simp only [impl_withVersion.l0, show ¬ (i : Int) < (a.length : Int) by omega, if_false]
   exact Ev.now _
  | succ m ih =>
   intro i hi
   have ht : (a.take i).length = i := by rw [List.length_take]; omega
   have hx := hs (a.getD i z48) (getD_mem _ (by omega))
   have es : impl_Setting.f (a.getD i z48).f3 = some (a.getD i z48).f3 := by
    unfold impl_Setting.f
    rw [if_pos (by omega)]
   refine Ev.succ ?_
   simp only [impl_withVersion.l0, show (i : Int) < (a.length : Int) by omega, show (0 : Int) ≤ (i : Int) by omega, if_true, rdV, es, Option.bind_some, ht]
   simp (disch := omega) only [if_pos, w64]
   have e : a.take i ++ [(⟨(a.getD i z48).f0, (a.getD i z48).f1, (a.getD i z48).f2, (a.getD i z48).f3⟩ : S48)] = a.take (i + 1) := by
    rw [getD_lt _ (by omega : i < a.length), List.take_succ_eq_append_getElem (by omega)]
   rw [e]
   exact ih (i + 1) (by omega)
 exact key a.length 0 (by omega)
def stV (l : List S48) (p : Int) : List S96 := if p = 0 then [] else (l.getD (p - 1).toNat z48).f3
theorem stV_ok {l : List S48} (h : histOk l = true) (p : Int) (p0 : 0 ≤ p) (p1 : p ≤ l.length) : stateOk (stV l p) = true := by
 unfold stV
 by_cases c : p = 0
 ·
  rw [if_pos c]; rfl
 ·
  rw [if_neg c]
  exact ((histOk_facts h).2 (p - 1).toNat (by omega)).2.2.2.2
theorem stI_eq (l : List S48) (hl : l.length ≤ 32) (p : Int) (p0 : 0 ≤ p) (p1 : p ≤ l.length) : impl_versionState.f l p = some (stV l p) := by
 unfold impl_versionState.f stV
 by_cases c : p = 0
 ·
  rw [if_pos c, if_pos c]
 ·
  rw [if_neg c, if_neg c, w64 (by omega) (by omega), if_pos (by omega), if_pos (by omega)]
  rfl
theorem lit_u8 {x : Int} (h : (Lit.int .u8 x).wf = true) : 0 ≤ x ∧ x ≤ 255 := by
 have h2 : (decide (IntKind.u8.min ≤ x) && decide (x ≤ IntKind.u8.max)) = true := h
 simp only [Bool.and_eq_true, decide_eq_true_eq] at h2
 exact h2
theorem src_of {l : List Int} (h0 : l.length ≤ 1048576) (h : ∀ x ∈ l, (Lit.int .u8 x).wf = true) : SrcOk l := ⟨h0, fun x hx => by
 have := h x hx
 exact lit_u8 this⟩
theorem at_rng {l : List Int} (h : SrcOk l) (i n : Int) (i0 : 0 ≤ i) (n1 : 1 ≤ n) (n2 : n ≤ 6) : ∃ r, laws_r8At.f l i n = some r ∧ 0 ≤ r ∧ r < n := by
 unfold laws_r8At.f
 by_cases c : n ≤ 1
 ·
  rw [if_pos c]; exact ⟨0, rfl, by omega, by omega⟩
 ·
  rw [if_neg c]
  by_cases d : i ≥ (l.length : Int)
  ·
   rw [if_pos d]; exact ⟨0, rfl, by omega, by omega⟩
  ·
   have hr : 0 ≤ rd l i ∧ rd l i ≤ 255 := h.2 _ (getD_mem 0 (by omega))
   rw [if_neg d, if_pos i0, if_pos (by omega), if_neg (by omega), w64 (by omega) (by omega)]
   exact ⟨_, rfl, Int.tmod_nonneg _ (by omega), Int.tmod_lt_of_pos _ (by omega)⟩
def nextB : ByteArray := ⟨#[110, 101, 120, 116]⟩
def itB (n : Int) : ByteArray := ⟨(Lib.itoa n).toArray⟩
def undoB (n : Int) : ByteArray := (⟨#[117, 110, 100, 111, 32]⟩ : ByteArray) ++ itB n
theorem nextB_ok : memoOk nextB = true := by decide
theorem undo_fin : ∀ m : Fin 7, 1 ≤ m.val → memoOk (undoB (m.val : Int)) = true := by decide +kernel
theorem undoB_ok (n : Int) (h0 : 1 ≤ n) (h1 : n ≤ 6) : memoOk (undoB n) = true := by
 have h := undo_fin ⟨n.toNat, by omega⟩ (by show 1 ≤ n.toNat; omega)
 have e : ((n.toNat : Nat) : Int) = n := Int.toNat_of_nonneg (by omega)
 rw [show ((⟨n.toNat, by omega⟩ : Fin 7).val : Int) = n from e] at h
 exact h
theorem it_fin : ∀ m : Fin 1001, (itB (m.val : Int)).size ≤ 20 := by decide +kernel
theorem itB_len (n : Int) (h0 : 0 ≤ n) (h1 : n ≤ 1000) : (itB n).size ≤ 20 := by
 have h := it_fin ⟨n.toNat, by omega⟩
 have e : ((n.toNat : Nat) : Int) = n := Int.toNat_of_nonneg (by omega)
 rw [show ((⟨n.toNat, by omega⟩ : Fin 1001).val : Int) = n from e] at h
 exact h
theorem dec_eq (n : Int) (h0 : 0 ≤ n) (h1 : n ≤ 1000) : impl_Decimal.f n = some (itB n) := by
 unfold impl_Decimal.f
 rw [if_pos (by omega)]
 rfl
theorem textL_ev (st : List S96) (hs : goodS st) (a b : Int) (m : ByteArray) (hm : m.size ≤ 20) : ∀ (n i : Nat), i + n = st.length → ∀ x : ByteArray, 1 ≤ x.size → x.size ≤ 1000 + 100 * i → ∃ y, Ev (fun k => impl_VersionText.l0 k x st (st.length : Int) (i : Int) a b m st) y ∧ 1 ≤ y.size := by
 have hl := goodS_len hs
 intro n
 induction n with
 | zero =>
  intro i hi x hx hx2
  by_cases c : m.toList = ([] : List UInt8)
  ·
   refine ⟨x, Ev.succ ?_, hx⟩
   simp only [impl_VersionText.l0, show ¬ (i : Int) < (st.length : Int) by omega, if_false, c, if_true]
   exact Ev.now _
  ·
   refine ⟨x ++ ((⟨#[32, 35, 32]⟩ : ByteArray) ++ m), Ev.succ ?_, by rw [ByteArray.size_append]; omega⟩
   have e3 : (⟨#[32, 35, 32]⟩ : ByteArray).size = 3 := rfl
   simp only [impl_VersionText.l0, show ¬ (i : Int) < (st.length : Int) by omega, if_false, c, ByteArray.size_append, e3, show 3 + m.size ≤ 9223372036854775807 by omega, show x.size + (3 + m.size) ≤ 9223372036854775807 by omega, if_true]
   exact Ev.now _
 | succ n ih =>
  intro i hi x hx hx2
  have hlt : i < st.length := by omega
  have hg := hs.2 st[i] (List.getElem_mem hlt)
  have hk : (st[i].f0).size ≤ 5 := by
   have h1 : skey st[i] ∈ six := hg.1
   have h2 : (skey st[i]).length = 1 := by
    unfold six at h1
    simp only [List.mem_cons, List.not_mem_nil, or_false] at h1
    rcases h1 with h | h | h | h | h | h <;> rw [h] <;> rfl
   have h3 : (st[i].f0).size = (skey st[i]).length := rfl
   omega
  have hd := itB_len st[i].f1 hg.2.1 hg.2.2
  have e1 : (⟨#[32]⟩ : ByteArray).size = 1 := rfl
  have e2 : (⟨#[61]⟩ : ByteArray).size = 1 := rfl
  obtain ⟨y, ey, hy⟩ := ih (i + 1) (by omega) (x ++ ((((⟨#[32]⟩ : ByteArray) ++ st[i].f0) ++ (⟨#[61]⟩ : ByteArray)) ++ itB st[i].f1)) (by rw [ByteArray.size_append]; omega) (by simp only [ByteArray.size_append, e1, e2]; omega)
  refine ⟨y, Ev.succ ?_, hy⟩
  simp only [impl_VersionText.l0, show (i : Int) < (st.length : Int) by omega, show (0 : Int) ≤ (i : Int) by omega, if_true, rdSt, getD_lt _ hlt, dec_eq st[i].f1 hg.2.1 hg.2.2, Option.bind_some, ByteArray.size_append, e1, e2]
  simp (disch := omega) only [if_pos, w64]
  exact ey
theorem text_ev (n p : Int) (m : ByteArray) (st : List S96) (hs : goodS st) (hm : memoOk m = true) (n0 : 1 ≤ n) (n1 : n ≤ 32) (p0 : 0 ≤ p) (p1 : p ≤ n - 1) : ∃ y, Ev (fun k => impl_VersionText.f k n p m st) y ∧ 1 ≤ y.size := by
 have hm2 : m.size ≤ 20 := by
  unfold memoOk at hm
  simp only [Bool.and_eq_true, decide_eq_true_eq] at hm
  exact hm.1
 have hl := goodS_len hs
 have em := implMemo_ev m (by omega)
 rw [hm] at em
 have es := implState_ev st (by omega)
 rw [goodS_ok hs] at es
 have e1 : (⟨#[60]⟩ : ByteArray).size = 1 := rfl
 have d1 := itB_len n (by omega) (by omega)
 have d2 := itB_len p (by omega) (by omega)
 obtain ⟨y, ey, hy⟩ := textL_ev st hs n p m hm2 st.length 0 (by omega) ((itB n ++ (⟨#[60]⟩ : ByteArray)) ++ itB p) (by simp only [ByteArray.size_append, e1]; omega) (by simp only [ByteArray.size_append, e1]; omega)
 refine ⟨y, ?_, hy⟩
 unfold impl_VersionText.f
 have w1 : inR 1 32 n = true := by unfold inR; simp only [Bool.and_eq_true, decide_eq_true_eq]; omega
 have w2 : inR 0 (n - 1) p = true := by unfold inR; simp only [Bool.and_eq_true, decide_eq_true_eq]; omega
 simp only [implIn_eq, w1, Option.bind_some, if_true, w64 (show -9223372036854775808 ≤ n - 1 by omega) (by omega), w2]
 refine Ev.bind em ?_
 simp only [if_true]
 refine Ev.bind es (Ev.succ ?_)
 simp only [impl_VersionText.j0, Bool.not_true, Bool.false_eq_true, if_false, dec_eq n (by omega) (by omega), dec_eq p (by omega) (by omega), Option.bind_some, ByteArray.size_append, e1]
 simp (disch := omega) only [if_pos]
 exact ey
theorem ev_if {α : Type} {c : Prop} [Decidable c] {a b : Nat → Option α} {v : α} (h : c) (e : Ev a v) : Ev (fun k => if c then a k else b k) v := by
 have : (fun k => if c then a k else b k) = a := funext fun k => if_pos h
 rw [this]
 exact e
theorem ev_ifn {α : Type} {c : Prop} [Decidable c] {a b : Nat → Option α} {v : α} (h : ¬ c) (e : Ev b v) : Ev (fun k => if c then a k else b k) v := by
 have : (fun k => if c then a k else b k) = b := funext fun k => if_neg h
 rw [this]
 exact e
theorem commit_ev {l : List S48} (h : histOk l = true) (hl : l.length ≤ 5) {a : List S96} (ha : goodS a) (p : Int) (p0 : 0 ≤ p) (p1 : p ≤ l.length) : Ev (fun k => impl_CommitState.f k l p nextB a) (l ++ [⟨(l.length : Int) + 1, p, nextB, a⟩], 0) := by
 have la := goodS_len ha
 have e1 := implHist_ev l (by omega) (small_of h)
 rw [h] at e1
 have e2 := implMemo_ev nextB (by decide)
 rw [nextB_ok] at e2
 have e3 := implState_ev a (by omega)
 rw [goodS_ok ha] at e3
 have e4 := addI_ev l (by omega) (fun x hx => (small_of h x hx).2) p nextB a (by omega)
 unfold addR at e4
 rw [if_neg (by omega)] at e4
 unfold impl_CommitState.f
 refine Ev.bind e1 ?_
 simp only [if_true]
 refine Ev.bind e2 ?_
 simp only [if_true]
 refine Ev.bind e3 (Ev.succ ?_)
 have w1 : inR 0 (l.length : Int) p = true := by unfold inR; simp only [Bool.and_eq_true, decide_eq_true_eq]; omega
 simp only [impl_CommitState.j0, Bool.not_true, Bool.false_eq_true, if_false, implIn_eq, w1, Option.bind_some, if_true]
 exact Ev.bind e4 (Ev.now _)
theorem code_0 {l : List S48} (h : histOk l = true) (p : Int) (p0 : 1 ≤ p) (p1 : p ≤ l.length) : Ev (fun k => impl_versionsCode.f k l [p]) 0 := by
 have hl := (histOk_facts h).1
 have e := code1_ev l (by omega) (small_of h) p
 rw [if_pos h, if_pos (by unfold inR; simp only [Bool.and_eq_true, decide_eq_true_eq]; omega)] at e
 exact e
theorem code_00 {l : List S48} (h : histOk l = true) (p : Int) (p0 : 1 ≤ p) (p1 : p ≤ l.length) : Ev (fun k => impl_versionsCode.f k l [p, p]) 0 := by
 have hl := (histOk_facts h).1
 have w : inR 1 (l.length : Int) p = true := by unfold inR; simp only [Bool.and_eq_true, decide_eq_true_eq]; omega
 have e := code_ev l (by omega) (small_of h) p p
 rw [if_pos h, w, Bool.and_self, if_pos rfl] at e
 exact e
theorem undo_ev {l : List S48} (h : histOk l = true) (n : Nat) (n0 : 1 ≤ n) (n1 : n ≤ 6) (hn : l.length = n) (p : Int) (hp : (l.getD (n - 1) z48).f1 = p) : Ev (fun k => impl_UndoVersion.f k l (n : Int)) (l ++ [⟨(n : Int) + 1, (n : Int), undoB (n : Int), stV l p⟩], 0) := by
 obtain ⟨_, b0, b1, _, _⟩ := (histOk_facts h).2 (n - 1) (by omega)
 rw [hp] at b0 b1
 have sv := stV_ok h p b0 (by omega)
 have sl : (stV l p).length ≤ 24 := by
  unfold stateOk at sv
  simp only [Bool.and_eq_true, decide_eq_true_eq] at sv
  exact sv.1
 have e4 := addI_ev l (by omega) (fun x hx => (small_of h x hx).2) (n : Int) (undoB (n : Int)) (stV l p) (by omega)
 unfold addR at e4
 rw [if_neg (by omega), hn] at e4
 have d1 := itB_len (n : Int) (by omega) (by omega)
 have er : rd_T48 l ((n : Int) - 1) = l.getD (n - 1) z48 := by
  rw [show (n : Int) - 1 = ((n - 1 : Nat) : Int) by omega]
  exact rdV l (n - 1)
 unfold impl_UndoVersion.f
 refine Ev.bind (code_0 h (n : Int) (by omega) (by omega)) ?_
 simp only [if_true, dec_eq (n : Int) (by omega) (by omega), Option.bind_some]
 simp (disch := omega) only [if_pos, w64, er, hp, stI_eq l (by omega) p b0 (by omega), Option.bind_some]
 exact Ev.bind e4 (Ev.now _)
theorem up_ev {l : List S48} (h : histOk l = true) (n : Nat) (n0 : 1 ≤ n) (hn : l.length = n) (p : Int) (hp : (l.getD (n - 1) z48).f1 = p) : Ev (fun k => impl_AncestorsOf.f k l (n : Int)) (lineL l 33 p, 0) := by
 have hl := (histOk_facts h).1
 have e := lineOf_ev hl (par_of h) 34 (n : Int) (by omega) (by omega) (by omega) [] (by simp)
 rw [List.nil_append] at e
 have e2 : lineL l 34 (n : Int) = (n : Int) :: lineL l 33 p := by
  rw [lineL, if_pos (by omega), show ((n : Int) - 1).toNat = n - 1 by omega, hp]
 rw [e2] at e
 unfold impl_AncestorsOf.f impl_lineOf.f
 refine Ev.bind (code_0 h (n : Int) (by omega) (by omega)) ?_
 simp only [if_true]
 refine Ev.bind e ?_
 simp only [List.length_cons, show (1 : Int) ≤ (((lineL l 33 p).length + 1 : Nat) : Int) by omega, if_true]
 exact Ev.now _
theorem anc_self {l : List S48} (h : histOk l = true) (n : Nat) (n0 : 1 ≤ n) (hn : l.length = n) : Ev (fun k => impl_CommonAncestor.f k l (n : Int) (n : Int)) ((n : Int), 0) := by
 have hl := (histOk_facts h).1
 have e := anc_ev hl (par_of h) (n : Int) (n : Int) (by omega) (by omega) (by omega) (by omega)
 have e2 : ancV l (n : Int) (n : Int) = (n : Int) := by
  unfold ancV
  have e3 : lineL l 34 (n : Int) = (n : Int) :: lineL l 33 (l.getD ((n : Int) - 1).toNat z48).f1 := by
   rw [lineL, if_pos (by omega)]
  rw [e3, List.find?_cons]
  simp
 rw [e2] at e
 unfold impl_CommonAncestor.f
 refine Ev.bind (code_00 h (n : Int) (by omega) (by omega)) ?_
 simp only [if_true]
 exact Ev.bind e (Ev.now _)
theorem walk_ev (next : List S48) (n : Nat) (hn : next.length = n) (n0 : 1 ≤ n) (n1 : n ≤ 6) (up : List Int) (hu : up.length ≤ 40) (h1 : ∀ x ∈ up, 1 ≤ x ∧ x < n) (h2 : up.Pairwise (· > ·)) (y : ByteArray) (hy : Ev (fun k => impl_VersionText.f k (next.getD (n - 1) z48).f0 (next.getD (n - 1) z48).f1 (next.getD (n - 1) z48).f2 (next.getD (n - 1) z48).f3) y) (hy1 : 1 ≤ y.size) : ∀ (m i : Nat), i + m = up.length → Ev (fun k => laws_FnVersions.l0 k next (n : Int) up (i : Int)) true := by
 intro m
 induction m with
 | zero =>
  intro i hi
  refine Ev.succ ?_
  have er : rd_T48 next ((n : Int) - 1) = next.getD (n - 1) z48 := by
   rw [show (n : Int) - 1 = ((n - 1 : Nat) : Int) by omega]
   exact rdV next (n - 1)
  simp only [laws_FnVersions.l0, show ¬ (i : Int) < (up.length : Int) by omega, if_false]
  simp (disch := omega) only [if_pos, w64, er]
  refine Ev.bind hy ?_
  have : y.toList ≠ ([] : List UInt8) := fun e => by
   rw [ByteArray.toList_eq] at e
   have h2 : y.size = ([] : List UInt8).length := by rw [← e]; rfl
   rw [h2] at hy1
   simp at hy1
  rw [show (y.toList != ([] : List UInt8)) = true from bne_iff_ne.2 this]
  exact Ev.now _
 | succ m ih =>
  intro i hi
  have hlt : i < up.length := by omega
  have er : rd up (i : Int) = up[i] := by unfold rd; rw [Int.toNat_natCast, getD_lt _ hlt]
  obtain ⟨q1, q2⟩ := h1 up[i] (List.getElem_mem hlt)
  have nx : Ev (fun k => laws_FnVersions.l0 k next (n : Int) up (wrap64 ((i : Int) + 1))) true := by
   rw [w64 (by omega) (by omega)]
   exact ih (i + 1) (by omega)
  refine Ev.succ ?_
  simp only [laws_FnVersions.l0, show (i : Int) < (up.length : Int) by omega, show (0 : Int) ≤ (i : Int) by omega, if_true, er, show ¬ up[i] < 1 by omega, show ¬ up[i] ≥ (n : Int) by omega, if_false]
  by_cases c : (i : Int) > 0
  ·
   have er2 : rd up ((i : Int) - 1) = up[i - 1] := by
    unfold rd
    rw [show ((i : Int) - 1).toNat = i - 1 by omega, getD_lt _ (by omega)]
   have hp := List.pairwise_iff_getElem.1 h2 (i - 1) i (by omega) hlt (by omega)
   simp only [c, if_true]
   rw [w64 (show -9223372036854775808 ≤ (i : Int) - 1 by omega) (by omega)]
   refine ev_if (by omega) (ev_if (by omega) ?_)
   rw [er2]
   exact ev_ifn (by omega) nx
  ·
   simp only [c, if_false]
   exact nx
theorem j0_eq (k : Nat) (x1 : List Int) (x5 : List S48) (x6 : List S96) (N N2 : Int) (hN : wrap64 ((x5.length : Int) + 1) = N) (hN2 : wrap64 (N + 1) = N2) : laws_FnVersions.j0 (k + 1) x1 x5 x6 false = ((laws_r8At.f x1 0 N).bind fun t409 => ((impl_CommitState.f k x5 t409 (⟨#[110, 101, 120, 116]⟩ : ByteArray) x6).bind fun bt410 => ((impl_UndoVersion.f k bt410.1 N).bind fun bt414 => ((impl_AncestorsOf.f k bt410.1 N).bind fun bt418 => ((impl_HeadsOf.f k bt410.1).bind fun bt422 => ((impl_CommonAncestor.f k bt410.1 N N).bind fun bt426 => (if bt410.2 = 0 then (if (bt410.1.length : Int) = N then (if bt414.2 = 0 then (if (bt414.1.length : Int) = (N2) then (if bt418.2 = 0 then (if bt422.2 = 0 then ((laws_r8Has.f k bt422.1 N).bind fun t428 => (if t428 = true then (if bt426.2 = 0 then (if bt426.1 = N then ((spec_ValidHistory.f k bt414.1).bind fun t429 => (laws_FnVersions.j1 k x5 t409 bt410.1 N bt414.1 bt418.1 (!t429))) else (laws_FnVersions.j1 k x5 t409 bt410.1 N bt414.1 bt418.1 true)) else (laws_FnVersions.j1 k x5 t409 bt410.1 N bt414.1 bt418.1 true)) else (laws_FnVersions.j1 k x5 t409 bt410.1 N bt414.1 bt418.1 true))) else (laws_FnVersions.j1 k x5 t409 bt410.1 N bt414.1 bt418.1 true)) else (laws_FnVersions.j1 k x5 t409 bt410.1 N bt414.1 bt418.1 true)) else (laws_FnVersions.j1 k x5 t409 bt410.1 N bt414.1 bt418.1 true)) else (laws_FnVersions.j1 k x5 t409 bt410.1 N bt414.1 bt418.1 true)) else (laws_FnVersions.j1 k x5 t409 bt410.1 N bt414.1 bt418.1 true)) else (laws_FnVersions.j1 k x5 t409 bt410.1 N bt414.1 bt418.1 true)))))))) := by
 subst hN
 subst hN2
 rfl
theorem j1_eq (k : Nat) (x5 : List S48) (x12 : Int) (x13 : List S48) (x15 : Int) (x16 : List S48) (x18 : List Int) : laws_FnVersions.j1 (k + 1) x5 x12 x13 x15 x16 x18 false = (if x12 > 0 then (if 0 ≤ (wrap64 (x12 - 1)) then (if (wrap64 (x12 - 1)) < (x5.length : Int) then (if 0 ≤ x15 then (if x15 < (x16.length : Int) then ((spec_SameState.f k ((rd_T48 x16 x15).f3) ((rd_T48 x5 (wrap64 (x12 - 1))).f3)).bind fun t436 => (if t436 = true then ((laws_r8Has.f k x18 x12).bind fun t437 => (laws_FnVersions.j2 k x13 x15 x18 ((decide (x12 > 0)) != t437))) else (laws_FnVersions.j2 k x13 x15 x18 true))) else (none)) else (none)) else (none)) else (none)) else (if 0 ≤ x15 then (if x15 < (x16.length : Int) then ((spec_SameState.f k ((rd_T48 x16 x15).f3) (([] : List (S96)))).bind fun t445 => (if t445 = true then ((laws_r8Has.f k x18 x12).bind fun t446 => (laws_FnVersions.j4 k x13 x15 x18 ((decide (x12 > 0)) != t446))) else (laws_FnVersions.j4 k x13 x15 x18 true))) else (none)) else (none))) := rfl
theorem eN_ (n : Nat) (h : n ≤ 100) : wrap64 ((n : Int) + 1) = ((n + 1 : Nat) : Int) := by rw [w64 (by omega) (by omega)]; omega
theorem eI_ (n : Nat) : (n : Int) + 1 = ((n + 1 : Nat) : Int) := by omega
theorem tail_ev {l next undone : List S48} {p N : Int} {up : List Int} {st : List S96} (p0 : 0 ≤ p) (p1 : p ≤ l.length) (hl : l.length ≤ 5) (hN : N = (l.length : Int) + 1) (len2 : undone.length = l.length + 2) (er2 : (rd_T48 undone N).f3 = st) (er3 : p > 0 → (rd_T48 l (p - 1)).f3 = st) (e0 : ¬ p > 0 → st = []) (ss : Ev (fun k => spec_SameState.f k st st) true) (r2 : Ev (fun k => laws_r8Has.f k up p) (decide (p > 0))) (hw : Ev (fun k => laws_FnVersions.l0 k next N up 0) true) : Ev (fun k => laws_FnVersions.j1 k l p next N undone up false) true := by
 refine Ev.step (fun k => j1_eq k l p next N undone up) ?_
 rw [er2]
 have e5 : (decide (p > 0) != decide (p > 0)) = false := bne_self_eq_false _
 by_cases c : p > 0
 ·
  rw [w64 (show -9223372036854775808 ≤ p - 1 by omega) (by omega), er3 c]
  refine ev_if c (ev_if (by omega) (ev_if (by omega) (ev_if (by omega) (ev_if (by rw [len2]; omega) (Ev.bind ss (ev_if rfl (Ev.bind r2 ?_)))))))
  rw [e5]
  refine Ev.succ ?_
  simp only [laws_FnVersions.j2, Bool.false_eq_true, if_false]
  exact hw
 ·
  rw [e0 c] at ss
  rw [e0 c]
  refine ev_ifn c (ev_if (by omega) (ev_if (by rw [len2]; omega) (Ev.bind ss (ev_if rfl (Ev.bind r2 ?_)))))
  rw [e5]
  refine Ev.succ ?_
  simp only [laws_FnVersions.j4, Bool.false_eq_true, if_false]
  exact hw
theorem head_ev {l1 : List Int} {l next undone : List S48} {a : List S96} {p N N2 : Int} {up hs : List Int} (hN : wrap64 ((l.length : Int) + 1) = N) (hN2 : wrap64 (N + 1) = N2) (len : (next.length : Int) = N) (len2 : (undone.length : Int) = N2) (ep : laws_r8At.f l1 0 N = some p) (hc : Ev (fun k => impl_CommitState.f k l p nextB a) (next, 0)) (hu : Ev (fun k => impl_UndoVersion.f k next N) (undone, 0)) (ha2 : Ev (fun k => impl_AncestorsOf.f k next N) (up, 0)) (hh : Ev (fun k => impl_HeadsOf.f k next) (hs, 0)) (hn2 : Ev (fun k => impl_CommonAncestor.f k next N N) (N, 0)) (r1 : Ev (fun k => laws_r8Has.f k hs N) true) (hvu : Ev (fun k => spec_ValidHistory.f k undone) true) (ht : Ev (fun k => laws_FnVersions.j1 k l p next N undone up false) true) : Ev (fun k => laws_FnVersions.j0 k l1 l a false) true := by
 refine Ev.step (fun k => j0_eq k l1 l a N N2 hN hN2) ?_
 rw [ep]
 refine Ev.bind (Ev.now p) (Ev.bind hc (Ev.bind hu (Ev.bind ha2 (Ev.bind hh (Ev.bind hn2 ?_)))))
 refine ev_if rfl (ev_if len (ev_if rfl (ev_if len2 (ev_if rfl (ev_if rfl (Ev.bind r1 (ev_if rfl (ev_if rfl (ev_if rfl (Ev.bind hvu ?_))))))))))
 exact ht
theorem hist_part {l1 : List Int} (h1 : SrcOk l1) {l : List S48} (hg : goodH l) (hl : l.length ≤ 5) {a : List S96} (ha : goodS a) : Ev (fun k => laws_FnVersions.j0 k l1 l a false) true := by
 have hk := goodH_ok hg hl
 obtain ⟨p, ep, p0, p1⟩ := at_rng h1 0 ((l.length : Int) + 1) (by omega) (by omega) (by omega)
 have pl : p ≤ l.length := by omega
 have pn : p > 0 → (p - 1).toNat < l.length := by omega
 have hc := commit_ev hk hl ha p p0 (by omega)
 have hk2 := histOk_snoc hk (by omega) p nextB a p0 (by omega) nextB_ok (goodS_ok ha)
 generalize hnx : l ++ [(⟨(l.length : Int) + 1, p, nextB, a⟩ : S48)] = next at hc hk2
 have len : next.length = l.length + 1 := by rw [← hnx, List.length_append, List.length_singleton]
 have last : next.getD (l.length + 1 - 1) z48 = ⟨(l.length : Int) + 1, p, nextB, a⟩ := by
  rw [← hnx, Nat.add_sub_cancel, List.getD_eq_getElem?_getD, List.getElem?_append_right (Nat.le_refl _), Nat.sub_self]; rfl
 have lp : (next.getD (l.length + 1 - 1) z48).f1 = p := by rw [last]
 have hu := undo_ev hk2 (l.length + 1) (by omega) (by omega) len p lp
 have hb : stateOk (stV next p) = true := stV_ok hk2 p p0 (by omega)
 have hk3 := histOk_snoc hk2 (by omega) ((l.length + 1 : Nat) : Int) (undoB ((l.length + 1 : Nat) : Int)) (stV next p) (by omega) (by omega) (undoB_ok _ (by omega) (by omega)) hb
 rw [len] at hk3
 generalize hnu : next ++ [(⟨((l.length + 1 : Nat) : Int) + 1, ((l.length + 1 : Nat) : Int), undoB ((l.length + 1 : Nat) : Int), stV next p⟩ : S48)] = undone at hu hk3
 have len2 : undone.length = l.length + 2 := by rw [← hnu, List.length_append, List.length_singleton, len]
 have last2 : undone.getD (l.length + 1) z48 = ⟨((l.length + 1 : Nat) : Int) + 1, ((l.length + 1 : Nat) : Int), undoB ((l.length + 1 : Nat) : Int), stV next p⟩ := by
  rw [← hnu, List.getD_eq_getElem?_getD, ← len, List.getElem?_append_right (Nat.le_refl _), Nat.sub_self]; rfl
 have ha2 := up_ev hk2 (l.length + 1) (by omega) len p lp
 have hh := heads_ev hk2
 have hn2 := anc_self hk2 (l.length + 1) (by omega) len
 have hin : ((l.length + 1 : Nat) : Int) ∈ impl_HeadsOf.l0 next next [] := by
  have hv : ∀ x ∈ next, x.f1 ≠ (⟨(l.length : Int) + 1, p, nextB, a⟩ : S48).f0 := fun x hx => by
   obtain ⟨i, hi, rfl⟩ := List.getElem_of_mem hx
   have := (histOk_facts hk2).2 i hi
   rw [getD_lt _ hi] at this
   show next[i].f1 ≠ (l.length : Int) + 1
   omega
  have := heads_in next _ hv next [] (by rw [← hnx]; exact List.mem_append_right _ (List.mem_singleton.2 rfl))
  exact this
 have hlen := heads_len next next []
 have r1 := r8Has_ev (impl_HeadsOf.l0 next next []) ((l.length + 1 : Nat) : Int) (by rw [len, List.length_nil] at hlen; omega)
 rw [decide_eq_true hin] at r1
 have ul := lineL_len next 33 p
 have um := lineL_mem (par_of hk2) 33 p (by omega)
 have us := lineL_strict (par_of hk2) 33 p (by omega)
 have r2 := r8Has_ev (lineL next 33 p) p (by omega)
 have epu : decide (p ∈ lineL next 33 p) = decide (p > 0) := by
  rw [decide_eq_decide]
  refine ⟨fun h => by have := um p h; omega, fun h => ?_⟩
  rw [lineL, if_pos h]
  exact List.mem_cons_self ..
 rw [epu] at r2
 have hvu : Ev (fun k => spec_ValidHistory.f k undone) true := by
  have := specHist_ev undone (by omega) (small_of hk3)
  rw [hk3] at this
  unfold spec_ValidHistory.f
  exact Ev.bind this (Ev.now _)
 obtain ⟨y, ey, hy⟩ := text_ev ((l.length : Int) + 1) p nextB a ha nextB_ok (by omega) (by omega) p0 (by omega)
 have hw := walk_ev next (l.length + 1) len (by omega) (by omega) (lineL next 33 p) (by omega) (fun x hx => by have := um x hx; omega) us y (by rw [last]; exact ey) hy (lineL next 33 p).length 0 (by omega)
 have sv : (stV next p).length ≤ 24 := by
  unfold stateOk at hb
  simp only [Bool.and_eq_true, decide_eq_true_eq] at hb
  exact hb.1
 have ss := sameS_ev (stV next p) (by omega)
 rw [eI_ l.length] at ep
 have er2 : rd_T48 undone ((l.length + 1 : Nat) : Int) = ⟨((l.length + 1 : Nat) : Int) + 1, ((l.length + 1 : Nat) : Int), undoB ((l.length + 1 : Nat) : Int), stV next p⟩ := (rdV undone (l.length + 1)).trans last2
 have er3 : p > 0 → (rd_T48 l (p - 1)).f3 = stV next p := fun c => by
  unfold stV
  rw [if_neg (Int.ne_of_gt c), ← hnx]
  unfold rd_T48
  rw [List.getD_eq_getElem?_getD, List.getD_eq_getElem?_getD, List.getElem?_append_left (pn c)]
 have e0 : ¬ p > 0 → stV next p = [] := fun c => by
  unfold stV
  rw [if_pos (Int.le_antisymm (Int.not_lt.1 c) p0)]
 refine head_ev (eN_ l.length (Nat.le_trans hl (by decide))) (eN_ (l.length + 1) (Nat.le_trans (Nat.succ_le_succ hl) (by decide))) (by rw [len]) (by rw [len2]) ep hc hu ha2 hh hn2 r1 hvu ?_
 exact tail_ev p0 pl hl (eI_ l.length).symm len2 (by rw [er2]) er3 e0 ss r2 hw
theorem FnVersions : laws_FnVersions.Pure := by
 intro l0 l1 _ _ hw0 _ _ hw1
 have main : Ev (fun k => laws_FnVersions.f k l0 l1) true := by
  unfold laws_FnVersions.f laws_r8Long.f
  by_cases c0 : (l0.length : Int) > 1048576
  ·
   simp only [c0, if_true, Option.bind_some]
   exact Ev.now _
  ·
   by_cases c1 : (l1.length : Int) > 1048576
   ·
    simp only [c0, if_false, c1, decide_true, Option.bind_some, if_true]
    exact Ev.now _
   ·
    simp only [c0, if_false, c1, decide_false, Option.bind_some, Bool.false_eq_true]
    have s0 := src_of (by omega) hw0
    have s1 := src_of (by omega) hw1
    obtain ⟨l, s, t, e, hg, hl⟩ := drawH_ev s0 0 0 (by omega) (by omega)
    obtain ⟨a, sb, tb, eb, ga, _⟩ := drawState_ev s1 0 0 (by omega) (by omega)
    obtain ⟨b, sx, tx, ex, gb, _⟩ := changed_ev s0 a ga 0 0 (by omega) (by omega)
    have e0 : Ev (fun k => spec_R8History.f k l0) l := by
     unfold spec_R8History.f spec_l00From.f
     simp only [Option.bind_some]
     exact Ev.bind e (Ev.now _)
    have e1 : Ev (fun k => spec_R8State.f k l1) a := by
     unfold spec_R8State.f spec_l00From.f
     simp only [Option.bind_some]
     exact Ev.bind eb (Ev.now _)
    have e2 : Ev (fun k => spec_R8Changed.f k l0 a) b := by
     unfold spec_R8Changed.f spec_l00From.f
     simp only [Option.bind_some]
     exact Ev.bind ex (Ev.now _)
    refine Ev.bind e0 (Ev.bind e1 (Ev.bind e2 (Ev.bind (diff_ev ga gb) (Ev.bind (applyD_ev ga gb) ?_))))
    simp only [if_true]
    refine Ev.bind (sameS_ev b (by have := goodS_len gb; omega)) ?_
    simp only [Bool.not_true]
    exact hist_part s1 hg hl ga
 obtain ⟨K, hK⟩ := main
 exact ⟨K, hK K (Nat.le_refl _)⟩
end Go.Proofs.YtgkmfgkkmahmoaaDoor.Pure
