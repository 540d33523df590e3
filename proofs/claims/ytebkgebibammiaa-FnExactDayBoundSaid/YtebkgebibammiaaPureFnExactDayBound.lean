/- The program's DayBound returns what the reference's returns, for all arguments. No condition beyond the statement's own. -/
import Derived.Test.YtebkgebibammiaaPFnExactDayBoundx0
import Derived.Test.YtebkgebibammiaaPFnExactDayBoundx1
import Derived.Test.YtebkgebibammiaaPFnExactDayBoundx2
import Derived.Test.YtebkgebibammiaaPFnExactDayBoundx3
import Derived.Test.YtebkgebibammiaaPFnExactDayBoundx4
import Derived.Test.YtebkgebibammiaaPFnExactDayBoundx5
import Derived.Test.YtebkgebibammiaaPFnExactDayBoundx6
import Derived.Test.YtebkgebibammiaaPFnExactDayBoundx7
import Derived.Test.YtebkgebibammiaaPFnExactDayBoundx8
namespace Go.Proofs.Ytebkgebibammiaa.Pure
open Go.RowKit Go.Proofs.Ytebkgebibammiaa.PFnExactDayBound Go.Proofs.YtebkgebibammiaaW.PrintWords Go.Proofs.YtebkgebibammiaaW.PrintLast Go.Proofs.YtebkgebibammiaaW.PrintMore
set_option linter.unusedVariables false
set_option linter.unusedSimpArgs false
def okUnit1 (x : S77) : Prop := x.f0.size ≤ 1048576 ∧ (-9223372036854775808 ≤ x.f1 ∧ x.f1 ≤ 9223372036854775807) ∧ (-9223372036854775808 ≤ x.f2 ∧ x.f2 ≤ 9223372036854775807) ∧ (-9223372036854775808 ≤ x.f3 ∧ x.f3 ≤ 9223372036854775807) ∧ (-9223372036854775808 ≤ x.f4 ∧ x.f4 ≤ 9223372036854775807) ∧ (-9223372036854775808 ≤ x.f5 ∧ x.f5 ≤ 9223372036854775807) ∧ (-9223372036854775808 ≤ x.f6 ∧ x.f6 ≤ 9223372036854775807)
theorem w64 {x : Int} (h0 : -9223372036854775808 ≤ x) (h1 : x ≤ 9223372036854775807) : wrap64 x = x := by unfold wrap64; omega
theorem rd_nat (l : List Int) (i : Nat) : rd l (i : Int) = l.getD i 0 := by unfold rd; rw [Int.toNat_natCast]
theorem getD_mem {α : Type} {l : List α} {i : Nat} (d : α) (h : i < l.length) : l.getD i d ∈ l := by
 rw [List.getD_eq_getElem?_getD, List.getElem?_eq_getElem h]; exact List.getElem_mem _
theorem getD_lt {α : Type} {l : List α} {i : Nat} (d : α) (h : i < l.length) : l.getD i d = l[i] := by
 rw [List.getD_eq_getElem?_getD, List.getElem?_eq_getElem h]; rfl
theorem ev_copy {α : Type} (L : Nat → List α → List α → Int → Option (List α)) (xs : List α) (d d' : α)
  (step : ∀ ys i, i < xs.length → ys.length = xs.length → ∀ r, Ev (fun k => L k xs (ys.set i (xs.getD i d)) ((i + 1 : Nat) : Int)) r → Ev (fun k => L k xs ys (i : Int)) r)
  (fin : ∀ ys, Ev (fun k => L k xs ys (xs.length : Int)) ys) : Ev (fun k => L k xs (List.replicate xs.length d') 0) xs := by
 have key : ∀ (m i : Nat) (ys : List α), i + m = xs.length → ys.length = xs.length → (∀ j, j < i → ys[j]? = xs[j]?) → Ev (fun k => L k xs ys (i : Int)) xs := by
  intro m
  induction m with
  | zero =>
   intro i ys hi hl hj
   have e : ys = xs := List.ext_getElem? (fun j => by
    by_cases h : j < xs.length
    ·
     exact hj j (by omega)
    ·
     rw [List.getElem?_eq_none (by omega), List.getElem?_eq_none (by omega)])
   have : i = xs.length := by omega
   subst this
   rw [e]
   exact fin xs
  | succ m ih =>
   intro i ys hi hl hj
   refine step ys i (by omega) hl xs (ih (i + 1) _ (by omega) (by rw [List.length_set]; exact hl) (fun j hjj => ?_))
   by_cases h : j = i
   ·
    subst h
    rw [List.getElem?_set_self (by omega), getD_lt d (by omega), List.getElem?_eq_getElem (by omega)]
   ·
    rw [List.getElem?_set_ne (by omega)]
    exact hj j (by omega)
 exact key xs.length 0 _ (by omega) (List.length_replicate ..) (fun j hj => absurd hj (Nat.not_lt_zero _))
theorem ev_eq {α : Type} (L : Nat → List α → List α → Int → Option Bool) (xs : List α) 
  (step : ∀ i, i < xs.length → Ev (fun k => L k xs xs ((i + 1 : Nat) : Int)) true → Ev (fun k => L k xs xs (i : Int)) true)
  (fin : Ev (fun k => L k xs xs (xs.length : Int)) true) : Ev (fun k => L k xs xs 0) true := by
 have key : ∀ (m i : Nat), i + m = xs.length → Ev (fun k => L k xs xs (i : Int)) true := by
  intro m
  induction m with
  | zero =>
   intro i hi
   have : i = xs.length := by omega
   subst this
   exact fin
  | succ m ih => intro i hi; exact step i (by omega) (ih (i + 1) (by omega))
 exact key xs.length 0 (by omega)
theorem ev_all {α ρ : Type} (L : Nat → Int → Option ρ) (xs : List α) (d : α) (p : α → Bool) (b c : ρ)
  (step : ∀ i, i < xs.length → p (xs.getD i d) = true → ∀ r, Ev (fun k => L k ((i + 1 : Nat) : Int)) r → Ev (fun k => L k (i : Int)) r)
  (bad : ∀ i, i < xs.length → p (xs.getD i d) = false → Ev (fun k => L k (i : Int)) b)
  (fin : Ev (fun k => L k (xs.length : Int)) c) : Ev (fun k => L k 0) (if xs.all p = true then c else b) := by
 have key : ∀ (m i : Nat), i + m = xs.length → Ev (fun k => L k (i : Int)) (if (xs.drop i).all p = true then c else b) := by
  intro m
  induction m with
  | zero =>
   intro i hi
   have : i = xs.length := by omega
   subst this
   rw [List.drop_length]
   exact fin
  | succ m ih =>
   intro i hi
   have hlt : i < xs.length := by omega
   rw [List.drop_eq_getElem_cons hlt, List.all_cons, ← getD_lt d hlt]
   cases hp : p (xs.getD i d) with
   | true => rw [Bool.true_and]; exact step i hlt hp _ (ih (i + 1) (by omega))
   | false => rw [Bool.false_and, if_neg (by decide)]; exact bad i hlt hp
 exact key xs.length 0 (by omega)
theorem ev_sz {α : Type} (L : Nat → Int → Int → Option Int) (xs : List α) (d : α) (B : α → Prop)
  (step : ∀ i a, i < xs.length → 0 ≤ a → a ≤ 1048576 → Ev (fun k => L k a (i : Int)) (-1) ∨ (∃ a', 0 ≤ a' ∧ a' ≤ a ∧ B (xs.getD i d) ∧ ∀ r, Ev (fun k => L k a' ((i + 1 : Nat) : Int)) r → Ev (fun k => L k a (i : Int)) r))
  (fin : ∀ a, Ev (fun k => L k a (xs.length : Int)) a) : ∀ a, 0 ≤ a → a ≤ 1048576 → ∃ r, Ev (fun k => L k a 0) r ∧ (r < 0 ∨ (0 ≤ r ∧ r ≤ a ∧ ∀ x ∈ xs, B x)) := by
 have key : ∀ (m i : Nat) (a : Int), i + m = xs.length → 0 ≤ a → a ≤ 1048576 → ∃ r, Ev (fun k => L k a (i : Int)) r ∧ (r < 0 ∨ (0 ≤ r ∧ r ≤ a ∧ ∀ j, i ≤ j → j < xs.length → B (xs.getD j d))) := by
  intro m
  induction m with
  | zero =>
   intro i a hi h0 h1
   have : i = xs.length := by omega
   subst this
   exact ⟨a, fin a, .inr ⟨h0, Int.le_refl _, fun j h2 h3 => by omega⟩⟩
  | succ m ih =>
   intro i a hi h0 h1
   rcases step i a (by omega) h0 h1 with h | ⟨a', h2, h3, hB, h⟩
   ·
    exact ⟨-1, h, .inl (by decide)⟩
   ·
    obtain ⟨r, hr, hq⟩ := ih (i + 1) a' (by omega) h2 (by omega)
    refine ⟨r, h r hr, ?_⟩
    rcases hq with hq | ⟨q0, q1, q2⟩
    ·
     exact .inl hq
    ·
     refine .inr ⟨q0, by omega, fun j h4 h5 => ?_⟩
     by_cases e : j = i
     ·
      subst e; exact hB
     ·
      exact q2 j (by omega) h5
 intro a h0 h1
 obtain ⟨r, hr, hq⟩ := key xs.length 0 a (by omega) h0 h1
 refine ⟨r, hr, hq.imp_right fun ⟨q0, q1, q2⟩ => ⟨q0, q1, fun x hx => ?_⟩⟩
 obtain ⟨j, hj, rfl⟩ := List.mem_iff_getElem.1 hx
 rw [← getD_lt d hj]
 exact q2 j (Nat.zero_le _) hj
theorem szUnit_eq (x : S73) (a : Int) (w0 : x.f0.size ≤ maxLen) (h0 : 0 ≤ a) (h1 : a ≤ 1048576) : ∃ r, laws_szUnit.f (x.f0) (x.f1) (x.f2) (x.f3) (x.f4) (x.f5) (x.f6) a = some r ∧ (r < 0 ∨ (0 ≤ r ∧ r ≤ a ∧ x.f0.size ≤ 1048576)) := by
 unfold maxLen at w0
 unfold laws_szUnit.f wrap64
 repeat' split
 all_goals exact ⟨_, rfl, by omega⟩
def okUnitS (l : List S77) : Prop := l.length ≤ 1048576 ∧ ∀ x ∈ l, okUnit1 x
theorem Ev.succ {α : Type} {g : Nat → Option α} {r : α} (h : Ev (fun k => g (k + 1)) r) : Ev g r := Ev.step (fun _ => rfl) h
theorem Ev.now' {α : Type} {a b : α} (h : a = b) : Ev (fun _ => some a) b := h ▸ Ev.now a
theorem lit_i64 {x : Int} (h : (Lit.int .i64 x).wf = true) : -9223372036854775808 ≤ x ∧ x ≤ 9223372036854775807 := by
 have h2 : (decide (IntKind.i64.min ≤ x) && decide (x ≤ IntKind.i64.max)) = true := h
 simp only [Bool.and_eq_true, decide_eq_true_eq] at h2
 exact h2
def cvUnit (x : S73) : S77 := ⟨x.f0, x.f1, x.f2, x.f3, x.f4, x.f5, x.f6⟩
def cvUnitS (l : List S73) : List S77 := l.map cvUnit
theorem szUnitS_evo (l : List S73) (a : Int) (hw : l.length ≤ maxLen ∧ ∀ x0 ∈ l, x0.f0.size ≤ maxLen ∧ (Lit.int .i64 x0.f1).wf = true ∧ (Lit.int .i64 x0.f2).wf = true ∧ (Lit.int .i64 x0.f3).wf = true ∧ (Lit.int .i64 x0.f4).wf = true ∧ (Lit.int .i64 x0.f5).wf = true ∧ (Lit.int .i64 x0.f6).wf = true) (h0 : 0 ≤ a) (h1 : a ≤ 1048576) :
  ∃ r, Ev (fun k => laws_szUnitS.f k l a) r ∧ (r < 0 ∨ (0 ≤ r ∧ r ≤ a ∧ okUnitS (cvUnitS l))) := by
 obtain ⟨hl, hw⟩ := hw
 unfold maxLen at hl
 unfold laws_szUnitS.f
 rw [w64 (by omega) (by omega)]
 by_cases h : a - l.length < 0
 ·
  simp only [h, if_true]
  exact ⟨-1, Ev.now _, .inl (by decide)⟩
 ·
  simp only [h, if_false]
  obtain ⟨r, hr, hq⟩ := ev_sz (fun k a i => laws_szUnitS.l0 k l a i) l z73 (fun x => x.f0.size ≤ 1048576) (fun i a hi h0 h1 => by
   have hx := hw _ (getD_mem z73 hi)
   obtain ⟨r, hr, hq⟩ := szUnit_eq (l.getD i z73) a (hx.1) h0 h1
   have e : ∀ k, laws_szUnitS.l0 (k + 1) l a i = if r < 0 then some (-1) else laws_szUnitS.l0 k l r ((i + 1 : Nat) : Int) := fun k => by
    simp only [laws_szUnitS.l0]
    rw [if_pos (by omega), if_pos (by omega)]
    unfold rd_T73
    rw [Int.toNat_natCast, hr]
    simp only [Option.bind_some]
    rw [w64 (by omega) (by omega)]
    rfl
   rcases hq with hq | ⟨q0, q1, q2⟩
   ·
    exact .inl (Ev.step (f := fun _ => some (-1)) (fun k => by rw [e, if_pos hq]) (Ev.now _))
   ·
    exact .inr ⟨r, q0, q1, q2, fun s hs => Ev.step (fun k => by rw [e, if_neg (by omega)]) hs⟩) (fun a => Ev.step (f := fun _ => some a) (fun k => by simp only [laws_szUnitS.l0]; rw [if_neg (by omega)]) (Ev.now _)) (a - l.length) (by omega) (by omega)
  refine ⟨r, hr, hq.imp_right fun ⟨q0, q1, q2⟩ => ⟨q0, by omega, by simp only [cvUnitS, List.length_map]; omega, fun x hx => ?_⟩⟩
  obtain ⟨y, hy, rfl⟩ := List.mem_map.1 hx
  have hs := q2 y hy
  have hw := hw y hy
  exact ⟨hs, lit_i64 (hw.2.1), lit_i64 (hw.2.2.1), lit_i64 (hw.2.2.2.1), lit_i64 (hw.2.2.2.2.1), lit_i64 (hw.2.2.2.2.2.1), lit_i64 (hw.2.2.2.2.2.2)⟩
theorem toUnit_eq (x : S73) : laws_toUnit.f (x.f0) (x.f1) (x.f2) (x.f3) (x.f4) (x.f5) (x.f6) = some (x.f0, x.f1, x.f2, x.f3, x.f4, x.f5, x.f6) := by
 unfold laws_toUnit.f
 rfl
theorem ev_fill {β ρ : Type} (L : Nat → List β → Int → Option ρ) (base : List β) (d : β) (f : Nat → β) (r : ρ)
  (step : ∀ i acc, i < base.length → acc.length = base.length → acc.getD i d = base.getD i d → Ev (fun k => L k (acc.set i (f i)) ((i + 1 : Nat) : Int)) r → Ev (fun k => L k acc (i : Int)) r)
  (fin : Ev (fun k => L k ((List.range base.length).map f) (base.length : Int)) r) : Ev (fun k => L k base 0) r := by
 have key : ∀ (m i : Nat), i + m = base.length → Ev (fun k => L k ((List.range i).map f ++ base.drop i) (i : Int)) r := by
  intro m
  induction m with
  | zero =>
   intro i hi
   have : i = base.length := by omega
   subst this
   rw [List.drop_length, List.append_nil]
   exact fin
  | succ m ih =>
   intro i hi
   have hlt : i < base.length := by omega
   refine step i _ hlt (by simp; omega) ?_ ?_
   ·
    rw [List.getD_eq_getElem?_getD, List.getD_eq_getElem?_getD, List.getElem?_append_right (by simp)]
    simp
   ·
    have := ih (i + 1) (by omega)
    rw [List.range_succ, List.map_append, List.append_assoc] at this
    have e : ((List.range i).map f ++ base.drop i).set i (f i) = (List.range i).map f ++ ([i].map f ++ base.drop (i + 1)) := by
     rw [List.set_append_right _ _ (by simp), List.drop_eq_getElem_cons hlt, List.length_map, List.length_range, Nat.sub_self, List.set_cons_zero]
     rfl
    rw [e]
    exact this
 exact key base.length 0 (by omega)
theorem ev_cmap {α β : Type} (L : Nat → List β → Int → Option (List β)) (xs : List α) (d : α) (d' : β) (g : α → β)
  (step : ∀ (ys : List β) (i : Nat), i < xs.length → ys.length = xs.length → ∀ r, Ev (fun k => L k (ys.set i (g (xs.getD i d))) ((i + 1 : Nat) : Int)) r → Ev (fun k => L k ys (i : Int)) r)
  (fin : ∀ ys, Ev (fun k => L k ys (xs.length : Int)) ys) : Ev (fun k => L k (List.replicate xs.length d') 0) (xs.map g) := by
 have e : xs.map g = (List.range xs.length).map (fun i => g (xs.getD i d)) := by
  refine List.ext_getElem (by simp) fun i h1 h2 => ?_
  rw [List.getElem_map, List.getElem_map, List.getElem_range, getD_lt d (by simpa using h1)]
 have key := ev_fill L (List.replicate xs.length d') d' (fun i => g (xs.getD i d)) (xs.map g) (fun i acc hi hl _ hs => ?_) ?_
 ·
  exact key
 ·
  rw [List.length_replicate] at hi hl
  exact step acc i hi hl _ hs
 ·
  rw [List.length_replicate, ← e]
  exact fin _
theorem toUnitS_evo (l : List S73) (h : okUnitS (cvUnitS l)) : Ev (fun k => laws_toUnitS.f k l) (cvUnitS l) := by
 have hl : l.length ≤ 1048576 := by have := h.1; simpa [cvUnitS] using this
 refine Ev.congr (f := fun k => laws_toUnitS.l0 k l (List.replicate l.length z77) 0) (fun k => ?_) ?_
 ·
  unfold laws_toUnitS.f
  rw [if_pos (by omega), if_pos (by omega), Int.toNat_natCast]
 ·
  refine ev_cmap (fun k ys i => laws_toUnitS.l0 k l ys i) l z73 z77 cvUnit (fun ys i hi hl r hr => ?_) (fun ys => ?_)
  ·
   refine Ev.step (fun k => ?_) hr
   simp only [laws_toUnitS.l0]
   rw [if_pos (by omega), if_pos (by omega), toUnit_eq]
   simp only [Option.bind_some]
   rw [if_pos (by omega), w64 (by omega) (by omega), Int.toNat_natCast]
   unfold rd_T73
   rw [Int.toNat_natCast]
   rfl
  ·
   refine Ev.step (f := fun _ => some ys) (fun k => ?_) (Ev.now _)
   simp only [laws_toUnitS.l0]
   rw [if_neg (by omega)]
theorem eqUnit_eq (x : S77) : laws_eqUnit.f (x.f0) (x.f1) (x.f2) (x.f3) (x.f4) (x.f5) (x.f6) (x.f0) (x.f1) (x.f2) (x.f3) (x.f4) (x.f5) (x.f6) = some true := by
 unfold laws_eqUnit.f
 simp
theorem eqUnitS_evo (l : List S77) (h : okUnitS l) : Ev (fun k => laws_eqUnitS.f k l l) true := by
 have h := h.1
 refine Ev.congr (f := fun k => laws_eqUnitS.l0 k l l 0) (fun k => ?_) ?_
 ·
  unfold laws_eqUnitS.f
  rw [if_pos rfl]
 ·
  refine ev_eq laws_eqUnitS.l0 l (fun i hi hr => ?_) ?_
  ·
   refine Ev.step (fun k => ?_) hr
   simp only [laws_eqUnitS.l0]
   rw [if_pos (by omega), if_pos (by omega), if_pos (by omega), eqUnit_eq]
   simp only [Option.bind_some, if_true]
   rw [w64 (by omega) (by omega)]
   rfl
  ·
   refine Ev.step (f := fun _ => some true) (fun k => ?_) (Ev.now _)
   simp only [laws_eqUnitS.l0]
   rw [if_neg (by omega)]
theorem toInt64S_ev (l : List Int) (h : l.length ≤ 35184372088832) : Ev (fun k => laws_toInt64S.f k l) l := by
 refine Ev.congr (f := fun k => laws_toInt64S.l0 k l (List.replicate l.length 0) 0) (fun k => ?_) ?_
 ·
  unfold laws_toInt64S.f
  rw [if_pos (by omega), if_pos (by omega), Int.toNat_natCast]
 ·
  refine ev_copy laws_toInt64S.l0 l 0 0 (fun ys i hi hl r hr => ?_) (fun ys => ?_)
  ·
   refine Ev.step (fun k => ?_) hr
   simp only [laws_toInt64S.l0]
   rw [if_pos (by omega), if_pos (by omega), if_pos (by omega), w64 (by omega) (by omega), rd_nat, Int.toNat_natCast]
   rfl
  ·
   refine Ev.step (f := fun _ => some ys) (fun k => ?_) (Ev.now _)
   simp only [laws_toInt64S.l0]
   rw [if_neg (by omega)]
def okInt64S (l : List Int) : Prop := l.length ≤ 1048576
theorem toInt64S_evo (l : List Int) (h : okInt64S l) : Ev (fun k => laws_toInt64S.f k l) l := toInt64S_ev l (by unfold okInt64S at h; omega)
theorem eqInt64S_ev (l : List Int) (h : l.length ≤ 9223372036854775806) : Ev (fun k => laws_eqInt64S.f k l l) true := by
 refine Ev.congr (f := fun k => laws_eqInt64S.l0 k l l 0) (fun k => ?_) ?_
 ·
  unfold laws_eqInt64S.f
  rw [if_pos rfl]
 ·
  refine ev_eq laws_eqInt64S.l0 l (fun i hi hr => ?_) ?_
  ·
   refine Ev.step (fun k => ?_) hr
   simp only [laws_eqInt64S.l0]
   rw [if_pos (by omega), if_pos (by omega), if_pos (by omega), if_pos trivial, w64 (by omega) (by omega)]
   rfl
  ·
   refine Ev.step (f := fun _ => some true) (fun k => ?_) (Ev.now _)
   simp only [laws_eqInt64S.l0]
   rw [if_neg (by omega)]
theorem eqInt64S_evo (l : List Int) (h : okInt64S l) : Ev (fun k => laws_eqInt64S.f k l l) true := eqInt64S_ev l (by unfold okInt64S at h; omega)
def smallC (c : Int) : Bool := decide (97 ≤ c) && decide (c ≤ 122)
def digitC (c : Int) : Bool := decide (48 ≤ c) && decide (c ≤ 57)
def nameC (c : Int) : Bool := smallC c || digitC c
def nameOk (b : ByteArray) : Bool := decide (1 ≤ b.size) && (decide (b.size ≤ 10) && (smallC (bt b 0) && (List.range b.size).all fun i => nameC (bt b i)))
def zU : S77 := z77
def rdU (l : List S77) (i : Nat) : S77 := l.getD i zU
theorem rdU_eq (l : List S77) (i : Nat) : rd_T77 l (i : Int) = rdU l i := by
 unfold rd_T77 rdU zU
 rw [Int.toNat_natCast]
def unitOk (x : S77) : Bool := nameOk x.f0 && unitR x
def okU (l : List S77) (i : Nat) : Bool := unitOk (rdU l i) && (i == 0 || Op.bytesLess (rdU l (i - 1)).f0.toList (rdU l i).f0.toList)
def unitsOk (l : List S77) : Bool := inB 1 4 (l.length : Int) && (List.range l.length).all (okU l)
theorem unitsOk_facts {l : List S77} (h : unitsOk l = true) : (1 ≤ l.length ∧ l.length ≤ 4) ∧ ∀ i, i < l.length → unitR (rdU l i) = true := by
 unfold unitsOk inB at h
 simp only [Bool.and_eq_true, decide_eq_true_eq, List.all_eq_true] at h
 refine ⟨by omega, fun i hi => ?_⟩
 have h2 := h.2 i (by simpa using hi)
 unfold okU unitOk at h2
 simp only [Bool.and_eq_true] at h2
 exact h2.1.2
theorem unitR_facts {x : S77} (h : unitR x = true) : (0 ≤ x.f1 ∧ x.f1 ≤ 100000) ∧ (x.f1 ≤ x.f2 ∧ 1 ≤ x.f2 ∧ x.f2 ≤ 100000) ∧ (0 ≤ x.f3 ∧ x.f3 ≤ 100000) ∧ (0 ≤ x.f4 ∧ x.f4 ≤ 100000000) ∧ (1 ≤ x.f5 ∧ x.f5 ≤ 3) ∧ (1 ≤ x.f6 ∧ x.f6 ≤ 3) := by
 unfold unitR inU mxU at h
 simp only [Bool.and_eq_true, decide_eq_true_eq] at h
 obtain ⟨h1, h2, h3, h4, h5, h6⟩ := h
 refine ⟨h1, ?_, h3, h4, h5, h6⟩
 split at h2 <;> omega
theorem getD_range {n i : Nat} (h : i < n) : (List.range n).getD i 0 = i := by
 rw [getD_lt 0 (by simpa using h), List.getElem_range]
theorem specSmall_eq (c : Int) : spec_l01Small.f c = some (smallC c) := by
 unfold spec_l01Small.f smallC
 by_cases h : c ≥ 97
 ·
  rw [if_pos h, decide_eq_true (show 97 ≤ c from h)]; rfl
 ·
  rw [if_neg h, decide_eq_false (show ¬ 97 ≤ c from h)]; rfl
theorem specDigit_eq (c : Int) : spec_l01Digit.f c = some (digitC c) := by
 unfold spec_l01Digit.f digitC
 by_cases h : c ≥ 48
 ·
  rw [if_pos h, decide_eq_true (show 48 ≤ c from h)]; rfl
 ·
  rw [if_neg h, decide_eq_false (show ¬ 48 ≤ c from h)]; rfl
theorem specName_ev (b : ByteArray) : Ev (fun k => spec_l01Name.f k b) (nameOk b) := by
 unfold spec_l01Name.f nameOk
 have hz : b.toList = ([] : List UInt8) ↔ b.size = 0 := by
  rw [ByteArray.toList_eq, show b.size = b.data.toList.length from rfl]
  exact List.length_eq_zero_iff.symm
 by_cases h1 : b.size < 1
 ·
  rw [decide_eq_false (by omega), Bool.false_and]
  simp only [show b.toList = ([] : List UInt8) from hz.2 (by omega), if_true]
  exact Ev.step (f := fun _ => some false) (fun k => by simp [spec_l01Name.j0]) (Ev.now _)
 ·
  rw [decide_eq_true (show 1 ≤ b.size by omega), Bool.true_and]
  simp only [show ¬ b.toList = ([] : List UInt8) from fun e => by have := hz.1 e; omega, if_false]
  by_cases h10 : b.size > 10
  ·
   rw [decide_eq_false (show ¬ b.size ≤ 10 by omega), Bool.false_and]
   simp only [show (b.size : Int) > 10 by omega, if_true]
   exact Ev.step (f := fun _ => some false) (fun k => by simp [spec_l01Name.j0]) (Ev.now _)
  ·
   rw [decide_eq_true (show b.size ≤ 10 by omega), Bool.true_and]
   simp only [show ¬ (b.size : Int) > 10 by omega, if_false, show 0 < (b.size : Int) by omega, if_true, specSmall_eq, Option.bind_some]
   cases hs : smallC (bt b 0) with
   | false =>
    rw [Bool.false_and]
    exact Ev.step (f := fun _ => some false) (fun k => by simp [spec_l01Name.j0]) (Ev.now _)
   | true =>
    rw [Bool.true_and]
    refine Ev.step (f := fun k => spec_l01Name.l0 k b 0) (fun k => by simp [spec_l01Name.j0]) ?_
    have key := ev_all (fun k i => spec_l01Name.l0 k b i) (List.range b.size) 0 (fun i => nameC (bt b i)) false true (fun i hi hp s hs2 => ?_) (fun i hi hp => ?_) ?_
    ·
     revert key
     cases (List.range b.size).all fun i => nameC (bt b i) <;> exact id
    ·
     rw [List.length_range] at hi
     rw [getD_lt 0 (by simpa using hi), List.getElem_range] at hp
     refine Ev.step (fun k => ?_) hs2
     simp only [spec_l01Name.l0]
     rw [if_pos (by omega), if_pos (by omega), specSmall_eq, specDigit_eq]
     simp only [Option.bind_some]
     unfold nameC at hp
     cases h3 : smallC (bt b i) with
     | true => rw [if_pos rfl, w64 (by omega) (by omega)]; rfl
     | false =>
      rw [h3, Bool.false_or] at hp
      rw [hp, if_neg (by decide), if_pos rfl, w64 (by omega) (by omega)]
      rfl
    ·
     rw [List.length_range] at hi
     rw [getD_lt 0 (by simpa using hi), List.getElem_range] at hp
     refine Ev.step (f := fun _ => some false) (fun k => ?_) (Ev.now _)
     simp only [spec_l01Name.l0]
     unfold nameC at hp
     rw [Bool.or_eq_false_iff] at hp
     rw [if_pos (by omega), if_pos (by omega), specSmall_eq, specDigit_eq, hp.1, hp.2]
     rfl
    ·
     refine Ev.step (f := fun _ => some true) (fun k => ?_) (Ev.now _)
     simp only [spec_l01Name.l0]
     rw [List.length_range, if_neg (by omega)]
theorem specIn_eq (a lo hi : Int) : spec_l00In.f a lo hi = some (inB lo hi a) := by
 unfold spec_l00In.f inB
 by_cases h : a ≥ lo
 ·
  rw [if_pos h, decide_eq_true (show lo ≤ a from h)]; rfl
 ·
  rw [if_neg h, decide_eq_false (show ¬ lo ≤ a from h)]; rfl
theorem specUnit_ev (x : S77) : Ev (fun k => spec_l13One.f k [x]) (unitOk x) := by
 unfold spec_l13One.f unitOk
 simp only [List.length_singleton, show 0 < 1 by decide, if_true]
 exact Ev.bind (specName_ev x.f0) (Ev.now _)
theorem specUnits_ev (l : List S77) (hl : l.length ≤ 4611686018427387904) : Ev (fun k => spec_l13Ok.f k l) (unitsOk l) := by
 unfold spec_l13Ok.f
 have key := ev_all (fun k i => spec_l13Ok.l0 k l i) (List.range l.length) 0 (okU l) false (inB 1 4 (l.length : Int)) (fun i hi hp r hr => ?_) (fun i hi hp => ?_) ?_
 ·
  revert key
  unfold unitsOk
  cases (List.range l.length).all (okU l) with
  | true => rw [Bool.and_true]; exact id
  | false => rw [Bool.and_false]; exact id
 ·
  rw [List.length_range] at hi
  rw [getD_range hi] at hp
  refine Ev.succ ?_
  simp only [spec_l13Ok.l0, if_pos (show (i : Int) < (l.length : Int) by omega), if_pos (show (0 : Int) ≤ i by omega), rdU_eq]
  refine Ev.bind (specUnit_ev (rdU l i)) ?_
  unfold okU at hp
  rw [Bool.and_eq_true] at hp
  rw [hp.1]
  simp only [if_true, w64 (x := (i : Int) + 1) (by omega) (by omega)]
  by_cases h0 : i = 0
  ·
   subst h0
   simp only [if_neg (show ¬ ((0 : Nat) : Int) > 0 by decide)]
   exact hr
  ·
   have e : wrap64 ((i : Int) - 1) = ((i - 1 : Nat) : Int) := by
    rw [w64 (by omega) (by omega)]
    omega
   have e0 : (i == 0) = false := by simpa using h0
   have hb := hp.2
   rw [e0, Bool.false_or] at hb
   simp only [if_pos (show (i : Int) > 0 by omega), e, if_pos (show (0 : Int) ≤ ((i - 1 : Nat) : Int) by omega), if_pos (show ((i - 1 : Nat) : Int) < (l.length : Int) by omega), rdU_eq, hb, if_true]
   exact hr
 ·
  rw [List.length_range] at hi
  rw [getD_range hi] at hp
  refine Ev.succ ?_
  simp only [spec_l13Ok.l0, if_pos (show (i : Int) < (l.length : Int) by omega), if_pos (show (0 : Int) ≤ i by omega), rdU_eq]
  refine Ev.bind (specUnit_ev (rdU l i)) ?_
  unfold okU at hp
  cases hu : unitOk (rdU l i) with
  | false => exact Ev.now _
  | true =>
   rw [hu, Bool.true_and] at hp
   by_cases h0 : i = 0
   ·
    subst h0
    simp at hp
   ·
    have e : wrap64 ((i : Int) - 1) = ((i - 1 : Nat) : Int) := by
     rw [w64 (by omega) (by omega)]
     omega
    have e0 : (i == 0) = false := by simpa using h0
    rw [e0, Bool.false_or] at hp
    simp only [if_true, if_pos (show (i : Int) > 0 by omega), e, if_pos (show (0 : Int) ≤ ((i - 1 : Nat) : Int) by omega), if_pos (show ((i - 1 : Nat) : Int) < (l.length : Int) by omega), rdU_eq, hp, Bool.false_eq_true, if_false]
    exact Ev.now _
 ·
  rw [List.length_range]
  refine Ev.succ ?_
  simp only [spec_l13Ok.l0, if_neg (show ¬ (l.length : Int) < (l.length : Int) by omega), specIn_eq, Option.bind_some]
  exact Ev.now _
theorem implBytes_ev (b : ByteArray) (hb : b.size ≤ 10) : Ev (fun k => impl_onlyNameBytes.f k b) ((List.range b.size).all fun i => nameC (bt b i)) := by
 unfold impl_onlyNameBytes.f
 have key := ev_all (fun k i => impl_onlyNameBytes.l0 k b b.size i) (List.range b.size) 0 (fun i => nameC (bt b i)) false true (fun i hi hp s hs2 => ?_) (fun i hi hp => ?_) ?_
 ·
  revert key
  cases (List.range b.size).all fun i => nameC (bt b i) <;> exact id
 ·
  rw [List.length_range] at hi
  rw [getD_lt 0 (by simpa using hi), List.getElem_range] at hp
  refine Ev.step (fun k => ?_) hs2
  simp only [impl_onlyNameBytes.l0]
  rw [if_pos (by omega), if_pos (by omega), if_pos (by omega), w64 (by omega) (by omega)]
  simp only [nameC, smallC, digitC, Bool.or_eq_true, Bool.and_eq_true, decide_eq_true_eq] at hp
  split
  ·
   rw [if_neg (by omega), if_neg (by omega)]; rfl
  ·
   split
   ·
    omega
   ·
    rfl
 ·
  rw [List.length_range] at hi
  rw [getD_lt 0 (by simpa using hi), List.getElem_range] at hp
  refine Ev.step (f := fun _ => some false) (fun k => ?_) (Ev.now _)
  simp only [impl_onlyNameBytes.l0]
  rw [if_pos (by omega), if_pos (by omega), if_pos (by omega)]
  simp only [nameC, smallC, digitC, Bool.or_eq_false_iff, Bool.and_eq_false_iff, decide_eq_false_iff_not] at hp
  split
  ·
   split
   ·
    rfl
   ·
    rw [if_pos (by omega)]
  ·
   split
   ·
    rw [if_neg (by omega), if_pos (by omega)]
   ·
    omega
 ·
  refine Ev.step (f := fun _ => some true) (fun k => ?_) (Ev.now _)
  simp only [impl_onlyNameBytes.l0]
  rw [List.length_range, if_neg (by omega)]
theorem implName_ev (b : ByteArray) : Ev (fun k => impl_IsName.f k b) (nameOk b) := by
 unfold impl_IsName.f nameOk
 by_cases h1 : b.size < 1
 ·
  rw [decide_eq_false (by omega), Bool.false_and]
  simp only [show (b.size : Int) < 1 by omega, if_true]
  exact Ev.now _
 ·
  rw [decide_eq_true (show 1 ≤ b.size by omega), Bool.true_and]
  simp only [show ¬ (b.size : Int) < 1 by omega, if_false]
  by_cases h10 : b.size > 10
  ·
   rw [decide_eq_false (show ¬ b.size ≤ 10 by omega), Bool.false_and]
   simp only [show (b.size : Int) > 10 by omega, if_true]
   exact Ev.now _
  ·
   rw [decide_eq_true (show b.size ≤ 10 by omega), Bool.true_and]
   simp only [show ¬ (b.size : Int) > 10 by omega, if_false, show 0 < (b.size : Int) by omega, if_true]
   unfold smallC
   by_cases g1 : bt b 0 < 97
   ·
    simp only [g1, if_true, decide_eq_false (show ¬ 97 ≤ bt b 0 by omega), Bool.false_and]
    exact Ev.now _
   ·
    simp only [g1, if_false, decide_eq_true (show 97 ≤ bt b 0 by omega), Bool.true_and]
    by_cases g2 : bt b 0 > 122
    ·
     simp only [g2, if_true, decide_eq_false (show ¬ bt b 0 ≤ 122 by omega), Bool.false_and]
     exact Ev.now _
    ·
     simp only [g2, if_false, decide_eq_true (show bt b 0 ≤ 122 by omega), Bool.true_and]
     refine Ev.bind (implBytes_ev b (by omega)) ?_
     exact Ev.now _
theorem mx_eq (v : Int) : mx v 1 = mxU 1 v := by
 unfold mx mxU
 by_cases h : v < 1
 ·
  rw [if_pos h]
 ·
  rw [if_neg h]
theorem implUnit_ev (x : S77) : Ev (fun k => impl_Unit_valid.f k x.f0 x.f1 x.f2 x.f3 x.f4 x.f5 x.f6) (unitOk x) := by
 unfold impl_Unit_valid.f unitOk unitR
 refine Ev.bind (implName_ev x.f0) ?_
 simp only [impl_within.f, Option.bind_some, mx_eq]
 show Ev (fun _ => if nameOk x.f0 = true then (if inU 0 100000 x.f1 = true then (if inU (mxU 1 x.f1) 100000 x.f2 = true then (if inU 0 100000 x.f3 = true then (if inU 0 100000000 x.f4 = true then (if inU 1 3 x.f5 = true then some (inU 1 3 x.f6) else some false) else some false) else some false) else some false) else some false) else some false) _
 cases nameOk x.f0 <;> cases inU 0 100000 x.f1 <;> cases inU (mxU 1 x.f1) 100000 x.f2 <;> cases inU 0 100000 x.f3 <;> cases inU 0 100000000 x.f4 <;> cases inU 1 3 x.f5 <;> cases inU 1 3 x.f6 <;> exact Ev.now _
theorem implUnits_ev (l : List S77) (hl : l.length ≤ 4611686018427387904) : Ev (fun k => impl_ValidUnits.f k l) (unitsOk l) := by
 unfold impl_ValidUnits.f
 have jt : Ev (fun k => impl_ValidUnits.j0 k l true) false := Ev.step (f := fun _ => some false) (fun k => by simp [impl_ValidUnits.j0]) (Ev.now _)
 by_cases h1 : l.length < 1
 ·
  simp only [if_pos (show (l.length : Int) < 1 by omega)]
  have : unitsOk l = false := by
   unfold unitsOk inB
   rw [decide_eq_false (by omega), Bool.false_and, Bool.false_and]
  rw [this]
  exact jt
 ·
  simp only [if_neg (show ¬ (l.length : Int) < 1 by omega)]
  by_cases h4 : l.length > 4
  ·
   rw [decide_eq_true (show (l.length : Int) > 4 by omega)]
   have : unitsOk l = false := by
    unfold unitsOk inB
    rw [decide_eq_false (show ¬ (l.length : Int) ≤ 4 by omega), Bool.and_false, Bool.false_and]
   rw [this]
   exact jt
  ·
   rw [decide_eq_false (show ¬ (l.length : Int) > 4 by omega)]
   have : unitsOk l = (List.range l.length).all (okU l) := by
    unfold unitsOk inB
    rw [decide_eq_true (show (1 : Int) ≤ (l.length : Int) by omega), decide_eq_true (show (l.length : Int) ≤ 4 by omega), Bool.true_and, Bool.true_and]
   rw [this]
   refine Ev.succ ?_
   simp only [impl_ValidUnits.j0, Bool.false_eq_true, if_false]
   have key := ev_all (fun k i => impl_ValidUnits.l0 k l l (l.length : Int) i) (List.range l.length) 0 (okU l) false true (fun i hi hp r hr => ?_) (fun i hi hp => ?_) ?_
   ·
    revert key
    cases (List.range l.length).all (okU l) <;> exact id
   ·
    rw [List.length_range] at hi
    rw [getD_range hi] at hp
    refine Ev.succ ?_
    simp only [impl_ValidUnits.l0, if_pos (show (i : Int) < (l.length : Int) by omega), if_pos (show (0 : Int) ≤ i by omega), rdU_eq]
    refine Ev.bind (implUnit_ev (rdU l i)) ?_
    unfold okU at hp
    rw [Bool.and_eq_true] at hp
    rw [hp.1]
    simp only [if_true, w64 (x := (i : Int) + 1) (by omega) (by omega)]
    by_cases h0 : i = 0
    ·
     subst h0
     simp only [if_neg (show ¬ ((0 : Nat) : Int) > 0 by decide)]
     exact hr
    ·
     have e : wrap64 ((i : Int) - 1) = ((i - 1 : Nat) : Int) := by
      rw [w64 (by omega) (by omega)]
      omega
     have e0 : (i == 0) = false := by simpa using h0
     have hb := hp.2
     rw [e0, Bool.false_or] at hb
     simp only [if_pos (show (i : Int) > 0 by omega), e, if_pos (show (0 : Int) ≤ ((i - 1 : Nat) : Int) by omega), if_pos (show ((i - 1 : Nat) : Int) < (l.length : Int) by omega), rdU_eq, hb, if_true]
     exact hr
   ·
    rw [List.length_range] at hi
    rw [getD_range hi] at hp
    refine Ev.succ ?_
    simp only [impl_ValidUnits.l0, if_pos (show (i : Int) < (l.length : Int) by omega), if_pos (show (0 : Int) ≤ i by omega), rdU_eq]
    refine Ev.bind (implUnit_ev (rdU l i)) ?_
    unfold okU at hp
    cases hu : unitOk (rdU l i) with
    | false => exact Ev.now _
    | true =>
     rw [hu, Bool.true_and] at hp
     by_cases h0 : i = 0
     ·
      subst h0
      simp at hp
     ·
      have e : wrap64 ((i : Int) - 1) = ((i - 1 : Nat) : Int) := by
       rw [w64 (by omega) (by omega)]
       omega
      have e0 : (i == 0) = false := by simpa using h0
      rw [e0, Bool.false_or] at hp
      simp only [if_true, if_pos (show (i : Int) > 0 by omega), e, if_pos (show (0 : Int) ≤ ((i - 1 : Nat) : Int) by omega), if_pos (show ((i - 1 : Nat) : Int) < (l.length : Int) by omega), rdU_eq, hp, Bool.false_eq_true, if_false]
      exact Ev.now _
   ·
    rw [List.length_range]
    refine Ev.succ ?_
    simp only [impl_ValidUnits.l0, if_neg (show ¬ (l.length : Int) < (l.length : Int) by omega)]
    exact Ev.now _
theorem insRev_mem (p : Nat → Int) (x : Nat) : ∀ (l : List Nat) (y : Nat), y ∈ insRev p x l → y = x ∨ y ∈ l
 | [], y, h => .inl (List.mem_singleton.1 h)
 | z :: t, y, h => by
  rw [insRev] at h
  split at h
  ·
   rcases List.mem_cons.1 h with h | h
   ·
    exact .inr (by rw [h]; exact List.mem_cons_self)
   ·
    rcases insRev_mem p x t y h with h | h
    ·
     exact .inl h
    ·
     exact .inr (List.mem_cons_of_mem _ h)
  ·
   rcases List.mem_cons.1 h with h | h
   ·
    exact .inl h
   ·
    exact .inr h
theorem insRev_len (p : Nat → Int) (x : Nat) : ∀ (l : List Nat), (insRev p x l).length = l.length + 1
 | [] => rfl
 | z :: t => by
  rw [insRev]
  split
  ·
   rw [List.length_cons, insRev_len p x t, List.length_cons]
  ·
   rfl
def ordN (p : Nat → Int) (n : Nat) : List Nat := (List.range n).foldl (fun acc i => insRev p i acc) []
theorem ordN_succ (p : Nat → Int) (n : Nat) : ordN p (n + 1) = insRev p n (ordN p n) := by
 unfold ordN
 rw [List.range_succ, List.foldl_append]
 rfl
theorem ordN_facts (p : Nat → Int) : ∀ n : Nat, (ordN p n).length = n ∧ ∀ x ∈ ordN p n, x < n
 | 0 => ⟨rfl, fun x hx => by cases hx⟩
 | n + 1 => by
  obtain ⟨a, b⟩ := ordN_facts p n
  rw [ordN_succ]
  refine ⟨by rw [insRev_len, a], fun x hx => ?_⟩
  rcases insRev_mem p n _ x hx with h | h
  ·
   omega
  ·
   have := b x h
   omega
theorem meritN_eq (p : Nat → Int) (n : Nat) : meritN p n = (ordN p n).reverse := rfl
theorem merit_facts (l : List S77) : (meritI l).length = l.length ∧ ∀ x ∈ meritI l, x < l.length := by
 unfold meritI
 rw [meritN_eq]
 obtain ⟨a, b⟩ := ordN_facts (fun i => (rd_T77 l (i : Int)).f3) l.length
 exact ⟨by rw [List.length_reverse, a], fun x hx => b x (List.mem_reverse.1 hx)⟩
def castL (l : List Nat) : List Int := l.map fun i : Nat => (i : Int)
theorem castL_append (a b : List Nat) : castL (a ++ b) = castL a ++ castL b := List.map_append
theorem castL_len (a : List Nat) : (castL a).length = a.length := List.length_map ..
theorem rd_castL (a : List Nat) (i : Nat) (h : i < a.length) : rd (castL a) (i : Int) = ((a.getD i 0 : Nat) : Int) := by
 rw [rd_nat, getD_lt 0 (by rw [castL_len]; exact h), getD_lt 0 h]
 exact List.getElem_map ..
theorem specIns_ev (l : List S77) (hl : l.length ≤ 1000) (i : Nat) (hi : i < l.length) (r : List Int) : ∀ (R M : List Nat), (∀ x ∈ R, x < l.length) → R.length + M.length ≤ 1000 →
  Ev (fun k => spec_l13Order.l0 k l (castL ((insRev (fun j => (rdU l j).f3) i R).reverse ++ M)) ((i + 1 : Nat) : Int)) r → Ev (fun k => spec_l13Order.l1 k l (castL (R.reverse ++ M)) (i : Int) (R.length : Int)) r := by
 intro R
 induction R with
 | nil =>
  intro M _ hlen hr
  refine Ev.succ ?_
  have e1 : (castL M).take ((0 : Nat) : Int).toNat = [] := rfl
  have e2 : (castL M).drop ((0 : Nat) : Int).toNat = castL M := rfl
  have e3 : ([] : List Nat).reverse ++ M = M := rfl
  simp only [spec_l13Order.l1, List.length_nil, e3, if_neg (show ¬ ((0 : Nat) : Int) > 0 by decide), Option.bind_some, if_pos (show (0 : Int) ≤ ((0 : Nat) : Int) by decide), if_pos (show ((0 : Nat) : Int) ≤ ((castL M).length : Int) by omega), e1, e2, List.length_append, List.length_cons, castL_len, Nat.zero_add, w64 (x := (i : Int) + 1) (by omega) (by omega)]
  rw [List.length_nil] at hlen
  simp (disch := omega) only [if_pos]
  refine Ev.congr (fun k => ?_) hr
  congr 1
 | cons y t ih =>
  intro M hm hlen hr
  rw [List.length_cons] at hlen
  have hy := hm y List.mem_cons_self
  have hacc : (y :: t).reverse ++ M = t.reverse ++ y :: M := by simp
  have hget : rd (castL ((y :: t).reverse ++ M)) (t.length : Int) = (y : Int) := by
   rw [rd_castL _ _ (by simp <;> omega), hacc, getD_lt 0 (by simp)]
   simp
  have hcl : ((castL ((y :: t).reverse ++ M)).length : Int) = ((t.length + 1 + M.length : Nat) : Int) := by
   rw [castL_len]
   simp
   omega
  refine Ev.succ ?_
  have e : wrap64 (((y :: t).length : Int) - 1) = (t.length : Int) := by
   rw [List.length_cons, w64 (by omega) (by omega)]
   omega
  simp only [spec_l13Order.l1, if_pos (show ((y :: t).length : Int) > 0 by rw [List.length_cons]; omega), e, if_pos (show (0 : Int) ≤ (t.length : Int) by omega), hcl, if_pos (show (t.length : Int) < ((t.length + 1 + M.length : Nat) : Int) by omega), hget, if_pos (show (0 : Int) ≤ (y : Int) by omega), if_pos (show (y : Int) < (l.length : Int) by omega), if_pos (show (0 : Int) ≤ (i : Int) by omega), if_pos (show (i : Int) < (l.length : Int) by omega), rdU_eq]
  rw [insRev] at hr
  by_cases hc : (rdU l y).f3 > (rdU l i).f3
  ·
   rw [if_pos (show (rdU l i).f3 < (rdU l y).f3 from hc)] at hr
   simp only [if_pos hc]
   rw [hacc]
   refine ih (y :: M) (fun x hx => hm x (List.mem_cons_of_mem _ hx)) (by rw [List.length_cons]; omega) ?_
   rw [List.reverse_cons, List.append_assoc] at hr
   exact hr
  ·
   rw [if_neg (show ¬ (rdU l i).f3 < (rdU l y).f3 from hc)] at hr
   have e1 : (castL ((y :: t).reverse ++ M)).take (((t.length + 1 : Nat) : Int)).toNat = castL (y :: t).reverse := by
    rw [Int.toNat_natCast, castL_append, List.take_left' (by rw [castL_len, List.length_reverse, List.length_cons])]
   have e2 : (castL ((y :: t).reverse ++ M)).drop (((t.length + 1 : Nat) : Int)).toNat = castL M := by
    rw [Int.toNat_natCast, castL_append, List.drop_left' (by rw [castL_len, List.length_reverse, List.length_cons])]
   simp only [if_neg hc, Option.bind_some, List.length_cons, e1, e2, List.nil_append, List.length_append, List.length_nil, castL_len, List.length_reverse, w64 (x := (i : Int) + 1) (by omega) (by omega)]
   simp (disch := omega) only [if_pos]
   refine Ev.congr (fun k => ?_) hr
   congr 1
   simp [castL]
theorem specOrder_ev (l : List S77) (hl : l.length ≤ 1000) : Ev (fun k => spec_l13Order.f k l) (castL (meritI l)) := by
 unfold spec_l13Order.f
 have hp : (fun i : Nat => (rd_T77 l (i : Int)).f3) = fun j => (rdU l j).f3 := by
  funext j
  rw [rdU_eq]
 have key : ∀ (m i : Nat), i + m = l.length → Ev (fun k => spec_l13Order.l0 k l (castL (ordN (fun j => (rdU l j).f3) i).reverse) (i : Int)) (castL (meritI l)) := by
  intro m
  induction m with
  | zero =>
   intro i hi
   obtain rfl : i = l.length := by omega
   refine Ev.succ ?_
   simp only [spec_l13Order.l0, if_neg (show ¬ (l.length : Int) < (l.length : Int) by omega)]
   refine Ev.now' ?_
   unfold meritI
   rw [meritN_eq, hp]
  | succ m ih =>
   intro i hi
   obtain ⟨a, b⟩ := ordN_facts (fun j => (rdU l j).f3) i
   refine Ev.succ ?_
   simp only [spec_l13Order.l0, if_pos (show (i : Int) < (l.length : Int) by omega), castL_len, List.length_reverse]
   have h := specIns_ev l hl i (by omega) (castL (meritI l)) (ordN (fun j => (rdU l j).f3) i) [] (fun x hx => by have := b x hx; omega) (by rw [a, List.length_nil]; omega)
   rw [List.append_nil, List.append_nil] at h
   refine h ?_
   rw [← ordN_succ]
   exact ih (i + 1) (by omega)
 exact key l.length 0 (Nat.zero_add _)
def dOk (ds : List Int) : Bool := ds.all (inB 0 400000) && inB 1 12 (ds.length : Int)
def ask (l : List S77) (ds : List Int) : Int := if unitsOk l = true then (if dOk ds = true then 0 else 7) else 1
theorem specDem_ev (ds : List Int) (hl : ds.length ≤ 1048576) : Ev (fun k => spec_l13Demands.f k ds) (dOk ds) := by
 unfold spec_l13Demands.f
 have key := ev_all (fun k i => spec_l13Demands.l0 k ds i) ds 0 (inB 0 400000) false (inB 1 12 (ds.length : Int)) (fun i hi hp r hr => ?_) (fun i hi hp => ?_) ?_
 ·
  revert key
  unfold dOk
  cases ds.all (inB 0 400000) with
  | true => rw [Bool.true_and]; exact id
  | false => rw [Bool.false_and]; exact id
 ·
  refine Ev.succ ?_
  simp only [spec_l13Demands.l0, spec_l13Demand.f, if_pos (show (i : Int) < (ds.length : Int) by omega), if_pos (show (0 : Int) ≤ i by omega), rd_nat, specIn_eq, Option.bind_some, hp, if_true, w64 (x := (i : Int) + 1) (by omega) (by omega)]
  exact hr
 ·
  refine Ev.succ ?_
  simp only [spec_l13Demands.l0, spec_l13Demand.f, if_pos (show (i : Int) < (ds.length : Int) by omega), if_pos (show (0 : Int) ≤ i by omega), rd_nat, specIn_eq, Option.bind_some, hp, Bool.false_eq_true, if_false]
  exact Ev.now _
 ·
  refine Ev.succ ?_
  simp only [spec_l13Demands.l0, if_neg (show ¬ (ds.length : Int) < (ds.length : Int) by omega), specIn_eq, Option.bind_some]
  exact Ev.now _
theorem specAsk_ev (l : List S77) (ds : List Int) (h1 : l.length ≤ 1048576) (h2 : ds.length ≤ 1048576) : Ev (fun k => spec_l15Ask.f k l ds) (ask l ds) := by
 unfold spec_l15Ask.f ask
 refine Ev.bind (specUnits_ev l (by omega)) ?_
 cases unitsOk l with
 | false => exact Ev.now _
 | true =>
  simp only [if_true]
  refine Ev.bind (specDem_ev ds h2) ?_
  cases dOk ds <;> exact Ev.now _
theorem implAsk_ev (l : List S77) (ds : List Int) (h1 : l.length ≤ 1048576) (h2 : ds.length ≤ 1048576) : Ev (fun k => impl_demandsCode.f k l ds) (ask l ds) := by
 unfold impl_demandsCode.f ask
 refine Ev.bind (implUnits_ev l (by omega)) ?_
 cases unitsOk l with
 | false => exact Ev.now _
 | true =>
  simp only [if_true]
  unfold impl_allWithin.f dOk inB
  by_cases c1 : ds.length < 1
  ·
   simp only [if_pos (show (ds.length : Int) < 1 by omega), decide_eq_false (show ¬ (1 : Int) ≤ (ds.length : Int) by omega), Bool.false_and, Bool.and_false, Bool.false_eq_true, if_false]
   exact Ev.now _
  ·
   simp only [if_neg (show ¬ (ds.length : Int) < 1 by omega)]
   by_cases c2 : ds.length > 12
   ·
    simp only [if_pos (show (ds.length : Int) > 12 by omega), decide_eq_false (show ¬ (ds.length : Int) ≤ 12 by omega), Bool.and_false, Bool.false_eq_true, if_false]
    exact Ev.now _
   ·
    simp only [if_neg (show ¬ (ds.length : Int) > 12 by omega), if_pos (show ds.length < 9223372036854775807 by omega), Option.bind_some, decide_eq_true (show (1 : Int) ≤ (ds.length : Int) by omega), decide_eq_true (show (ds.length : Int) ≤ 12 by omega), Bool.and_true]
    cases ds.all (fun x => decide (0 ≤ x) && decide (x ≤ 400000)) <;> exact Ev.now _
theorem dOk_facts {ds : List Int} (h : dOk ds = true) : (1 ≤ ds.length ∧ ds.length ≤ 12) ∧ ∀ i : Nat, i < ds.length → 0 ≤ ds.getD i 0 ∧ ds.getD i 0 ≤ 400000 := by
 unfold dOk inB at h
 simp only [Bool.and_eq_true, decide_eq_true_eq, List.all_eq_true] at h
 exact ⟨by omega, fun i hi => h.1 _ (getD_mem 0 hi)⟩
def minS (l : List S77) : Int := (l.map (·.f4)).foldl min (rdU l 0).f4
def startB (l : List S77) (ds : List Int) : Int := if ds.foldl max 0 = 0 then 0 else minS l
theorem max_zero : ∀ (ds : List Int) (s : Int), 0 ≤ s → s ≤ ds.foldl max s
 | [], s, _ => Int.le_refl _
 | d :: t, s, h => by
  rw [List.foldl_cons]
  have := max_zero t (max s d) (by omega)
  omega
theorem sum_zero : ∀ (ds : List Int) (s : Int), 0 ≤ s → (∀ x ∈ ds, 0 ≤ x) → (ds.foldl (· + ·) s = 0 ↔ ds.foldl max s = 0) ∧ s ≤ ds.foldl (· + ·) s
 | [], s, _, _ => ⟨Iff.rfl, Int.le_refl _⟩
 | d :: t, s, h, hd => by
  have h0 := hd d List.mem_cons_self
  obtain ⟨a, b⟩ := sum_zero t (s + d) (by omega) (fun x hx => hd x (List.mem_cons_of_mem _ hx))
  rw [List.foldl_cons, List.foldl_cons]
  refine ⟨?_, by omega⟩
  by_cases hz : s + d = 0
  ·
   have e1 : s = 0 := by omega
   have e2 : d = 0 := by omega
   rw [e1, e2] at a ⊢
   exact a
  ·
   have hm := max_zero t (max s d) (by omega)
   constructor
   ·
    intro e; omega
   ·
    intro e; omega
theorem specStart_ev (l : List S77) (ds : List Int) (hu : unitsOk l = true) (hd : dOk ds = true) : Ev (fun k => spec_l15Start.f k l ds) (startB l ds) := by
 obtain ⟨⟨n1, n2⟩, hx⟩ := unitsOk_facts hu
 obtain ⟨⟨m1, m2⟩, hy⟩ := dOk_facts hd
 unfold spec_l15Start.f startB
 have key : ∀ (m i : Nat) (s : Int), i + m = ds.length → 0 ≤ s ∧ s ≤ 400000 → Ev (fun k => spec_l15Start.l0 k l ds s (i : Int)) (if (ds.drop i).foldl max s = 0 then 0 else minS l) := by
  intro m
  induction m with
  | zero =>
   intro i s hi hs
   rw [List.drop_eq_nil_of_le (by omega), List.foldl_nil]
   refine Ev.succ ?_
   simp only [spec_l15Start.l0, if_neg (show ¬ (i : Int) < (ds.length : Int) by omega)]
   by_cases h0 : s = 0
   ·
    simp only [if_pos h0]
    exact Ev.now _
   ·
    simp only [if_neg h0, if_pos (show (0 : Int) < (l.length : Int) by omega)]
    have key2 : ∀ (m i : Nat) (s : Int), i + m = l.length → Ev (fun k => spec_l15Start.l1 k l s (i : Int)) (((l.drop i).map (·.f4)).foldl min s) := by
     intro m
     induction m with
     | zero =>
      intro i s hi
      rw [List.drop_eq_nil_of_le (by omega)]
      refine Ev.succ ?_
      simp only [spec_l15Start.l1, if_neg (show ¬ (i : Int) < (l.length : Int) by omega)]
      exact Ev.now _
     | succ m ih =>
      intro i s hi
      rw [List.drop_eq_getElem_cons (by omega), List.map_cons, List.foldl_cons]
      refine Ev.succ ?_
      simp only [spec_l15Start.l1, if_pos (show (i : Int) < (l.length : Int) by omega), if_pos (show (0 : Int) ≤ (i : Int) by omega), rdU_eq, spec_l00Min.f]
      have e : (rdU l i).f4 = (l[i]'(by omega)).f4 := by
       unfold rdU
       rw [getD_lt _ (by omega)]
      have em : (if s < (rdU l i).f4 then some s else some (rdU l i).f4) = some (min s (l[i]'(by omega)).f4) := by
       rw [← e]
       split <;> congr 1 <;> omega
      simp only [em, Option.bind_some, w64 (x := (i : Int) + 1) (by omega) (by omega)]
      exact ih (i + 1) _ (by omega)
    have h := key2 (l.length - 1) 1 (rdU l 0).f4 (by omega)
    have e0 : minS l = ((l.drop 1).map (·.f4)).foldl min (rdU l 0).f4 := by
     unfold minS
     cases l with
     | nil => simp at n1
     | cons x t =>
      show (List.map _ t).foldl min (min x.f4 x.f4) = (List.map _ t).foldl min x.f4
      rw [Int.min_self]
    rw [e0]
    have er : (rd_T77 l 0).f4 = (rdU l 0).f4 := by rw [show (0 : Int) = ((0 : Nat) : Int) from rfl, rdU_eq]
    rw [er]
    exact h
  | succ m ih =>
   intro i s hi hs
   have hb := hy i (by omega)
   have eg : ds.getD i 0 = ds[i]'(by omega) := getD_lt 0 (by omega)
   rw [List.drop_eq_getElem_cons (by omega), List.foldl_cons]
   refine Ev.succ ?_
   have em : (if s > ds.getD i 0 then some s else some (ds.getD i 0)) = some (max s (ds[i]'(by omega))) := by
    rw [← eg]
    split <;> congr 1 <;> omega
   simp only [spec_l15Start.l0, if_pos (show (i : Int) < (ds.length : Int) by omega), if_pos (show (0 : Int) ≤ (i : Int) by omega), rd_nat, spec_l00Max.f, em, Option.bind_some, w64 (x := (i : Int) + 1) (by omega) (by omega)]
   exact ih (i + 1) _ (by omega) (by omega)
 have h := key ds.length 0 0 (Nat.zero_add _) (by omega)
 rw [List.drop_zero] at h
 exact h
theorem implStart_ev (l : List S77) (ds : List Int) (hu : unitsOk l = true) (hd : dOk ds = true) : Ev (fun k => impl_startBound.f k l ds) (startB l ds) := by
 obtain ⟨⟨n1, n2⟩, hx⟩ := unitsOk_facts hu
 obtain ⟨⟨m1, m2⟩, hy⟩ := dOk_facts hd
 unfold impl_startBound.f startB
 have key : ∀ (m i : Nat) (s : Int), i + m = ds.length → 0 ≤ s ∧ s ≤ 400000 * i → Ev (fun k => impl_sumOf.l0 k s ds (ds.length : Int) (i : Int)) ((ds.drop i).foldl (· + ·) s) := by
  intro m
  induction m with
  | zero =>
   intro i s hi hs
   rw [List.drop_eq_nil_of_le (by omega)]
   refine Ev.succ ?_
   simp only [impl_sumOf.l0, if_neg (show ¬ (i : Int) < (ds.length : Int) by omega)]
   exact Ev.now _
  | succ m ih =>
   intro i s hi hs
   have hb := hy i (by omega)
   have eg : ds.getD i 0 = ds[i]'(by omega) := getD_lt 0 (by omega)
   rw [List.drop_eq_getElem_cons (by omega), List.foldl_cons, ← eg]
   refine Ev.succ ?_
   simp only [impl_sumOf.l0, if_pos (show (i : Int) < (ds.length : Int) by omega), if_pos (show (0 : Int) ≤ (i : Int) by omega), rd_nat, w64 (x := (i : Int) + 1) (by omega) (by omega), w64 (x := s + ds.getD i 0) (by omega) (by omega)]
   exact ih (i + 1) _ (by omega) (by omega)
 have h := key ds.length 0 0 (Nat.zero_add _) (by omega)
 rw [List.drop_zero] at h
 have hX : Ev (fun k => impl_sumOf.f k ds) (ds.foldl (· + ·) 0) := by
  unfold impl_sumOf.f
  exact h
 refine Ev.bind hX ?_
 have hz := (sum_zero ds 0 (Int.le_refl _) (fun x hx => by
  obtain ⟨i, hi, rfl⟩ := List.getElem_of_mem hx
  have := (hy i hi).1
  rwa [getD_lt 0 hi] at this)).1
 by_cases h0 : ds.foldl (· + ·) 0 = 0
 ·
  simp only [if_pos h0, if_pos (hz.1 h0)]
  exact Ev.now _
 ·
  simp only [if_neg h0, if_neg (fun e => h0 (hz.2 e)), if_pos (show (0 : Int) < (l.length : Int) by omega)]
  have key2 : ∀ (m i : Nat) (s : Int), i + m = l.length → Ev (fun k => impl_startBound.l0 k s l (l.length : Int) (i : Int)) (((l.drop i).map (·.f4)).foldl min s) := by
   intro m
   induction m with
   | zero =>
    intro i s hi
    rw [List.drop_eq_nil_of_le (by omega)]
    refine Ev.succ ?_
    simp only [impl_startBound.l0, if_neg (show ¬ (i : Int) < (l.length : Int) by omega)]
    exact Ev.now _
   | succ m ih =>
    intro i s hi
    rw [List.drop_eq_getElem_cons (by omega), List.map_cons, List.foldl_cons]
    refine Ev.succ ?_
    have e : (rdU l i).f4 = (l[i]'(by omega)).f4 := by
     unfold rdU
     rw [getD_lt _ (by omega)]
    have em : mn s (rdU l i).f4 = min s (l[i]'(by omega)).f4 := by
     rw [← e]
     unfold mn
     split <;> omega
    simp only [impl_startBound.l0, if_pos (show (i : Int) < (l.length : Int) by omega), if_pos (show (0 : Int) ≤ (i : Int) by omega), rdU_eq, em, w64 (x := (i : Int) + 1) (by omega) (by omega)]
    exact ih (i + 1) _ (by omega)
  have h2 := key2 l.length 0 (rdU l 0).f4 (Nat.zero_add _)
  rw [List.drop_zero] at h2
  have er : (rd_T77 l 0).f4 = (rdU l 0).f4 := by rw [show (0 : Int) = ((0 : Nat) : Int) from rfl, rdU_eq]
  rw [er]
  exact h2
def hb (l : List S77) : List Nat → Int → Int → Int × Bool
 | [], d, c => (c, d == 0)
 | i :: t, d, c => hb l t (d - min d (rdU l i).f2) (c + min d (rdU l i).f2 * (rdU l i).f3)
theorem mul_bd {a b : Int} (h0 : 0 ≤ a) (h1 : a ≤ 400000) (h2 : 0 ≤ b) (h3 : b ≤ 100000) : 0 ≤ a * b ∧ a * b ≤ 40000000000 :=
 ⟨Int.mul_nonneg h0 h2, by have := Int.mul_le_mul h1 h3 h2 (by omega); omega⟩
theorem hb_bd (l : List S77) (hx : ∀ i, i < l.length → unitR (rdU l i) = true) : ∀ (O : List Nat) (d c : Int), (∀ i ∈ O, i < l.length) → 0 ≤ d ∧ d ≤ 400000 → 0 ≤ c → 0 ≤ (hb l O d c).1 ∧ (hb l O d c).1 ≤ c + 40000000000 * O.length
 | [], d, c, _, _, hc => ⟨hc, by simp [hb]⟩
 | i :: t, d, c, ho, hd, hc => by
  have f := unitR_facts (hx i (ho i List.mem_cons_self))
  have mb := mul_bd (a := min d (rdU l i).f2) (b := (rdU l i).f3) (by omega) (by omega) (by omega) (by omega)
  have ih := hb_bd l hx t (d - min d (rdU l i).f2) (c + min d (rdU l i).f2 * (rdU l i).f3) (fun j hj => ho j (List.mem_cons_of_mem _ hj)) (by omega) (by omega)
  rw [hb, List.length_cons]
  omega
theorem specHour_ev (l : List S77) (d : Int) (hu : unitsOk l = true) (hd : 0 ≤ d ∧ d ≤ 400000) : Ev (fun k => spec_l15Hour.f k l d) (hb l (meritI l) d 0) := by
 obtain ⟨⟨n1, n2⟩, hx⟩ := unitsOk_facts hu
 obtain ⟨ml, mm⟩ := merit_facts l
 unfold spec_l15Hour.f
 refine Ev.bind (specOrder_ev l (by omega)) ?_
 generalize meritI l = O at ml mm
 have key : ∀ (m i : Nat) (d c : Int), i + m = O.length → 0 ≤ d ∧ d ≤ 400000 → 0 ≤ c ∧ c ≤ 40000000000 * i → Ev (fun k => spec_l15Hour.l0 k l d (castL O) c (i : Int)) (hb l (O.drop i) d c) := by
  intro m
  induction m with
  | zero =>
   intro i d c hi hd hc
   rw [List.drop_eq_nil_of_le (by omega)]
   refine Ev.succ ?_
   simp only [spec_l15Hour.l0, castL_len, if_neg (show ¬ (i : Int) < (O.length : Int) by omega)]
   exact Ev.now _
  | succ m ih =>
   intro i d c hi hd hc
   have hlt : i < O.length := by omega
   have hj := mm _ (List.getElem_mem hlt)
   have f := unitR_facts (hx _ hj)
   have eg : O.getD i 0 = O[i] := getD_lt 0 hlt
   rw [List.drop_eq_getElem_cons hlt, hb]
   refine Ev.succ ?_
   have e1 : rd_T77 [rdU l O[i]] 0 = rdU l O[i] := rfl
   have em : (if d < (rdU l O[i]).f2 then some d else some (rdU l O[i]).f2) = some (min d (rdU l O[i]).f2) := by
    split <;> congr 1 <;> omega
   have mb := mul_bd (a := min d (rdU l O[i]).f2) (b := (rdU l O[i]).f3) (by omega) (by omega) (by omega) (by omega)
   simp only [spec_l15Hour.l0, castL_len, if_pos (show (i : Int) < (O.length : Int) by omega), if_pos (show (0 : Int) ≤ (i : Int) by omega), rd_castL O i hlt, eg, if_pos (show (0 : Int) ≤ ((O[i] : Nat) : Int) by omega), if_pos (show ((O[i] : Nat) : Int) < (l.length : Int) by omega), rdU_eq, e1, spec_l00Min.f, em, Option.bind_some]
   rw [w64 (x := (i : Int) + 1) (by omega) (by omega), w64 (x := d - min d (rdU l O[i]).f2) (by omega) (by omega), w64 (x := min d (rdU l O[i]).f2 * (rdU l O[i]).f3) (by omega) (by omega), w64 (by omega) (by omega)]
   exact ih (i + 1) _ _ (by omega) (by omega) (by omega)
 have h := key O.length 0 d 0 (Nat.zero_add _) hd (by omega)
 rw [List.drop_zero] at h
 exact h
theorem implHour_ev (l : List S77) (d : Int) (hu : unitsOk l = true) (hd : 0 ≤ d ∧ d ≤ 400000) : Ev (fun k => impl_hourBound.f k l d) (hb l (meritI l) d 0) := by
 obtain ⟨⟨n1, n2⟩, hx⟩ := unitsOk_facts hu
 obtain ⟨ml, mm⟩ := merit_facts l
 unfold impl_hourBound.f impl_meritOrder.f
 rw [if_pos ⟨by omega, by omega⟩]
 simp only [Option.bind_some]
 rw [show ((meritI l).map fun i : Nat => (i : Int)) = castL (meritI l) from rfl]
 generalize meritI l = O at ml mm
 have key : ∀ (m i : Nat) (d c : Int), i + m = O.length → 0 ≤ d ∧ d ≤ 400000 → 0 ≤ c ∧ c ≤ 40000000000 * i → Ev (fun k => impl_hourBound.l0 k l d c (castL O) (O.length : Int) (i : Int)) (hb l (O.drop i) d c) := by
  intro m
  induction m with
  | zero =>
   intro i d c hi hd hc
   rw [List.drop_eq_nil_of_le (by omega)]
   refine Ev.succ ?_
   simp only [impl_hourBound.l0, if_neg (show ¬ (i : Int) < (O.length : Int) by omega)]
   exact Ev.now _
  | succ m ih =>
   intro i d c hi hd hc
   have hlt : i < O.length := by omega
   have hj := mm _ (List.getElem_mem hlt)
   have f := unitR_facts (hx _ hj)
   have eg : O.getD i 0 = O[i] := getD_lt 0 hlt
   rw [List.drop_eq_getElem_cons hlt, hb]
   refine Ev.succ ?_
   have em : mn (rdU l O[i]).f2 d = min d (rdU l O[i]).f2 := by
    unfold mn
    split <;> omega
   have mb := mul_bd (a := min d (rdU l O[i]).f2) (b := (rdU l O[i]).f3) (by omega) (by omega) (by omega) (by omega)
   simp only [impl_hourBound.l0, castL_len, if_pos (show (i : Int) < (O.length : Int) by omega), if_pos (show (0 : Int) ≤ (i : Int) by omega), rd_castL O i hlt, eg, if_pos (show (0 : Int) ≤ ((O[i] : Nat) : Int) by omega), if_pos (show ((O[i] : Nat) : Int) < (l.length : Int) by omega), rdU_eq, em]
   rw [w64 (x := (i : Int) + 1) (by omega) (by omega), w64 (x := d - min d (rdU l O[i]).f2) (by omega) (by omega), w64 (x := min d (rdU l O[i]).f2 * (rdU l O[i]).f3) (by omega) (by omega), w64 (by omega) (by omega)]
   exact ih (i + 1) _ _ (by omega) (by omega) (by omega)
 have h := key O.length 0 d 0 (Nat.zero_add _) hd (by omega)
 rw [List.drop_zero] at h
 rw [castL_len]
 exact h
def db (l : List S77) : List Int → Int → Option Int
 | [], s => some s
 | d :: t, s => if (hb l (meritI l) d 0).2 = true then db l t (s + (hb l (meritI l) d 0).1) else none
def dayR (l : List S77) (ds : List Int) : Int × Int := if ask l ds = 0 then (match db l ds (startB l ds) with | some s => (s, 0) | none => (0, 3)) else (0, ask l ds)
theorem ask_ok {l : List S77} {ds : List Int} (h : ask l ds = 0) : unitsOk l = true ∧ dOk ds = true := by
 unfold ask at h
 split at h
 ·
  rename_i h1
  split at h
  ·
   rename_i h2
   exact ⟨h1, h2⟩
  ·
   omega
 ·
  omega
theorem startB_bd (l : List S77) (ds : List Int) (hu : unitsOk l = true) : 0 ≤ startB l ds ∧ startB l ds ≤ 100000000 := by
 obtain ⟨⟨n1, n2⟩, hx⟩ := unitsOk_facts hu
 have hm : ∀ (xs : List S77) (s : Int), (∀ x ∈ xs, 0 ≤ x.f4) → 0 ≤ s ∧ s ≤ 100000000 → 0 ≤ (xs.map (·.f4)).foldl min s ∧ (xs.map (·.f4)).foldl min s ≤ 100000000 := by
  intro xs
  induction xs with
  | nil => intro s _ hs; exact hs
  | cons x t ih =>
   intro s hall hs
   rw [List.map_cons, List.foldl_cons]
   have := hall x List.mem_cons_self
   exact ih _ (fun y hy => hall y (List.mem_cons_of_mem _ hy)) (by omega)
 unfold startB
 split
 ·
  omega
 ·
  have f := unitR_facts (hx 0 (by omega))
  refine hm l (rdU l 0).f4 (fun x hx2 => ?_) (by omega)
  obtain ⟨i, hi, rfl⟩ := List.getElem_of_mem hx2
  have f2 := unitR_facts (hx i hi)
  unfold rdU at f2
  rw [getD_lt _ hi] at f2
  omega
theorem spec_ev (l : List S77) (ds : List Int) (h1 : l.length ≤ 1048576) (h2 : ds.length ≤ 1048576) : Ev (fun k => spec_DayBound.f k l ds) (dayR l ds) := by
 unfold spec_DayBound.f dayR
 refine Ev.bind (specAsk_ev l ds h1 h2) ?_
 by_cases h0 : ask l ds = 0
 ·
  simp only [if_pos h0]
  obtain ⟨hu, hd⟩ := ask_ok h0
  obtain ⟨⟨n1, n2⟩, hx⟩ := unitsOk_facts hu
  obtain ⟨⟨m1, m2⟩, hy⟩ := dOk_facts hd
  obtain ⟨ml, mm⟩ := merit_facts l
  have sb := startB_bd l ds hu
  have key : ∀ (m i : Nat) (s : Int), i + m = ds.length → 0 ≤ s ∧ s ≤ 100000000 + 160000000000 * i → Ev (fun k => spec_l15Day.l0 k l ds s (i : Int)) (match db l (ds.drop i) s with | some s => (s, true) | none => (0, false)) := by
   intro m
   induction m with
   | zero =>
    intro i s hi hs
    rw [List.drop_eq_nil_of_le (by omega)]
    refine Ev.succ ?_
    simp only [spec_l15Day.l0, if_neg (show ¬ (i : Int) < (ds.length : Int) by omega)]
    exact Ev.now _
   | succ m ih =>
    intro i s hi hs
    have hb1 := hy i (by omega)
    have eg : ds.getD i 0 = ds[i]'(by omega) := getD_lt 0 (by omega)
    rw [List.drop_eq_getElem_cons (by omega), ← eg, db]
    have bd := hb_bd l hx (meritI l) (ds.getD i 0) 0 mm hb1 (Int.le_refl _)
    refine Ev.succ ?_
    simp only [spec_l15Day.l0, if_pos (show (i : Int) < (ds.length : Int) by omega), if_pos (show (0 : Int) ≤ (i : Int) by omega), rd_nat]
    refine Ev.bind (specHour_ev l (ds.getD i 0) hu hb1) ?_
    cases hq : (hb l (meritI l) (ds.getD i 0) 0).2 with
    | false => exact Ev.now _
    | true =>
     simp only [if_true]
     rw [w64 (x := (i : Int) + 1) (by omega) (by omega), w64 (by omega) (by omega)]
     exact ih (i + 1) _ (by omega) (by omega)
  have h := key ds.length 0 (startB l ds) (Nat.zero_add _) (by omega)
  rw [List.drop_zero] at h
  have hX : Ev (fun k => spec_l15Day.f k l ds) (match db l ds (startB l ds) with | some s => (s, true) | none => (0, false)) := by
   unfold spec_l15Day.f
   exact Ev.bind (specStart_ev l ds hu hd) h
  refine Ev.bind hX ?_
  cases db l ds (startB l ds) <;> exact Ev.now _
 ·
  simp only [if_neg h0]
  exact Ev.now _
theorem impl_ev (l : List S77) (ds : List Int) (h1 : l.length ≤ 1048576) (h2 : ds.length ≤ 1048576) : Ev (fun k => impl_DayBound.f k l ds) (dayR l ds) := by
 unfold impl_DayBound.f dayR
 refine Ev.bind (implAsk_ev l ds h1 h2) ?_
 by_cases h0 : ask l ds = 0
 ·
  simp only [if_pos h0]
  obtain ⟨hu, hd⟩ := ask_ok h0
  obtain ⟨⟨n1, n2⟩, hx⟩ := unitsOk_facts hu
  obtain ⟨⟨m1, m2⟩, hy⟩ := dOk_facts hd
  obtain ⟨ml, mm⟩ := merit_facts l
  have sb := startB_bd l ds hu
  refine Ev.bind (implStart_ev l ds hu hd) ?_
  have key : ∀ (m i : Nat) (s : Int), i + m = ds.length → 0 ≤ s ∧ s ≤ 100000000 + 160000000000 * i → Ev (fun k => impl_DayBound.l0 k l s ds (ds.length : Int) (i : Int)) (match db l (ds.drop i) s with | some s => (s, 0) | none => (0, 3)) := by
   intro m
   induction m with
   | zero =>
    intro i s hi hs
    rw [List.drop_eq_nil_of_le (by omega)]
    refine Ev.succ ?_
    simp only [impl_DayBound.l0, if_neg (show ¬ (i : Int) < (ds.length : Int) by omega)]
    exact Ev.now _
   | succ m ih =>
    intro i s hi hs
    have hb1 := hy i (by omega)
    have eg : ds.getD i 0 = ds[i]'(by omega) := getD_lt 0 (by omega)
    rw [List.drop_eq_getElem_cons (by omega), ← eg, db]
    have bd := hb_bd l hx (meritI l) (ds.getD i 0) 0 mm hb1 (Int.le_refl _)
    refine Ev.succ ?_
    simp only [impl_DayBound.l0, if_pos (show (i : Int) < (ds.length : Int) by omega), if_pos (show (0 : Int) ≤ (i : Int) by omega), rd_nat]
    refine Ev.bind (implHour_ev l (ds.getD i 0) hu hb1) ?_
    cases hq : (hb l (meritI l) (ds.getD i 0) 0).2 with
    | false => exact Ev.now _
    | true =>
     simp only [if_true]
     rw [w64 (x := (i : Int) + 1) (by omega) (by omega), w64 (by omega) (by omega)]
     exact ih (i + 1) _ (by omega) (by omega)
  have h := key ds.length 0 (startB l ds) (Nat.zero_add _) (by omega)
  rw [List.drop_zero] at h
  exact h
 ·
  simp only [if_neg h0]
  exact Ev.now _
theorem core : ∀ (l0 : List (S77)) (l1 : List Int) (o0 : okUnitS l0) (w1 : l1.length ≤ maxLen ∧ ∀ x0 ∈ l1, (Lit.int .i64 x0).wf = true) (o1 : okInt64S l1), ∃ (r1 : Int) (r2 : Int), Ev (fun k => spec_DayBound.f k l0 l1) (r1, r2) ∧ Ev (fun k => impl_DayBound.f k l0 l1) (r1, r2) := by
 intro l0 l1 o0 w1 o1
 exact ⟨(dayR l0 l1).1, (dayR l0 l1).2, spec_ev l0 l1 o0.1 o1, impl_ev l0 l1 o0.1 o1⟩
end Go.Proofs.Ytebkgebibammiaa.Pure
