/- The program's IsWithin returns what the reference's returns, for all arguments. No condition beyond the statement's own. -/
import Derived.Test.YtebkgebibammiaaPFnExactIsWithinx0
import Derived.Test.YtebkgebibammiaaPFnExactIsWithinx1
import Derived.Test.YtebkgebibammiaaPFnExactIsWithinx2
import Derived.Test.YtebkgebibammiaaPFnExactIsWithinx3
import Derived.Test.YtebkgebibammiaaPFnExactIsWithinx4
import Derived.Test.YtebkgebibammiaaPFnExactIsWithinx5
import Derived.Test.YtebkgebibammiaaPFnExactIsWithinx6
import Derived.Test.YtebkgebibammiaaPFnExactIsWithinx7
import Derived.Test.YtebkgebibammiaaPFnExactIsWithinx8
import Derived.Test.YtebkgebibammiaaPFnExactIsWithinx9
import Derived.Test.YtebkgebibammiaaPFnExactIsWithinx10
import Derived.Test.YtebkgebibammiaaPFnExactIsWithinx11
import Derived.Test.YtebkgebibammiaaPFnExactIsWithinx12
import Derived.Test.YtebkgebibammiaaPFnExactIsWithinx13
import Derived.Test.YtebkgebibammiaaPFnExactIsWithinx14
import Derived.Test.YtebkgebibammiaaPFnExactIsWithinx15
namespace Go.Proofs.Ytebkgebibammiaa.Pure
open Go.RowKit Go.Proofs.Ytebkgebibammiaa.PFnExactIsWithin Go.Proofs.YtebkgebibammiaaW.PrintWords Go.Proofs.YtebkgebibammiaaW.PrintLast Go.Proofs.YtebkgebibammiaaW.PrintMore
set_option linter.unusedVariables false
set_option linter.unusedSimpArgs false
def okUnit1 (x : S77) : Prop := x.f0.size ≤ 1048576 ∧ (-9223372036854775808 ≤ x.f1 ∧ x.f1 ≤ 9223372036854775807) ∧ (-9223372036854775808 ≤ x.f2 ∧ x.f2 ≤ 9223372036854775807) ∧ (-9223372036854775808 ≤ x.f3 ∧ x.f3 ≤ 9223372036854775807) ∧ (-9223372036854775808 ≤ x.f4 ∧ x.f4 ≤ 9223372036854775807) ∧ (-9223372036854775808 ≤ x.f5 ∧ x.f5 ≤ 9223372036854775807) ∧ (-9223372036854775808 ≤ x.f6 ∧ x.f6 ≤ 9223372036854775807)
theorem w64 {x : Int} (h0 : -9223372036854775808 ≤ x) (h1 : x ≤ 9223372036854775807) : wrap64 x = x := by unfold wrap64; omega
theorem rd_nat (l : List Int) (i : Nat) : rd l (i : Int) = l.getD i 0 := by unfold rd; rw [Int.toNat_natCast]
theorem getD_mem {α : Type} {l : List α} {i : Nat} (d : α) (h : i < l.length) : l.getD i d ∈ l := by
 rw [List.getD_eq_getElem?_getD, List.getElem?_eq_getElem h]; exact List.getElem_mem _
theorem getD_lt {α : Type} {l : List α} {i : Nat} (d : α) (h : i < l.length) : l.getD i d = l[i] := by
 rw [List.getD_eq_getElem?_getD, List.getElem?_eq_getElem h]; rfl
theorem ev_copy {α : Type} (L : Nat → List α → List α → Int → Option (List α)) (xs : List α) (d d' : α)
  (step : ∀ ys i, i < xs.length → ys.length = xs.length → ∀ r, Ev (fun k => L k xs (ys.set i (xs.getD i d)) ((i + 1 : Nat) : Int)) r → Ev (fun k => L k xs ys (i : Int)) r)
  (fin : ∀ ys, Ev (fun k => L k xs ys (xs.length : Int)) ys) : Ev (fun k => L k xs (List.replicate xs.length d') 0) xs := by
 have key : ∀ (m i : Nat) (ys : List α), i + m = xs.length → ys.length = xs.length → (∀ j, j < i → ys[j]? = xs[j]?) → Ev (fun k => L k xs ys (i : Int)) xs := by
  intro m
  induction m with
  | zero =>
   intro i ys hi hl hj
   have e : ys = xs := List.ext_getElem? (fun j => by
    by_cases h : j < xs.length
    ·
     exact hj j (by omega)
    ·
     rw [List.getElem?_eq_none (by omega), List.getElem?_eq_none (by omega)])
   have : i = xs.length := by omega
   subst this
   rw [e]
   exact fin xs
  | succ m ih =>
   intro i ys hi hl hj
   refine step ys i (by omega) hl xs (ih (i + 1) _ (by omega) (by rw [List.length_set]; exact hl) (fun j hjj => ?_))
   by_cases h : j = i
   ·
    subst h
    rw [List.getElem?_set_self (by omega), getD_lt d (by omega), List.getElem?_eq_getElem (by omega)]
   ·
    rw [List.getElem?_set_ne (by omega)]
    exact hj j (by omega)
 exact key xs.length 0 _ (by omega) (List.length_replicate ..) (fun j hj => absurd hj (Nat.not_lt_zero _))
theorem ev_eq {α : Type} (L : Nat → List α → List α → Int → Option Bool) (xs : List α) 
  (step : ∀ i, i < xs.length → Ev (fun k => L k xs xs ((i + 1 : Nat) : Int)) true → Ev (fun k => L k xs xs (i : Int)) true)
  (fin : Ev (fun k => L k xs xs (xs.length : Int)) true) : Ev (fun k => L k xs xs 0) true := by
 have key : ∀ (m i : Nat), i + m = xs.length → Ev (fun k => L k xs xs (i : Int)) true := by
  intro m
  induction m with
  | zero =>
   intro i hi
   have : i = xs.length := by omega
   subst this
   exact fin
  | succ m ih => intro i hi; exact step i (by omega) (ih (i + 1) (by omega))
 exact key xs.length 0 (by omega)
theorem ev_all {α ρ : Type} (L : Nat → Int → Option ρ) (xs : List α) (d : α) (p : α → Bool) (b c : ρ)
  (step : ∀ i, i < xs.length → p (xs.getD i d) = true → ∀ r, Ev (fun k => L k ((i + 1 : Nat) : Int)) r → Ev (fun k => L k (i : Int)) r)
  (bad : ∀ i, i < xs.length → p (xs.getD i d) = false → Ev (fun k => L k (i : Int)) b)
  (fin : Ev (fun k => L k (xs.length : Int)) c) : Ev (fun k => L k 0) (if xs.all p = true then c else b) := by
 have key : ∀ (m i : Nat), i + m = xs.length → Ev (fun k => L k (i : Int)) (if (xs.drop i).all p = true then c else b) := by
  intro m
  induction m with
  | zero =>
   intro i hi
   have : i = xs.length := by omega
   subst this
   rw [List.drop_length]
   exact fin
  | succ m ih =>
   intro i hi
   have hlt : i < xs.length := by omega
   rw [List.drop_eq_getElem_cons hlt, List.all_cons, ← getD_lt d hlt]
   cases hp : p (xs.getD i d) with
   | true => rw [Bool.true_and]; exact step i hlt hp _ (ih (i + 1) (by omega))
   | false => rw [Bool.false_and, if_neg (by decide)]; exact bad i hlt hp
 exact key xs.length 0 (by omega)
theorem ev_sz {α : Type} (L : Nat → Int → Int → Option Int) (xs : List α) (d : α) (B : α → Prop)
  (step : ∀ i a, i < xs.length → 0 ≤ a → a ≤ 1048576 → Ev (fun k => L k a (i : Int)) (-1) ∨ (∃ a', 0 ≤ a' ∧ a' ≤ a ∧ B (xs.getD i d) ∧ ∀ r, Ev (fun k => L k a' ((i + 1 : Nat) : Int)) r → Ev (fun k => L k a (i : Int)) r))
  (fin : ∀ a, Ev (fun k => L k a (xs.length : Int)) a) : ∀ a, 0 ≤ a → a ≤ 1048576 → ∃ r, Ev (fun k => L k a 0) r ∧ (r < 0 ∨ (0 ≤ r ∧ r ≤ a ∧ ∀ x ∈ xs, B x)) := by
 have key : ∀ (m i : Nat) (a : Int), i + m = xs.length → 0 ≤ a → a ≤ 1048576 → ∃ r, Ev (fun k => L k a (i : Int)) r ∧ (r < 0 ∨ (0 ≤ r ∧ r ≤ a ∧ ∀ j, i ≤ j → j < xs.length → B (xs.getD j d))) := by
  intro m
  induction m with
  | zero =>
   intro i a hi h0 h1
   have : i = xs.length := by omega
   subst this
   exact ⟨a, fin a, .inr ⟨h0, Int.le_refl _, fun j h2 h3 => by omega⟩⟩
  | succ m ih =>
   intro i a hi h0 h1
   rcases step i a (by omega) h0 h1 with h | ⟨a', h2, h3, hB, h⟩
   ·
    exact ⟨-1, h, .inl (by decide)⟩
   ·
    obtain ⟨r, hr, hq⟩ := ih (i + 1) a' (by omega) h2 (by omega)
    refine ⟨r, h r hr, ?_⟩
    rcases hq with hq | ⟨q0, q1, q2⟩
    ·
     exact .inl hq
    ·
     refine .inr ⟨q0, by omega, fun j h4 h5 => ?_⟩
     by_cases e : j = i
     ·
      subst e; exact hB
     ·
      exact q2 j (by omega) h5
 intro a h0 h1
 obtain ⟨r, hr, hq⟩ := key xs.length 0 a (by omega) h0 h1
 refine ⟨r, hr, hq.imp_right fun ⟨q0, q1, q2⟩ => ⟨q0, q1, fun x hx => ?_⟩⟩
 obtain ⟨j, hj, rfl⟩ := List.mem_iff_getElem.1 hx
 rw [← getD_lt d hj]
 exact q2 j (Nat.zero_le _) hj
theorem szUnit_eq (x : S73) (a : Int) (w0 : x.f0.size ≤ maxLen) (h0 : 0 ≤ a) (h1 : a ≤ 1048576) : ∃ r, laws_szUnit.f (x.f0) (x.f1) (x.f2) (x.f3) (x.f4) (x.f5) (x.f6) a = some r ∧ (r < 0 ∨ (0 ≤ r ∧ r ≤ a ∧ x.f0.size ≤ 1048576)) := by
 unfold maxLen at w0
 unfold laws_szUnit.f wrap64
 repeat' split
 all_goals exact ⟨_, rfl, by omega⟩
def okUnitS (l : List S77) : Prop := l.length ≤ 1048576 ∧ ∀ x ∈ l, okUnit1 x
theorem Ev.succ {α : Type} {g : Nat → Option α} {r : α} (h : Ev (fun k => g (k + 1)) r) : Ev g r := Ev.step (fun _ => rfl) h
theorem Ev.now' {α : Type} {a b : α} (h : a = b) : Ev (fun _ => some a) b := h ▸ Ev.now a
theorem lit_i64 {x : Int} (h : (Lit.int .i64 x).wf = true) : -9223372036854775808 ≤ x ∧ x ≤ 9223372036854775807 := by
 have h2 : (decide (IntKind.i64.min ≤ x) && decide (x ≤ IntKind.i64.max)) = true := h
 simp only [Bool.and_eq_true, decide_eq_true_eq] at h2
 exact h2
def cvUnit (x : S73) : S77 := ⟨x.f0, x.f1, x.f2, x.f3, x.f4, x.f5, x.f6⟩
def cvUnitS (l : List S73) : List S77 := l.map cvUnit
theorem szUnitS_evo (l : List S73) (a : Int) (hw : l.length ≤ maxLen ∧ ∀ x0 ∈ l, x0.f0.size ≤ maxLen ∧ (Lit.int .i64 x0.f1).wf = true ∧ (Lit.int .i64 x0.f2).wf = true ∧ (Lit.int .i64 x0.f3).wf = true ∧ (Lit.int .i64 x0.f4).wf = true ∧ (Lit.int .i64 x0.f5).wf = true ∧ (Lit.int .i64 x0.f6).wf = true) (h0 : 0 ≤ a) (h1 : a ≤ 1048576) :
  ∃ r, Ev (fun k => laws_szUnitS.f k l a) r ∧ (r < 0 ∨ (0 ≤ r ∧ r ≤ a ∧ okUnitS (cvUnitS l))) := by
 obtain ⟨hl, hw⟩ := hw
 unfold maxLen at hl
 unfold laws_szUnitS.f
 rw [w64 (by omega) (by omega)]
 by_cases h : a - l.length < 0
 ·
  simp only [h, if_true]
  exact ⟨-1, Ev.now _, .inl (by decide)⟩
 ·
  simp only [h, if_false]
  obtain ⟨r, hr, hq⟩ := ev_sz (fun k a i => laws_szUnitS.l0 k l a i) l z73 (fun x => x.f0.size ≤ 1048576) (fun i a hi h0 h1 => by
   have hx := hw _ (getD_mem z73 hi)
   obtain ⟨r, hr, hq⟩ := szUnit_eq (l.getD i z73) a (hx.1) h0 h1
   have e : ∀ k, laws_szUnitS.l0 (k + 1) l a i = if r < 0 then some (-1) else laws_szUnitS.l0 k l r ((i + 1 : Nat) : Int) := fun k => by
    simp only [laws_szUnitS.l0]
    rw [if_pos (by omega), if_pos (by omega)]
    unfold rd_T73
    rw [Int.toNat_natCast, hr]
    simp only [Option.bind_some]
    rw [w64 (by omega) (by omega)]
    rfl
   rcases hq with hq | ⟨q0, q1, q2⟩
   ·
    exact .inl (Ev.step (f := fun _ => some (-1)) (fun k => by rw [e, if_pos hq]) (Ev.now _))
   ·
    exact .inr ⟨r, q0, q1, q2, fun s hs => Ev.step (fun k => by rw [e, if_neg (by omega)]) hs⟩) (fun a => Ev.step (f := fun _ => some a) (fun k => by simp only [laws_szUnitS.l0]; rw [if_neg (by omega)]) (Ev.now _)) (a - l.length) (by omega) (by omega)
  refine ⟨r, hr, hq.imp_right fun ⟨q0, q1, q2⟩ => ⟨q0, by omega, by simp only [cvUnitS, List.length_map]; omega, fun x hx => ?_⟩⟩
  obtain ⟨y, hy, rfl⟩ := List.mem_map.1 hx
  have hs := q2 y hy
  have hw := hw y hy
  exact ⟨hs, lit_i64 (hw.2.1), lit_i64 (hw.2.2.1), lit_i64 (hw.2.2.2.1), lit_i64 (hw.2.2.2.2.1), lit_i64 (hw.2.2.2.2.2.1), lit_i64 (hw.2.2.2.2.2.2)⟩
theorem toUnit_eq (x : S73) : laws_toUnit.f (x.f0) (x.f1) (x.f2) (x.f3) (x.f4) (x.f5) (x.f6) = some (x.f0, x.f1, x.f2, x.f3, x.f4, x.f5, x.f6) := by
 unfold laws_toUnit.f
 rfl
theorem ev_fill {β ρ : Type} (L : Nat → List β → Int → Option ρ) (base : List β) (d : β) (f : Nat → β) (r : ρ)
  (step : ∀ i acc, i < base.length → acc.length = base.length → acc.getD i d = base.getD i d → Ev (fun k => L k (acc.set i (f i)) ((i + 1 : Nat) : Int)) r → Ev (fun k => L k acc (i : Int)) r)
  (fin : Ev (fun k => L k ((List.range base.length).map f) (base.length : Int)) r) : Ev (fun k => L k base 0) r := by
 have key : ∀ (m i : Nat), i + m = base.length → Ev (fun k => L k ((List.range i).map f ++ base.drop i) (i : Int)) r := by
  intro m
  induction m with
  | zero =>
   intro i hi
   have : i = base.length := by omega
   subst this
   rw [List.drop_length, List.append_nil]
   exact fin
  | succ m ih =>
   intro i hi
   have hlt : i < base.length := by omega
   refine step i _ hlt (by simp; omega) ?_ ?_
   ·
    rw [List.getD_eq_getElem?_getD, List.getD_eq_getElem?_getD, List.getElem?_append_right (by simp)]
    simp
   ·
    have := ih (i + 1) (by omega)
    rw [List.range_succ, List.map_append, List.append_assoc] at this
    have e : ((List.range i).map f ++ base.drop i).set i (f i) = (List.range i).map f ++ ([i].map f ++ base.drop (i + 1)) := by
     rw [List.set_append_right _ _ (by simp), List.drop_eq_getElem_cons hlt, List.length_map, List.length_range, Nat.sub_self, List.set_cons_zero]
     rfl
    rw [e]
    exact this
 exact key base.length 0 (by omega)
theorem ev_cmap {α β : Type} (L : Nat → List β → Int → Option (List β)) (xs : List α) (d : α) (d' : β) (g : α → β)
  (step : ∀ (ys : List β) (i : Nat), i < xs.length → ys.length = xs.length → ∀ r, Ev (fun k => L k (ys.set i (g (xs.getD i d))) ((i + 1 : Nat) : Int)) r → Ev (fun k => L k ys (i : Int)) r)
  (fin : ∀ ys, Ev (fun k => L k ys (xs.length : Int)) ys) : Ev (fun k => L k (List.replicate xs.length d') 0) (xs.map g) := by
 have e : xs.map g = (List.range xs.length).map (fun i => g (xs.getD i d)) := by
  refine List.ext_getElem (by simp) fun i h1 h2 => ?_
  rw [List.getElem_map, List.getElem_map, List.getElem_range, getD_lt d (by simpa using h1)]
 have key := ev_fill L (List.replicate xs.length d') d' (fun i => g (xs.getD i d)) (xs.map g) (fun i acc hi hl _ hs => ?_) ?_
 ·
  exact key
 ·
  rw [List.length_replicate] at hi hl
  exact step acc i hi hl _ hs
 ·
  rw [List.length_replicate, ← e]
  exact fin _
theorem toUnitS_evo (l : List S73) (h : okUnitS (cvUnitS l)) : Ev (fun k => laws_toUnitS.f k l) (cvUnitS l) := by
 have hl : l.length ≤ 1048576 := by have := h.1; simpa [cvUnitS] using this
 refine Ev.congr (f := fun k => laws_toUnitS.l0 k l (List.replicate l.length z77) 0) (fun k => ?_) ?_
 ·
  unfold laws_toUnitS.f
  rw [if_pos (by omega), if_pos (by omega), Int.toNat_natCast]
 ·
  refine ev_cmap (fun k ys i => laws_toUnitS.l0 k l ys i) l z73 z77 cvUnit (fun ys i hi hl r hr => ?_) (fun ys => ?_)
  ·
   refine Ev.step (fun k => ?_) hr
   simp only [laws_toUnitS.l0]
   rw [if_pos (by omega), if_pos (by omega), toUnit_eq]
   simp only [Option.bind_some]
   rw [if_pos (by omega), w64 (by omega) (by omega), Int.toNat_natCast]
   unfold rd_T73
   rw [Int.toNat_natCast]
   rfl
  ·
   refine Ev.step (f := fun _ => some ys) (fun k => ?_) (Ev.now _)
   simp only [laws_toUnitS.l0]
   rw [if_neg (by omega)]
theorem eqUnit_eq (x : S77) : laws_eqUnit.f (x.f0) (x.f1) (x.f2) (x.f3) (x.f4) (x.f5) (x.f6) (x.f0) (x.f1) (x.f2) (x.f3) (x.f4) (x.f5) (x.f6) = some true := by
 unfold laws_eqUnit.f
 simp
theorem eqUnitS_evo (l : List S77) (h : okUnitS l) : Ev (fun k => laws_eqUnitS.f k l l) true := by
 have h := h.1
 refine Ev.congr (f := fun k => laws_eqUnitS.l0 k l l 0) (fun k => ?_) ?_
 ·
  unfold laws_eqUnitS.f
  rw [if_pos rfl]
 ·
  refine ev_eq laws_eqUnitS.l0 l (fun i hi hr => ?_) ?_
  ·
   refine Ev.step (fun k => ?_) hr
   simp only [laws_eqUnitS.l0]
   rw [if_pos (by omega), if_pos (by omega), if_pos (by omega), eqUnit_eq]
   simp only [Option.bind_some, if_true]
   rw [w64 (by omega) (by omega)]
   rfl
  ·
   refine Ev.step (f := fun _ => some true) (fun k => ?_) (Ev.now _)
   simp only [laws_eqUnitS.l0]
   rw [if_neg (by omega)]
theorem szBoolS_eq (l : List Bool) (a : Int) (hl : l.length ≤ maxLen) (h0 : 0 ≤ a) (h1 : a ≤ 1048576) : ∃ r, laws_szBoolS.f l a = some r ∧ (r < 0 ∨ (0 ≤ r ∧ r ≤ a ∧ (l.length : Int) ≤ a)) := by
 unfold maxLen at hl
 unfold laws_szBoolS.f
 rw [w64 (by omega) (by omega)]
 split
 ·
  exact ⟨_, rfl, .inl (by decide)⟩
 ·
  exact ⟨_, rfl, .inr ⟨by omega, by omega, by omega⟩⟩
theorem szBoolSS_ev3 (l : List (List Bool)) (a : Int) (hl : l.length ≤ maxLen) (hl2 : ∀ x ∈ l, x.length ≤ maxLen) (h0 : 0 ≤ a) (h1 : a ≤ 1048576) :
  ∃ r, Ev (fun k => laws_szBoolSS.f k l a) r ∧ (r < 0 ∨ (0 ≤ r ∧ r ≤ a ∧ l.length ≤ 1048576 ∧ ∀ x ∈ l, x.length ≤ 1048576)) := by
 unfold maxLen at hl
 unfold laws_szBoolSS.f
 rw [w64 (by omega) (by omega)]
 by_cases h : a - l.length < 0
 ·
  simp only [h, if_true]
  exact ⟨-1, Ev.now _, .inl (by decide)⟩
 ·
  simp only [h, if_false]
  obtain ⟨r, hr, hq⟩ := ev_sz (fun k a i => laws_szBoolSS.l0 k l a i) l [] (fun x => x.length ≤ 1048576) (fun i a hi h0 h1 => by
   obtain ⟨r, hr, hq⟩ := szBoolS_eq (l.getD i []) a (hl2 _ (getD_mem _ hi)) h0 h1
   have e : ∀ k, laws_szBoolSS.l0 (k + 1) l a i = if r < 0 then some (-1) else laws_szBoolSS.l0 k l r ((i + 1 : Nat) : Int) := fun k => by
    simp only [laws_szBoolSS.l0]
    rw [if_pos (by omega), if_pos (by omega)]
    unfold rd_L5
    rw [Int.toNat_natCast, hr]
    simp only [Option.bind_some]
    rw [w64 (by omega) (by omega)]
    rfl
   rcases hq with hq | ⟨q0, q1, q2⟩
   ·
    exact .inl (Ev.step (f := fun _ => some (-1)) (fun k => by rw [e, if_pos hq]) (Ev.now _))
   ·
    exact .inr ⟨r, q0, q1, by omega, fun s hs => Ev.step (fun k => by rw [e, if_neg (by omega)]) hs⟩) (fun a => Ev.step (f := fun _ => some a) (fun k => by simp only [laws_szBoolSS.l0]; rw [if_neg (by omega)]) (Ev.now _)) (a - l.length) (by omega) (by omega)
  exact ⟨r, hr, hq.imp_right fun ⟨q0, q1, q2⟩ => ⟨q0, by omega, by omega, q2⟩⟩
def okBoolSS (l : List (List Bool)) : Prop := l.length ≤ 1048576 ∧ ∀ x ∈ l, x.length ≤ 1048576
theorem szBoolSS_evo (l : List (List Bool)) (a : Int) (hw : l.length ≤ maxLen ∧ ∀ x0 ∈ l, x0.length ≤ maxLen) (h0 : 0 ≤ a) (h1 : a ≤ 1048576) :
  ∃ r, Ev (fun k => laws_szBoolSS.f k l a) r ∧ (r < 0 ∨ (0 ≤ r ∧ r ≤ a ∧ okBoolSS l)) := szBoolSS_ev3 l a hw.1 hw.2 h0 h1
def okBoolS (l : List Bool) : Prop := l.length ≤ 1048576
theorem toBoolS_evo (l : List Bool) (h : okBoolS l) : Ev (fun k => laws_toBoolS.f k l) l := by
 unfold okBoolS at h
 refine Ev.congr (f := fun k => laws_toBoolS.l0 k l (List.replicate l.length false) 0) (fun k => ?_) ?_
 ·
  unfold laws_toBoolS.f
  rw [if_pos (by omega), if_pos (by omega), Int.toNat_natCast]
 ·
  refine ev_copy laws_toBoolS.l0 l false false (fun ys i hi hl r hr => ?_) (fun ys => ?_)
  ·
   refine Ev.step (fun k => ?_) hr
   simp only [laws_toBoolS.l0]
   rw [if_pos (by omega), if_pos (by omega), if_pos (by omega), w64 (by omega) (by omega)]
   unfold rdOf
   rw [Int.toNat_natCast]
   rfl
  ·
   refine Ev.step (f := fun _ => some ys) (fun k => ?_) (Ev.now _)
   simp only [laws_toBoolS.l0]
   rw [if_neg (by omega)]
theorem toBoolSS_ev (l : List (List Bool)) (h : l.length ≤ 1048576) (h2 : ∀ x ∈ l, x.length ≤ 1048576) : Ev (fun k => laws_toBoolSS.f k l) l := by
 refine Ev.congr (f := fun k => laws_toBoolSS.l0 k l (List.replicate l.length []) 0) (fun k => ?_) ?_
 ·
  unfold laws_toBoolSS.f
  rw [if_pos (by omega), if_pos (by omega), Int.toNat_natCast]
 ·
  refine ev_copy laws_toBoolSS.l0 l [] [] (fun ys i hi hl r hr => ?_) (fun ys => ?_)
  ·
   refine Ev.step (f := fun k => (laws_toBoolS.f k (l.getD i [])).bind fun t => laws_toBoolSS.l0 k l (ys.set i t) ((i + 1 : Nat) : Int)) (fun k => ?_) (Ev.bind (toBoolS_evo _ (h2 _ (getD_mem [] hi))) hr)
   simp only [laws_toBoolSS.l0]
   rw [if_pos (by omega), if_pos (by omega)]
   simp only [show (i : Int) < ys.length by omega, if_true]
   rw [w64 (by omega) (by omega)]
   unfold rd_L5
   rw [Int.toNat_natCast]
   rfl
  ·
   refine Ev.step (f := fun _ => some ys) (fun k => ?_) (Ev.now _)
   simp only [laws_toBoolSS.l0]
   rw [if_neg (by omega)]
theorem toBoolSS_evo (l : List (List Bool)) (h : okBoolSS l) : Ev (fun k => laws_toBoolSS.f k l) l := toBoolSS_ev l h.1 h.2
theorem eqBoolS_evo (l : List Bool) (h : okBoolS l) : Ev (fun k => laws_eqBoolS.f k l l) true := by
 unfold okBoolS at h
 refine Ev.congr (f := fun k => laws_eqBoolS.l0 k l l 0) (fun k => ?_) ?_
 ·
  unfold laws_eqBoolS.f
  rw [if_pos rfl]
 ·
  refine ev_eq laws_eqBoolS.l0 l (fun i hi hr => ?_) ?_
  ·
   refine Ev.step (fun k => ?_) hr
   simp only [laws_eqBoolS.l0, bne_self_eq_false, Bool.false_eq_true, if_false]
   rw [if_pos (by omega), if_pos (by omega), if_pos (by omega), w64 (by omega) (by omega)]
   rfl
  ·
   refine Ev.step (f := fun _ => some true) (fun k => ?_) (Ev.now _)
   simp only [laws_eqBoolS.l0]
   rw [if_neg (by omega)]
theorem eqBoolSS_ev (l : List (List Bool)) (h : l.length ≤ 1048576) (h2 : ∀ x ∈ l, x.length ≤ 1048576) : Ev (fun k => laws_eqBoolSS.f k l l) true := by
 refine Ev.congr (f := fun k => laws_eqBoolSS.l0 k l l 0) (fun k => ?_) ?_
 ·
  unfold laws_eqBoolSS.f
  rw [if_pos rfl]
 ·
  refine ev_eq laws_eqBoolSS.l0 l (fun i hi hr => ?_) ?_
  ·
   refine Ev.step (f := fun k => (laws_eqBoolS.f k (l.getD i []) (l.getD i [])).bind fun t => if t = true then laws_eqBoolSS.l0 k l l ((i + 1 : Nat) : Int) else some false) (fun k => ?_) (Ev.bind (eqBoolS_evo _ (h2 _ (getD_mem [] hi))) hr)
   simp only [laws_eqBoolSS.l0]
   rw [if_pos (by omega), if_pos (by omega), if_pos (by omega), w64 (by omega) (by omega)]
   unfold rd_L5
   rw [Int.toNat_natCast]
   rfl
  ·
   refine Ev.step (f := fun _ => some true) (fun k => ?_) (Ev.now _)
   simp only [laws_eqBoolSS.l0]
   rw [if_neg (by omega)]
theorem eqBoolSS_evo (l : List (List Bool)) (h : okBoolSS l) : Ev (fun k => laws_eqBoolSS.f k l l) true := eqBoolSS_ev l h.1 h.2
theorem toInt64S_ev (l : List Int) (h : l.length ≤ 35184372088832) : Ev (fun k => laws_toInt64S.f k l) l := by
 refine Ev.congr (f := fun k => laws_toInt64S.l0 k l (List.replicate l.length 0) 0) (fun k => ?_) ?_
 ·
  unfold laws_toInt64S.f
  rw [if_pos (by omega), if_pos (by omega), Int.toNat_natCast]
 ·
  refine ev_copy laws_toInt64S.l0 l 0 0 (fun ys i hi hl r hr => ?_) (fun ys => ?_)
  ·
   refine Ev.step (fun k => ?_) hr
   simp only [laws_toInt64S.l0]
   rw [if_pos (by omega), if_pos (by omega), if_pos (by omega), w64 (by omega) (by omega), rd_nat, Int.toNat_natCast]
   rfl
  ·
   refine Ev.step (f := fun _ => some ys) (fun k => ?_) (Ev.now _)
   simp only [laws_toInt64S.l0]
   rw [if_neg (by omega)]
def okInt64S (l : List Int) : Prop := l.length ≤ 1048576
theorem toInt64S_evo (l : List Int) (h : okInt64S l) : Ev (fun k => laws_toInt64S.f k l) l := toInt64S_ev l (by unfold okInt64S at h; omega)
theorem eqInt64S_ev (l : List Int) (h : l.length ≤ 9223372036854775806) : Ev (fun k => laws_eqInt64S.f k l l) true := by
 refine Ev.congr (f := fun k => laws_eqInt64S.l0 k l l 0) (fun k => ?_) ?_
 ·
  unfold laws_eqInt64S.f
  rw [if_pos rfl]
 ·
  refine ev_eq laws_eqInt64S.l0 l (fun i hi hr => ?_) ?_
  ·
   refine Ev.step (fun k => ?_) hr
   simp only [laws_eqInt64S.l0]
   rw [if_pos (by omega), if_pos (by omega), if_pos (by omega), if_pos trivial, w64 (by omega) (by omega)]
   rfl
  ·
   refine Ev.step (f := fun _ => some true) (fun k => ?_) (Ev.now _)
   simp only [laws_eqInt64S.l0]
   rw [if_neg (by omega)]
theorem eqInt64S_evo (l : List Int) (h : okInt64S l) : Ev (fun k => laws_eqInt64S.f k l l) true := eqInt64S_ev l (by unfold okInt64S at h; omega)
def smallC (c : Int) : Bool := decide (97 ≤ c) && decide (c ≤ 122)
def digitC (c : Int) : Bool := decide (48 ≤ c) && decide (c ≤ 57)
def nameC (c : Int) : Bool := smallC c || digitC c
def nameOk (b : ByteArray) : Bool := decide (1 ≤ b.size) && (decide (b.size ≤ 10) && (smallC (bt b 0) && (List.range b.size).all fun i => nameC (bt b i)))
def zU : S77 := z77
def rdU (l : List S77) (i : Nat) : S77 := l.getD i zU
theorem rdU_eq (l : List S77) (i : Nat) : rd_T77 l (i : Int) = rdU l i := by
 unfold rd_T77 rdU zU
 rw [Int.toNat_natCast]
def unitOk (x : S77) : Bool := nameOk x.f0 && unitR x
def okU (l : List S77) (i : Nat) : Bool := unitOk (rdU l i) && (i == 0 || Op.bytesLess (rdU l (i - 1)).f0.toList (rdU l i).f0.toList)
def unitsOk (l : List S77) : Bool := inB 1 4 (l.length : Int) && (List.range l.length).all (okU l)
theorem unitsOk_facts {l : List S77} (h : unitsOk l = true) : (1 ≤ l.length ∧ l.length ≤ 4) ∧ ∀ i, i < l.length → unitR (rdU l i) = true := by
 unfold unitsOk inB at h
 simp only [Bool.and_eq_true, decide_eq_true_eq, List.all_eq_true] at h
 refine ⟨by omega, fun i hi => ?_⟩
 have h2 := h.2 i (by simpa using hi)
 unfold okU unitOk at h2
 simp only [Bool.and_eq_true] at h2
 exact h2.1.2
theorem unitR_facts {x : S77} (h : unitR x = true) : (0 ≤ x.f1 ∧ x.f1 ≤ 100000) ∧ (x.f1 ≤ x.f2 ∧ 1 ≤ x.f2 ∧ x.f2 ≤ 100000) ∧ (0 ≤ x.f3 ∧ x.f3 ≤ 100000) ∧ (0 ≤ x.f4 ∧ x.f4 ≤ 100000000) ∧ (1 ≤ x.f5 ∧ x.f5 ≤ 3) ∧ (1 ≤ x.f6 ∧ x.f6 ≤ 3) := by
 unfold unitR inU mxU at h
 simp only [Bool.and_eq_true, decide_eq_true_eq] at h
 obtain ⟨h1, h2, h3, h4, h5, h6⟩ := h
 refine ⟨h1, ?_, h3, h4, h5, h6⟩
 split at h2 <;> omega
theorem getD_range {n i : Nat} (h : i < n) : (List.range n).getD i 0 = i := by
 rw [getD_lt 0 (by simpa using h), List.getElem_range]
theorem specSmall_eq (c : Int) : spec_l01Small.f c = some (smallC c) := by
 unfold spec_l01Small.f smallC
 by_cases h : c ≥ 97
 ·
  rw [if_pos h, decide_eq_true (show 97 ≤ c from h)]; rfl
 ·
  rw [if_neg h, decide_eq_false (show ¬ 97 ≤ c from h)]; rfl
theorem specDigit_eq (c : Int) : spec_l01Digit.f c = some (digitC c) := by
 unfold spec_l01Digit.f digitC
 by_cases h : c ≥ 48
 ·
  rw [if_pos h, decide_eq_true (show 48 ≤ c from h)]; rfl
 ·
  rw [if_neg h, decide_eq_false (show ¬ 48 ≤ c from h)]; rfl
theorem specName_ev (b : ByteArray) : Ev (fun k => spec_l01Name.f k b) (nameOk b) := by
 unfold spec_l01Name.f nameOk
 have hz : b.toList = ([] : List UInt8) ↔ b.size = 0 := by
  rw [ByteArray.toList_eq, show b.size = b.data.toList.length from rfl]
  exact List.length_eq_zero_iff.symm
 by_cases h1 : b.size < 1
 ·
  rw [decide_eq_false (by omega), Bool.false_and]
  simp only [show b.toList = ([] : List UInt8) from hz.2 (by omega), if_true]
  exact Ev.step (f := fun _ => some false) (fun k => by simp [spec_l01Name.j0]) (Ev.now _)
 ·
  rw [decide_eq_true (show 1 ≤ b.size by omega), Bool.true_and]
  simp only [show ¬ b.toList = ([] : List UInt8) from fun e => by have := hz.1 e; omega, if_false]
  by_cases h10 : b.size > 10
  ·
   rw [decide_eq_false (show ¬ b.size ≤ 10 by omega), Bool.false_and]
   simp only [show (b.size : Int) > 10 by omega, if_true]
   exact Ev.step (f := fun _ => some false) (fun k => by simp [spec_l01Name.j0]) (Ev.now _)
  ·
   rw [decide_eq_true (show b.size ≤ 10 by omega), Bool.true_and]
   simp only [show ¬ (b.size : Int) > 10 by omega, if_false, show 0 < (b.size : Int) by omega, if_true, specSmall_eq, Option.bind_some]
   cases hs : smallC (bt b 0) with
   | false =>
    rw [Bool.false_and]
    exact Ev.step (f := fun _ => some false) (fun k => by simp [spec_l01Name.j0]) (Ev.now _)
   | true =>
    rw [Bool.true_and]
    refine Ev.step (f := fun k => spec_l01Name.l0 k b 0) (fun k => by simp [spec_l01Name.j0]) ?_
    have key := ev_all (fun k i => spec_l01Name.l0 k b i) (List.range b.size) 0 (fun i => nameC (bt b i)) false true (fun i hi hp s hs2 => ?_) (fun i hi hp => ?_) ?_
    ·
     revert key
     cases (List.range b.size).all fun i => nameC (bt b i) <;> exact id
    ·
     rw [List.length_range] at hi
     rw [getD_lt 0 (by simpa using hi), List.getElem_range] at hp
     refine Ev.step (fun k => ?_) hs2
     simp only [spec_l01Name.l0]
     rw [if_pos (by omega), if_pos (by omega), specSmall_eq, specDigit_eq]
     simp only [Option.bind_some]
     unfold nameC at hp
     cases h3 : smallC (bt b i) with
     | true => rw [if_pos rfl, w64 (by omega) (by omega)]; rfl
     | false =>
      rw [h3, Bool.false_or] at hp
      rw [hp, if_neg (by decide), if_pos rfl, w64 (by omega) (by omega)]
      rfl
    ·
     rw [List.length_range] at hi
     rw [getD_lt 0 (by simpa using hi), List.getElem_range] at hp
     refine Ev.step (f := fun _ => some false) (fun k => ?_) (Ev.now _)
     simp only [spec_l01Name.l0]
     unfold nameC at hp
     rw [Bool.or_eq_false_iff] at hp
     rw [if_pos (by omega), if_pos (by omega), specSmall_eq, specDigit_eq, hp.1, hp.2]
     rfl
    ·
     refine Ev.step (f := fun _ => some true) (fun k => ?_) (Ev.now _)
     simp only [spec_l01Name.l0]
     rw [List.length_range, if_neg (by omega)]
theorem specIn_eq (a lo hi : Int) : spec_l00In.f a lo hi = some (inB lo hi a) := by
 unfold spec_l00In.f inB
 by_cases h : a ≥ lo
 ·
  rw [if_pos h, decide_eq_true (show lo ≤ a from h)]; rfl
 ·
  rw [if_neg h, decide_eq_false (show ¬ lo ≤ a from h)]; rfl
theorem specUnit_ev (x : S77) : Ev (fun k => spec_l13One.f k [x]) (unitOk x) := by
 unfold spec_l13One.f unitOk
 simp only [List.length_singleton, show 0 < 1 by decide, if_true]
 exact Ev.bind (specName_ev x.f0) (Ev.now _)
theorem specUnits_ev (l : List S77) (hl : l.length ≤ 4611686018427387904) : Ev (fun k => spec_l13Ok.f k l) (unitsOk l) := by
 unfold spec_l13Ok.f
 have key := ev_all (fun k i => spec_l13Ok.l0 k l i) (List.range l.length) 0 (okU l) false (inB 1 4 (l.length : Int)) (fun i hi hp r hr => ?_) (fun i hi hp => ?_) ?_
 ·
  revert key
  unfold unitsOk
  cases (List.range l.length).all (okU l) with
  | true => rw [Bool.and_true]; exact id
  | false => rw [Bool.and_false]; exact id
 ·
  rw [List.length_range] at hi
  rw [getD_range hi] at hp
  refine Ev.succ ?_
  simp only [spec_l13Ok.l0, if_pos (show (i : Int) < (l.length : Int) by omega), if_pos (show (0 : Int) ≤ i by omega), rdU_eq]
  refine Ev.bind (specUnit_ev (rdU l i)) ?_
  unfold okU at hp
  rw [Bool.and_eq_true] at hp
  rw [hp.1]
  simp only [if_true, w64 (x := (i : Int) + 1) (by omega) (by omega)]
  by_cases h0 : i = 0
  ·
   subst h0
   simp only [if_neg (show ¬ ((0 : Nat) : Int) > 0 by decide)]
   exact hr
  ·
   have e : wrap64 ((i : Int) - 1) = ((i - 1 : Nat) : Int) := by
    rw [w64 (by omega) (by omega)]
    omega
   have e0 : (i == 0) = false := by simpa using h0
   have hb := hp.2
   rw [e0, Bool.false_or] at hb
   simp only [if_pos (show (i : Int) > 0 by omega), e, if_pos (show (0 : Int) ≤ ((i - 1 : Nat) : Int) by omega), if_pos (show ((i - 1 : Nat) : Int) < (l.length : Int) by omega), rdU_eq, hb, if_true]
   exact hr
 ·
  rw [List.length_range] at hi
  rw [getD_range hi] at hp
  refine Ev.succ ?_
  simp only [spec_l13Ok.l0, if_pos (show (i : Int) < (l.length : Int) by omega), if_pos (show (0 : Int) ≤ i by omega), rdU_eq]
  refine Ev.bind (specUnit_ev (rdU l i)) ?_
  unfold okU at hp
  cases hu : unitOk (rdU l i) with
  | false => exact Ev.now _
  | true =>
   rw [hu, Bool.true_and] at hp
   by_cases h0 : i = 0
   ·
    subst h0
    simp at hp
   ·
    have e : wrap64 ((i : Int) - 1) = ((i - 1 : Nat) : Int) := by
     rw [w64 (by omega) (by omega)]
     omega
    have e0 : (i == 0) = false := by simpa using h0
    rw [e0, Bool.false_or] at hp
    simp only [if_true, if_pos (show (i : Int) > 0 by omega), e, if_pos (show (0 : Int) ≤ ((i - 1 : Nat) : Int) by omega), if_pos (show ((i - 1 : Nat) : Int) < (l.length : Int) by omega), rdU_eq, hp, Bool.false_eq_true, if_false]
    exact Ev.now _
 ·
  rw [List.length_range]
  refine Ev.succ ?_
  simp only [spec_l13Ok.l0, if_neg (show ¬ (l.length : Int) < (l.length : Int) by omega), specIn_eq, Option.bind_some]
  exact Ev.now _
theorem implBytes_ev (b : ByteArray) (hb : b.size ≤ 10) : Ev (fun k => impl_onlyNameBytes.f k b) ((List.range b.size).all fun i => nameC (bt b i)) := by
 unfold impl_onlyNameBytes.f
 have key := ev_all (fun k i => impl_onlyNameBytes.l0 k b b.size i) (List.range b.size) 0 (fun i => nameC (bt b i)) false true (fun i hi hp s hs2 => ?_) (fun i hi hp => ?_) ?_
 ·
  revert key
  cases (List.range b.size).all fun i => nameC (bt b i) <;> exact id
 ·
  rw [List.length_range] at hi
  rw [getD_lt 0 (by simpa using hi), List.getElem_range] at hp
  refine Ev.step (fun k => ?_) hs2
  simp only [impl_onlyNameBytes.l0]
  rw [if_pos (by omega), if_pos (by omega), if_pos (by omega), w64 (by omega) (by omega)]
  simp only [nameC, smallC, digitC, Bool.or_eq_true, Bool.and_eq_true, decide_eq_true_eq] at hp
  split
  ·
   rw [if_neg (by omega), if_neg (by omega)]; rfl
  ·
   split
   ·
    omega
   ·
    rfl
 ·
  rw [List.length_range] at hi
  rw [getD_lt 0 (by simpa using hi), List.getElem_range] at hp
  refine Ev.step (f := fun _ => some false) (fun k => ?_) (Ev.now _)
  simp only [impl_onlyNameBytes.l0]
  rw [if_pos (by omega), if_pos (by omega), if_pos (by omega)]
  simp only [nameC, smallC, digitC, Bool.or_eq_false_iff, Bool.and_eq_false_iff, decide_eq_false_iff_not] at hp
  split
  ·
   split
   ·
    rfl
   ·
    rw [if_pos (by omega)]
  ·
   split
   ·
    rw [if_neg (by omega), if_pos (by omega)]
   ·
    omega
 ·
  refine Ev.step (f := fun _ => some true) (fun k => ?_) (Ev.now _)
  simp only [impl_onlyNameBytes.l0]
  rw [List.length_range, if_neg (by omega)]
theorem implName_ev (b : ByteArray) : Ev (fun k => impl_IsName.f k b) (nameOk b) := by
 unfold impl_IsName.f nameOk
 by_cases h1 : b.size < 1
 ·
  rw [decide_eq_false (by omega), Bool.false_and]
  simp only [show (b.size : Int) < 1 by omega, if_true]
  exact Ev.now _
 ·
  rw [decide_eq_true (show 1 ≤ b.size by omega), Bool.true_and]
  simp only [show ¬ (b.size : Int) < 1 by omega, if_false]
  by_cases h10 : b.size > 10
  ·
   rw [decide_eq_false (show ¬ b.size ≤ 10 by omega), Bool.false_and]
   simp only [show (b.size : Int) > 10 by omega, if_true]
   exact Ev.now _
  ·
   rw [decide_eq_true (show b.size ≤ 10 by omega), Bool.true_and]
   simp only [show ¬ (b.size : Int) > 10 by omega, if_false, show 0 < (b.size : Int) by omega, if_true]
   unfold smallC
   by_cases g1 : bt b 0 < 97
   ·
    simp only [g1, if_true, decide_eq_false (show ¬ 97 ≤ bt b 0 by omega), Bool.false_and]
    exact Ev.now _
   ·
    simp only [g1, if_false, decide_eq_true (show 97 ≤ bt b 0 by omega), Bool.true_and]
    by_cases g2 : bt b 0 > 122
    ·
     simp only [g2, if_true, decide_eq_false (show ¬ bt b 0 ≤ 122 by omega), Bool.false_and]
     exact Ev.now _
    ·
     simp only [g2, if_false, decide_eq_true (show bt b 0 ≤ 122 by omega), Bool.true_and]
     refine Ev.bind (implBytes_ev b (by omega)) ?_
     exact Ev.now _
theorem mx_eq (v : Int) : mx v 1 = mxU 1 v := by
 unfold mx mxU
 by_cases h : v < 1
 ·
  rw [if_pos h]
 ·
  rw [if_neg h]
theorem implUnit_ev (x : S77) : Ev (fun k => impl_Unit_valid.f k x.f0 x.f1 x.f2 x.f3 x.f4 x.f5 x.f6) (unitOk x) := by
 unfold impl_Unit_valid.f unitOk unitR
 refine Ev.bind (implName_ev x.f0) ?_
 simp only [impl_within.f, Option.bind_some, mx_eq]
 show Ev (fun _ => if nameOk x.f0 = true then (if inU 0 100000 x.f1 = true then (if inU (mxU 1 x.f1) 100000 x.f2 = true then (if inU 0 100000 x.f3 = true then (if inU 0 100000000 x.f4 = true then (if inU 1 3 x.f5 = true then some (inU 1 3 x.f6) else some false) else some false) else some false) else some false) else some false) else some false) _
 cases nameOk x.f0 <;> cases inU 0 100000 x.f1 <;> cases inU (mxU 1 x.f1) 100000 x.f2 <;> cases inU 0 100000 x.f3 <;> cases inU 0 100000000 x.f4 <;> cases inU 1 3 x.f5 <;> cases inU 1 3 x.f6 <;> exact Ev.now _
theorem implUnits_ev (l : List S77) (hl : l.length ≤ 4611686018427387904) : Ev (fun k => impl_ValidUnits.f k l) (unitsOk l) := by
 unfold impl_ValidUnits.f
 have jt : Ev (fun k => impl_ValidUnits.j0 k l true) false := Ev.step (f := fun _ => some false) (fun k => by simp [impl_ValidUnits.j0]) (Ev.now _)
 by_cases h1 : l.length < 1
 ·
  simp only [if_pos (show (l.length : Int) < 1 by omega)]
  have : unitsOk l = false := by
   unfold unitsOk inB
   rw [decide_eq_false (by omega), Bool.false_and, Bool.false_and]
  rw [this]
  exact jt
 ·
  simp only [if_neg (show ¬ (l.length : Int) < 1 by omega)]
  by_cases h4 : l.length > 4
  ·
   rw [decide_eq_true (show (l.length : Int) > 4 by omega)]
   have : unitsOk l = false := by
    unfold unitsOk inB
    rw [decide_eq_false (show ¬ (l.length : Int) ≤ 4 by omega), Bool.and_false, Bool.false_and]
   rw [this]
   exact jt
  ·
   rw [decide_eq_false (show ¬ (l.length : Int) > 4 by omega)]
   have : unitsOk l = (List.range l.length).all (okU l) := by
    unfold unitsOk inB
    rw [decide_eq_true (show (1 : Int) ≤ (l.length : Int) by omega), decide_eq_true (show (l.length : Int) ≤ 4 by omega), Bool.true_and, Bool.true_and]
   rw [this]
   refine Ev.succ ?_
   simp only [impl_ValidUnits.j0, Bool.false_eq_true, if_false]
   have key := ev_all (fun k i => impl_ValidUnits.l0 k l l (l.length : Int) i) (List.range l.length) 0 (okU l) false true (fun i hi hp r hr => ?_) (fun i hi hp => ?_) ?_
   ·
    revert key
    cases (List.range l.length).all (okU l) <;> exact id
   ·
    rw [List.length_range] at hi
    rw [getD_range hi] at hp
    refine Ev.succ ?_
    simp only [impl_ValidUnits.l0, if_pos (show (i : Int) < (l.length : Int) by omega), if_pos (show (0 : Int) ≤ i by omega), rdU_eq]
    refine Ev.bind (implUnit_ev (rdU l i)) ?_
    unfold okU at hp
    rw [Bool.and_eq_true] at hp
    rw [hp.1]
    simp only [if_true, w64 (x := (i : Int) + 1) (by omega) (by omega)]
    by_cases h0 : i = 0
    ·
     subst h0
     simp only [if_neg (show ¬ ((0 : Nat) : Int) > 0 by decide)]
     exact hr
    ·
     have e : wrap64 ((i : Int) - 1) = ((i - 1 : Nat) : Int) := by
      rw [w64 (by omega) (by omega)]
      omega
     have e0 : (i == 0) = false := by simpa using h0
     have hb := hp.2
     rw [e0, Bool.false_or] at hb
     simp only [if_pos (show (i : Int) > 0 by omega), e, if_pos (show (0 : Int) ≤ ((i - 1 : Nat) : Int) by omega), if_pos (show ((i - 1 : Nat) : Int) < (l.length : Int) by omega), rdU_eq, hb, if_true]
     exact hr
   ·
    rw [List.length_range] at hi
    rw [getD_range hi] at hp
    refine Ev.succ ?_
    simp only [impl_ValidUnits.l0, if_pos (show (i : Int) < (l.length : Int) by omega), if_pos (show (0 : Int) ≤ i by omega), rdU_eq]
    refine Ev.bind (implUnit_ev (rdU l i)) ?_
    unfold okU at hp
    cases hu : unitOk (rdU l i) with
    | false => exact Ev.now _
    | true =>
     rw [hu, Bool.true_and] at hp
     by_cases h0 : i = 0
     ·
      subst h0
      simp at hp
     ·
      have e : wrap64 ((i : Int) - 1) = ((i - 1 : Nat) : Int) := by
       rw [w64 (by omega) (by omega)]
       omega
      have e0 : (i == 0) = false := by simpa using h0
      rw [e0, Bool.false_or] at hp
      simp only [if_true, if_pos (show (i : Int) > 0 by omega), e, if_pos (show (0 : Int) ≤ ((i - 1 : Nat) : Int) by omega), if_pos (show ((i - 1 : Nat) : Int) < (l.length : Int) by omega), rdU_eq, hp, Bool.false_eq_true, if_false]
      exact Ev.now _
   ·
    rw [List.length_range]
    refine Ev.succ ?_
    simp only [impl_ValidUnits.l0, if_neg (show ¬ (l.length : Int) < (l.length : Int) by omega)]
    exact Ev.now _
def dOk (ds : List Int) : Bool := ds.all (inB 0 400000) && inB 1 12 (ds.length : Int)
def ask (l : List S77) (ds : List Int) : Int := if unitsOk l = true then (if dOk ds = true then 0 else 7) else 1
theorem specDem_ev (ds : List Int) (hl : ds.length ≤ 1048576) : Ev (fun k => spec_l13Demands.f k ds) (dOk ds) := by
 unfold spec_l13Demands.f
 have key := ev_all (fun k i => spec_l13Demands.l0 k ds i) ds 0 (inB 0 400000) false (inB 1 12 (ds.length : Int)) (fun i hi hp r hr => ?_) (fun i hi hp => ?_) ?_
 ·
  revert key
  unfold dOk
  cases ds.all (inB 0 400000) with
  | true => rw [Bool.true_and]; exact id
  | false => rw [Bool.false_and]; exact id
 ·
  refine Ev.succ ?_
  simp only [spec_l13Demands.l0, spec_l13Demand.f, if_pos (show (i : Int) < (ds.length : Int) by omega), if_pos (show (0 : Int) ≤ i by omega), rd_nat, specIn_eq, Option.bind_some, hp, if_true, w64 (x := (i : Int) + 1) (by omega) (by omega)]
  exact hr
 ·
  refine Ev.succ ?_
  simp only [spec_l13Demands.l0, spec_l13Demand.f, if_pos (show (i : Int) < (ds.length : Int) by omega), if_pos (show (0 : Int) ≤ i by omega), rd_nat, specIn_eq, Option.bind_some, hp, Bool.false_eq_true, if_false]
  exact Ev.now _
 ·
  refine Ev.succ ?_
  simp only [spec_l13Demands.l0, if_neg (show ¬ (ds.length : Int) < (ds.length : Int) by omega), specIn_eq, Option.bind_some]
  exact Ev.now _
theorem implAsk_ev (l : List S77) (ds : List Int) (h1 : l.length ≤ 1048576) (h2 : ds.length ≤ 1048576) : Ev (fun k => impl_demandsCode.f k l ds) (ask l ds) := by
 unfold impl_demandsCode.f ask
 refine Ev.bind (implUnits_ev l (by omega)) ?_
 cases unitsOk l with
 | false => exact Ev.now _
 | true =>
  simp only [if_true]
  unfold impl_allWithin.f dOk inB
  by_cases c1 : ds.length < 1
  ·
   simp only [if_pos (show (ds.length : Int) < 1 by omega), decide_eq_false (show ¬ (1 : Int) ≤ (ds.length : Int) by omega), Bool.false_and, Bool.and_false, Bool.false_eq_true, if_false]
   exact Ev.now _
  ·
   simp only [if_neg (show ¬ (ds.length : Int) < 1 by omega)]
   by_cases c2 : ds.length > 12
   ·
    simp only [if_pos (show (ds.length : Int) > 12 by omega), decide_eq_false (show ¬ (ds.length : Int) ≤ 12 by omega), Bool.and_false, Bool.false_eq_true, if_false]
    exact Ev.now _
   ·
    simp only [if_neg (show ¬ (ds.length : Int) > 12 by omega), if_pos (show ds.length < 9223372036854775807 by omega), Option.bind_some, decide_eq_true (show (1 : Int) ≤ (ds.length : Int) by omega), decide_eq_true (show (ds.length : Int) ≤ 12 by omega), Bool.and_true]
    cases ds.all (fun x => decide (0 ≤ x) && decide (x ≤ 400000)) <;> exact Ev.now _
theorem dOk_facts {ds : List Int} (h : dOk ds = true) : (1 ≤ ds.length ∧ ds.length ≤ 12) ∧ ∀ i : Nat, i < ds.length → 0 ≤ ds.getD i 0 ∧ ds.getD i 0 ≤ 400000 := by
 unfold dOk inB at h
 simp only [Bool.and_eq_true, decide_eq_true_eq, List.all_eq_true] at h
 exact ⟨by omega, fun i hi => h.1 _ (getD_mem 0 hi)⟩
theorem insRev_mem (p : Nat → Int) (x : Nat) : ∀ (l : List Nat) (y : Nat), y ∈ insRev p x l → y = x ∨ y ∈ l
 | [], y, h => .inl (List.mem_singleton.1 h)
 | z :: t, y, h => by
  rw [insRev] at h
  split at h
  ·
   rcases List.mem_cons.1 h with h | h
   ·
    exact .inr (by rw [h]; exact List.mem_cons_self)
   ·
    rcases insRev_mem p x t y h with h | h
    ·
     exact .inl h
    ·
     exact .inr (List.mem_cons_of_mem _ h)
  ·
   rcases List.mem_cons.1 h with h | h
   ·
    exact .inl h
   ·
    exact .inr h
theorem insRev_len (p : Nat → Int) (x : Nat) : ∀ (l : List Nat), (insRev p x l).length = l.length + 1
 | [] => rfl
 | z :: t => by
  rw [insRev]
  split
  ·
   rw [List.length_cons, insRev_len p x t, List.length_cons]
  ·
   rfl
def ordN (p : Nat → Int) (n : Nat) : List Nat := (List.range n).foldl (fun acc i => insRev p i acc) []
theorem ordN_succ (p : Nat → Int) (n : Nat) : ordN p (n + 1) = insRev p n (ordN p n) := by
 unfold ordN
 rw [List.range_succ, List.foldl_append]
 rfl
theorem ordN_facts (p : Nat → Int) : ∀ n : Nat, (ordN p n).length = n ∧ ∀ x ∈ ordN p n, x < n
 | 0 => ⟨rfl, fun x hx => by cases hx⟩
 | n + 1 => by
  obtain ⟨a, b⟩ := ordN_facts p n
  rw [ordN_succ]
  refine ⟨by rw [insRev_len, a], fun x hx => ?_⟩
  rcases insRev_mem p n _ x hx with h | h
  ·
   omega
  ·
   have := b x h
   omega
theorem meritN_eq (p : Nat → Int) (n : Nat) : meritN p n = (ordN p n).reverse := rfl
theorem merit_facts (l : List S77) : (meritI l).length = l.length ∧ ∀ x ∈ meritI l, x < l.length := by
 unfold meritI
 rw [meritN_eq]
 obtain ⟨a, b⟩ := ordN_facts (fun i => (rd_T77 l (i : Int)).f3) l.length
 exact ⟨by rw [List.length_reverse, a], fun x hx => b x (List.mem_reverse.1 hx)⟩
def castL (l : List Nat) : List Int := l.map fun i : Nat => (i : Int)
theorem castL_append (a b : List Nat) : castL (a ++ b) = castL a ++ castL b := List.map_append
theorem castL_len (a : List Nat) : (castL a).length = a.length := List.length_map ..
theorem rd_castL (a : List Nat) (i : Nat) (h : i < a.length) : rd (castL a) (i : Int) = ((a.getD i 0 : Nat) : Int) := by
 rw [rd_nat, getD_lt 0 (by rw [castL_len]; exact h), getD_lt 0 h]
 exact List.getElem_map ..
theorem specIns_ev (l : List S77) (hl : l.length ≤ 1000) (i : Nat) (hi : i < l.length) (r : List Int) : ∀ (R M : List Nat), (∀ x ∈ R, x < l.length) → R.length + M.length ≤ 1000 →
  Ev (fun k => spec_l13Order.l0 k l (castL ((insRev (fun j => (rdU l j).f3) i R).reverse ++ M)) ((i + 1 : Nat) : Int)) r → Ev (fun k => spec_l13Order.l1 k l (castL (R.reverse ++ M)) (i : Int) (R.length : Int)) r := by
 intro R
 induction R with
 | nil =>
  intro M _ hlen hr
  refine Ev.succ ?_
  have e1 : (castL M).take ((0 : Nat) : Int).toNat = [] := rfl
  have e2 : (castL M).drop ((0 : Nat) : Int).toNat = castL M := rfl
  have e3 : ([] : List Nat).reverse ++ M = M := rfl
  simp only [spec_l13Order.l1, List.length_nil, e3, if_neg (show ¬ ((0 : Nat) : Int) > 0 by decide), Option.bind_some, if_pos (show (0 : Int) ≤ ((0 : Nat) : Int) by decide), if_pos (show ((0 : Nat) : Int) ≤ ((castL M).length : Int) by omega), e1, e2, List.length_append, List.length_cons, castL_len, Nat.zero_add, w64 (x := (i : Int) + 1) (by omega) (by omega)]
  rw [List.length_nil] at hlen
  simp (disch := omega) only [if_pos]
  refine Ev.congr (fun k => ?_) hr
  congr 1
 | cons y t ih =>
  intro M hm hlen hr
  rw [List.length_cons] at hlen
  have hy := hm y List.mem_cons_self
  have hacc : (y :: t).reverse ++ M = t.reverse ++ y :: M := by simp
  have hget : rd (castL ((y :: t).reverse ++ M)) (t.length : Int) = (y : Int) := by
   rw [rd_castL _ _ (by simp <;> omega), hacc, getD_lt 0 (by simp)]
   simp
  have hcl : ((castL ((y :: t).reverse ++ M)).length : Int) = ((t.length + 1 + M.length : Nat) : Int) := by
   rw [castL_len]
   simp
   omega
  refine Ev.succ ?_
  have e : wrap64 (((y :: t).length : Int) - 1) = (t.length : Int) := by
   rw [List.length_cons, w64 (by omega) (by omega)]
   omega
  simp only [spec_l13Order.l1, if_pos (show ((y :: t).length : Int) > 0 by rw [List.length_cons]; omega), e, if_pos (show (0 : Int) ≤ (t.length : Int) by omega), hcl, if_pos (show (t.length : Int) < ((t.length + 1 + M.length : Nat) : Int) by omega), hget, if_pos (show (0 : Int) ≤ (y : Int) by omega), if_pos (show (y : Int) < (l.length : Int) by omega), if_pos (show (0 : Int) ≤ (i : Int) by omega), if_pos (show (i : Int) < (l.length : Int) by omega), rdU_eq]
  rw [insRev] at hr
  by_cases hc : (rdU l y).f3 > (rdU l i).f3
  ·
   rw [if_pos (show (rdU l i).f3 < (rdU l y).f3 from hc)] at hr
   simp only [if_pos hc]
   rw [hacc]
   refine ih (y :: M) (fun x hx => hm x (List.mem_cons_of_mem _ hx)) (by rw [List.length_cons]; omega) ?_
   rw [List.reverse_cons, List.append_assoc] at hr
   exact hr
  ·
   rw [if_neg (show ¬ (rdU l i).f3 < (rdU l y).f3 from hc)] at hr
   have e1 : (castL ((y :: t).reverse ++ M)).take (((t.length + 1 : Nat) : Int)).toNat = castL (y :: t).reverse := by
    rw [Int.toNat_natCast, castL_append, List.take_left' (by rw [castL_len, List.length_reverse, List.length_cons])]
   have e2 : (castL ((y :: t).reverse ++ M)).drop (((t.length + 1 : Nat) : Int)).toNat = castL M := by
    rw [Int.toNat_natCast, castL_append, List.drop_left' (by rw [castL_len, List.length_reverse, List.length_cons])]
   simp only [if_neg hc, Option.bind_some, List.length_cons, e1, e2, List.nil_append, List.length_append, List.length_nil, castL_len, List.length_reverse, w64 (x := (i : Int) + 1) (by omega) (by omega)]
   simp (disch := omega) only [if_pos]
   refine Ev.congr (fun k => ?_) hr
   congr 1
   simp [castL]
theorem specOrder_ev (l : List S77) (hl : l.length ≤ 1000) : Ev (fun k => spec_l13Order.f k l) (castL (meritI l)) := by
 unfold spec_l13Order.f
 have hp : (fun i : Nat => (rd_T77 l (i : Int)).f3) = fun j => (rdU l j).f3 := by
  funext j
  rw [rdU_eq]
 have key : ∀ (m i : Nat), i + m = l.length → Ev (fun k => spec_l13Order.l0 k l (castL (ordN (fun j => (rdU l j).f3) i).reverse) (i : Int)) (castL (meritI l)) := by
  intro m
  induction m with
  | zero =>
   intro i hi
   obtain rfl : i = l.length := by omega
   refine Ev.succ ?_
   simp only [spec_l13Order.l0, if_neg (show ¬ (l.length : Int) < (l.length : Int) by omega)]
   refine Ev.now' ?_
   unfold meritI
   rw [meritN_eq, hp]
  | succ m ih =>
   intro i hi
   obtain ⟨a, b⟩ := ordN_facts (fun j => (rdU l j).f3) i
   refine Ev.succ ?_
   simp only [spec_l13Order.l0, if_pos (show (i : Int) < (l.length : Int) by omega), castL_len, List.length_reverse]
   have h := specIns_ev l hl i (by omega) (castL (meritI l)) (ordN (fun j => (rdU l j).f3) i) [] (fun x hx => by have := b x hx; omega) (by rw [a, List.length_nil]; omega)
   rw [List.append_nil, List.append_nil] at h
   refine h ?_
   rw [← ordN_succ]
   exact ih (i + 1) (by omega)
 exact key l.length 0 (Nat.zero_add _)
theorem getD_set (x : List Int) (i j : Nat) (v : Int) : (x.set i v).getD j 0 = if i = j ∧ i < x.length then v else x.getD j 0 := by
 rw [List.getD_eq_getElem?_getD, List.getElem?_set]
 by_cases h : i = j
 ·
  subst h
  by_cases h2 : i < x.length
  ·
   simp [h2]
  ·
   simp [h2, List.getD_eq_getElem?_getD]
 ·
  simp [h, List.getD_eq_getElem?_getD]
theorem set_same (x : List Int) (i : Nat) (h : i < x.length) : x.set i (x.getD i 0) = x := by
 rw [getD_lt 0 h]
 exact List.set_getElem_self h
def st1 (l : List S77) (on : List Bool) : Nat → Nat → List Int → Int → List Int × Int
 | 0, _, x, c => (x, c)
 | m + 1, i, x, c => if on.getD i false = true then st1 l on m (i + 1) (x.set i (rdU l i).f1) (c - (rdU l i).f1) else st1 l on m (i + 1) x c
def st2 (l : List S77) (on : List Bool) : List Nat → List Int → Int → List Int × Int
 | [], x, c => (x, c)
 | j :: t, x, c => if on.getD j false = true then st2 l on t (x.set j (x.getD j 0 + min c ((rdU l j).f2 - (rdU l j).f1))) (c - min c ((rdU l j).f2 - (rdU l j).f1)) else st2 l on t x c
def cst (l : List S77) (x : List Int) : Nat → Nat → Int → Int
 | 0, _, c => c
 | m + 1, i, c => cst l x m (i + 1) (c + x.getD i 0 * (rdU l i).f3)
def Bx (x : List Int) (M : Int) : Prop := ∀ j : Nat, 0 ≤ x.getD j 0 ∧ x.getD j 0 ≤ M
theorem Bx_set {x : List Int} {M v : Int} (h : Bx x M) (i : Nat) (h0 : 0 ≤ v) (h1 : v ≤ M) : Bx (x.set i v) M := by
 intro j
 rw [getD_set]
 split
 ·
  exact ⟨h0, h1⟩
 ·
  exact h j
theorem Bx_mono {x : List Int} {M M' : Int} (h : Bx x M) (hM : M ≤ M') : Bx x M' := fun j => ⟨(h j).1, Int.le_trans (h j).2 hM⟩
theorem st1_facts (l : List S77) (on : List Bool) (hx : ∀ i, i < l.length → unitR (rdU l i) = true) : ∀ (m i : Nat) (x : List Int) (c : Int), i + m = l.length → x.length = l.length → Bx x 100000 → c ≤ 400000 → (st1 l on m i x c).1.length = l.length ∧ Bx (st1 l on m i x c).1 100000 ∧ (st1 l on m i x c).2 ≤ 400000 := by
 intro m
 induction m with
 | zero => intro i x c hi hl hb hc; exact ⟨hl, hb, hc⟩
 | succ m ih =>
  intro i x c hi hl hb hc
  have f := unitR_facts (hx i (by omega))
  unfold st1
  split
  ·
   exact ih (i + 1) _ _ (by omega) (by rw [List.length_set]; exact hl) (Bx_set hb i (by omega) (by omega)) (by omega)
  ·
   exact ih (i + 1) _ _ (by omega) hl hb hc
theorem st2_zero (l : List S77) (on : List Bool) (hx : ∀ i, i < l.length → unitR (rdU l i) = true) : ∀ (O : List Nat) (x : List Int), (∀ j ∈ O, j < l.length) → x.length = l.length → st2 l on O x 0 = (x, 0) := by
 intro O
 induction O with
 | nil => intro x _ _; rfl
 | cons j t ih =>
  intro x ho hl
  have hj := ho j List.mem_cons_self
  have f := unitR_facts (hx j hj)
  have e : min 0 ((rdU l j).f2 - (rdU l j).f1) = 0 := by omega
  unfold st2
  rw [e, Int.add_zero, Int.sub_zero, set_same x j (by omega), ite_self]
  exact ih x (fun y hy => ho y (List.mem_cons_of_mem _ hy)) hl
theorem st2_facts (l : List S77) (on : List Bool) (hx : ∀ i, i < l.length → unitR (rdU l i) = true) : ∀ (O : List Nat) (x : List Int) (c : Int), (∀ j ∈ O, j < l.length) → x.length = l.length → 0 ≤ c → Bx x (500000 - c) → (st2 l on O x c).1.length = l.length ∧ 0 ≤ (st2 l on O x c).2 ∧ Bx (st2 l on O x c).1 (500000 - (st2 l on O x c).2) := by
 intro O
 induction O with
 | nil => intro x c _ hl hc hb; exact ⟨hl, hc, hb⟩
 | cons j t ih =>
  intro x c ho hl hc hb
  have hj := ho j List.mem_cons_self
  have f := unitR_facts (hx j hj)
  have b := hb j
  unfold st2
  split
  ·
   exact ih _ _ (fun y hy => ho y (List.mem_cons_of_mem _ hy)) (by rw [List.length_set]; exact hl) (by omega) (Bx_set (Bx_mono hb (by omega)) j (by omega) (by omega))
  ·
   exact ih _ _ (fun y hy => ho y (List.mem_cons_of_mem _ hy)) hl hc hb
theorem mul_bd5 {a b : Int} (h0 : 0 ≤ a) (h1 : a ≤ 500000) (h2 : 0 ≤ b) (h3 : b ≤ 100000) : 0 ≤ a * b ∧ a * b ≤ 50000000000 :=
 ⟨Int.mul_nonneg h0 h2, by have := Int.mul_le_mul h1 h3 h2 (by omega); omega⟩
theorem rdOfB (on : List Bool) (i : Nat) : rdOf false on (i : Int) = on.getD i false := by
 unfold rdOf
 rw [Int.toNat_natCast]
theorem specCost_ev (l : List S77) (x : List Int) (c : Int) (hx : ∀ i, i < l.length → unitR (rdU l i) = true) (hl : x.length = l.length) (hn : l.length ≤ 4) (hb : Bx x 500000) :
  Ev (fun k => spec_l13Share.l2 k l x c 0 0) (x, cst l x l.length 0 0, c == 0) := by
 have key : ∀ (m i : Nat) (s : Int), i + m = l.length → 0 ≤ s ∧ s ≤ 50000000000 * i → Ev (fun k => spec_l13Share.l2 k l x c s (i : Int)) (x, cst l x m i s, c == 0) := by
  intro m
  induction m with
  | zero =>
   intro i s hi hs
   refine Ev.succ ?_
   simp only [spec_l13Share.l2, if_neg (show ¬ (i : Int) < (l.length : Int) by omega)]
   exact Ev.now _
  | succ m ih =>
   intro i s hi hs
   have f := unitR_facts (hx i (by omega))
   have b := hb i
   have mb := mul_bd5 (a := x.getD i 0) (b := (rdU l i).f3) (by omega) (by omega) (by omega) (by omega)
   refine Ev.succ ?_
   simp only [spec_l13Share.l2, if_pos (show (i : Int) < (l.length : Int) by omega), if_pos (show (0 : Int) ≤ (i : Int) by omega), if_pos (show (i : Int) < (x.length : Int) by omega), rd_nat, rdU_eq]
   rw [w64 (x := (i : Int) + 1) (by omega) (by omega), w64 (x := x.getD i 0 * (rdU l i).f3) (by omega) (by omega), w64 (by omega) (by omega)]
   exact ih (i + 1) _ (by omega) (by omega)
 exact key l.length 0 0 (Nat.zero_add _) (by omega)
def shr (l : List S77) (on : List Bool) (a : Int) : List Int × Int :=
 let s := st1 l on l.length 0 (List.replicate l.length 0) a
 if s.2 < 0 then s else st2 l on (meritI l) s.1 s.2
theorem Bx_rep (n : Nat) : Bx (List.replicate n 0) 100000 := by
 intro j
 rw [List.getD_eq_getElem?_getD, List.getElem?_replicate]
 split <;> simp
theorem shr_facts (l : List S77) (on : List Bool) (a : Int) (hx : ∀ i, i < l.length → unitR (rdU l i) = true) (ha : a ≤ 400000) : (shr l on a).1.length = l.length ∧ Bx (shr l on a).1 500000 := by
 obtain ⟨ml, mm⟩ := merit_facts l
 obtain ⟨f1, f2, f3⟩ := st1_facts l on hx l.length 0 (List.replicate l.length 0) a (Nat.zero_add _) (List.length_replicate ..) (Bx_rep _) ha
 unfold shr
 simp only
 split
 ·
  exact ⟨f1, Bx_mono f2 (by omega)⟩
 ·
  obtain ⟨g1, g2, g3⟩ := st2_facts l on hx (meritI l) _ _ mm f1 (by omega) (Bx_mono f2 (by omega : (100000 : Int) ≤ 500000 - (st1 l on l.length 0 (List.replicate l.length 0) a).2))
  exact ⟨g1, Bx_mono g3 (by omega)⟩
theorem specShare_ev (l : List S77) (on : List Bool) (a : Int) (hu : unitsOk l = true) (hon : on.length = l.length) (ha : 0 ≤ a ∧ a ≤ 400000) :
  Ev (fun k => spec_l13Share.f k l on a) ((shr l on a).1, cst l (shr l on a).1 l.length 0 0, (shr l on a).2 == 0) := by
 obtain ⟨⟨n1, n2⟩, hx⟩ := unitsOk_facts hu
 obtain ⟨ml, mm⟩ := merit_facts l
 obtain ⟨s1, s2⟩ := shr_facts l on a hx (by omega)
 unfold spec_l13Share.f
 simp only [if_pos (show (0 : Int) ≤ (l.length : Int) by omega), Int.toNat_natCast, if_pos (show l.length ≤ 35184372088832 by omega)]
 obtain ⟨f1, f2, f3⟩ := st1_facts l on hx l.length 0 (List.replicate l.length 0) a (Nat.zero_add _) (List.length_replicate ..) (Bx_rep _) (by omega)
 have key2 : ∀ (m i : Nat) (x : List Int) (c : Int), i + m = (meritI l).length → x.length = l.length → 0 ≤ c → Bx x (500000 - c) → Ev (fun k => spec_l13Share.l1 k l on x c (castL (meritI l)) (i : Int)) ((st2 l on ((meritI l).drop i) x c).1, cst l (st2 l on ((meritI l).drop i) x c).1 l.length 0 0, (st2 l on ((meritI l).drop i) x c).2 == 0) := by
  intro m
  induction m with
  | zero =>
   intro i x c hi hl hc hb
   rw [List.drop_eq_nil_of_le (by omega)]
   refine Ev.succ ?_
   simp only [spec_l13Share.l1, castL_len, if_neg (show ¬ (i : Int) < ((meritI l).length : Int) by omega)]
   refine Ev.succ ?_
   simp only [spec_l13Share.j2, Bool.false_eq_true, if_false]
   exact specCost_ev l x c hx hl n2 (Bx_mono hb (by omega))
  | succ m ih =>
   intro i x c hi hl hc hb
   have hlt : i < (meritI l).length := by omega
   have hj := mm _ (List.getElem_mem hlt)
   have f := unitR_facts (hx _ hj)
   have eg : (meritI l).getD i 0 = (meritI l)[i] := getD_lt 0 hlt
   refine Ev.succ ?_
   simp only [spec_l13Share.l1, castL_len, if_pos (show (i : Int) < ((meritI l).length : Int) by omega)]
   refine Ev.succ ?_
   by_cases hz : c > 0
   ·
    rw [List.drop_eq_getElem_cons hlt]
    generalize (meritI l)[i] = j at *
    have em : (if c < wrap64 ((rdU l j).f2 - (rdU l j).f1) then some c else some (wrap64 ((rdU l j).f2 - (rdU l j).f1))) = some (min c ((rdU l j).f2 - (rdU l j).f1)) := by
     rw [w64 (by omega) (by omega)]
     split <;> congr 1 <;> omega
    have b := hb j
    simp only [spec_l13Share.j2, decide_eq_true hz, if_true, castL_len, if_pos (show (i : Int) < ((meritI l).length : Int) by omega), if_pos (show (0 : Int) ≤ (i : Int) by omega), rd_castL (meritI l) i hlt, eg, if_pos (show (0 : Int) ≤ (j : Int) by omega), if_pos (show (j : Int) < (on.length : Int) by omega), if_pos (show (j : Int) < (l.length : Int) by omega), if_pos (show (j : Int) < (x.length : Int) by omega), rdOfB, rdU_eq, rd_nat, spec_l00Min.f, em, Option.bind_some, Int.toNat_natCast]
    rw [st2, w64 (x := (i : Int) + 1) (by omega) (by omega), w64 (x := c - min c ((rdU l j).f2 - (rdU l j).f1)) (by omega) (by omega), w64 (x := x.getD j 0 + min c ((rdU l j).f2 - (rdU l j).f1)) (by omega) (by omega)]
    by_cases ho : on.getD j false = true
    ·
     simp only [if_pos ho]
     exact ih (i + 1) _ _ (by omega) (by rw [List.length_set]; exact hl) (by omega) (Bx_set (Bx_mono hb (by omega)) j (by omega) (by omega))
    ·
     simp only [if_neg ho]
     exact ih (i + 1) _ _ (by omega) hl hc hb
   ·
    have hc0 : c = 0 := by omega
    subst hc0
    rw [st2_zero l on hx _ x (fun y hy => mm y (List.mem_of_mem_drop hy)) hl]
    simp only [spec_l13Share.j2, decide_eq_false hz, Bool.false_eq_true, if_false]
    exact specCost_ev l x 0 hx hl n2 (Bx_mono hb (by omega))
 have key1 : ∀ (m i : Nat) (x : List Int) (c : Int), i + m = l.length → x.length = l.length → -100000 * (i : Int) ≤ c ∧ c ≤ 400000 → ∀ r, Ev (fun k => (spec_l13Order.f k l).bind fun t189 => spec_l13Share.l1 k l on (st1 l on m i x c).1 (st1 l on m i x c).2 t189 0) r → Ev (fun k => spec_l13Share.l0 k l on x c (i : Int)) r := by
  intro m
  induction m with
  | zero =>
   intro i x c hi hl hc r hr
   refine Ev.succ ?_
   simp only [spec_l13Share.l0, if_neg (show ¬ (i : Int) < (l.length : Int) by omega)]
   exact hr
  | succ m ih =>
   intro i x c hi hl hc r hr
   have f := unitR_facts (hx i (by omega))
   refine Ev.succ ?_
   simp only [spec_l13Share.l0, if_pos (show (i : Int) < (l.length : Int) by omega), if_pos (show (0 : Int) ≤ (i : Int) by omega), if_pos (show (i : Int) < (on.length : Int) by omega), if_pos (show (i : Int) < (x.length : Int) by omega), rdOfB, rdU_eq, Int.toNat_natCast]
   rw [w64 (x := (i : Int) + 1) (by omega) (by omega), w64 (x := c - (rdU l i).f1) (by omega) (by omega)]
   unfold st1 at hr
   by_cases ho : on.getD i false = true
   ·
    simp only [if_pos ho] at hr ⊢
    exact ih (i + 1) _ _ (by omega) (by rw [List.length_set]; exact hl) (by omega) r hr
   ·
    simp only [if_neg ho] at hr ⊢
    exact ih (i + 1) _ _ (by omega) hl (by omega) r hr
 refine key1 l.length 0 _ a (Nat.zero_add _) (List.length_replicate ..) (by omega) _ ?_
 refine Ev.bind (specOrder_ev l (by omega)) ?_
 by_cases hn : (st1 l on l.length 0 (List.replicate l.length 0) a).2 < 0
 ·
  have es : shr l on a = st1 l on l.length 0 (List.replicate l.length 0) a := by
   unfold shr
   simp only [if_pos hn]
  rw [es] at s1 s2 ⊢
  generalize st1 l on l.length 0 (List.replicate l.length 0) a = st at *
  refine Ev.succ ?_
  have hnn : ¬ st.2 > 0 := by omega
  simp only [spec_l13Share.l1, decide_eq_false hnn, ite_self]
  refine Ev.succ ?_
  simp only [spec_l13Share.j2, Bool.false_eq_true, if_false]
  exact specCost_ev l _ _ hx s1 n2 s2
 ·
  have es : shr l on a = st2 l on (meritI l) (st1 l on l.length 0 (List.replicate l.length 0) a).1 (st1 l on l.length 0 (List.replicate l.length 0) a).2 := by
   unfold shr
   simp only [if_neg hn]
  rw [es]
  have h := key2 (meritI l).length 0 _ (st1 l on l.length 0 (List.replicate l.length 0) a).2 (Nat.zero_add _) f1 (by omega) (Bx_mono f2 (by omega))
  rw [List.drop_zero] at h
  exact h
theorem implShare_ev (l : List S77) (on : List Bool) (a : Int) (hu : unitsOk l = true) (hon : on.length = l.length) (ha : 0 ≤ a ∧ a ≤ 400000) :
  Ev (fun k => impl_shareDemand.f k l on a) (if (shr l on a).2 < 0 then (([] : List Int), false) else ((shr l on a).1, (shr l on a).2 == 0)) := by
 obtain ⟨⟨n1, n2⟩, hx⟩ := unitsOk_facts hu
 obtain ⟨ml, mm⟩ := merit_facts l
 unfold impl_shareDemand.f
 simp only [if_pos (show (0 : Int) ≤ (l.length : Int) by omega), Int.toNat_natCast, if_pos (show l.length ≤ 35184372088832 by omega)]
 obtain ⟨f1, f2, f3⟩ := st1_facts l on hx l.length 0 (List.replicate l.length 0) a (Nat.zero_add _) (List.length_replicate ..) (Bx_rep _) (by omega)
 have key2 : ∀ (m i : Nat) (x : List Int) (c : Int), i + m = (meritI l).length → x.length = l.length → 0 ≤ c → Bx x (500000 - c) → Ev (fun k => impl_shareDemand.l1 k l on x c (castL (meritI l)) ((meritI l).length : Int) (i : Int)) ((st2 l on ((meritI l).drop i) x c).1, (st2 l on ((meritI l).drop i) x c).2 == 0) := by
  intro m
  induction m with
  | zero =>
   intro i x c hi hl hc hb
   rw [List.drop_eq_nil_of_le (by omega)]
   refine Ev.succ ?_
   simp only [impl_shareDemand.l1, if_neg (show ¬ (i : Int) < ((meritI l).length : Int) by omega)]
   exact Ev.now _
  | succ m ih =>
   intro i x c hi hl hc hb
   have hlt : i < (meritI l).length := by omega
   have hj := mm _ (List.getElem_mem hlt)
   have f := unitR_facts (hx _ hj)
   have eg : (meritI l).getD i 0 = (meritI l)[i] := getD_lt 0 hlt
   refine Ev.succ ?_
   rw [List.drop_eq_getElem_cons hlt]
   generalize (meritI l)[i] = j at *
   have em : mn (wrap64 ((rdU l j).f2 - (rdU l j).f1)) c = min c ((rdU l j).f2 - (rdU l j).f1) := by
    rw [w64 (by omega) (by omega)]
    unfold mn
    split <;> omega
   have b := hb j
   simp only [impl_shareDemand.l1, castL_len, if_pos (show (i : Int) < ((meritI l).length : Int) by omega), if_pos (show (0 : Int) ≤ (i : Int) by omega), rd_castL (meritI l) i hlt, eg, if_pos (show (0 : Int) ≤ (j : Int) by omega), if_pos (show (j : Int) < (on.length : Int) by omega), if_pos (show (j : Int) < (l.length : Int) by omega), if_pos (show (j : Int) < (x.length : Int) by omega), rdOfB, rdU_eq, rd_nat, em, Int.toNat_natCast]
   rw [st2, w64 (x := (i : Int) + 1) (by omega) (by omega), w64 (x := c - min c ((rdU l j).f2 - (rdU l j).f1)) (by omega) (by omega), w64 (x := x.getD j 0 + min c ((rdU l j).f2 - (rdU l j).f1)) (by omega) (by omega)]
   by_cases ho : on.getD j false = true
   ·
    simp only [if_pos ho]
    exact ih (i + 1) _ _ (by omega) (by rw [List.length_set]; exact hl) (by omega) (Bx_set (Bx_mono hb (by omega)) j (by omega) (by omega))
   ·
    simp only [if_neg ho]
    exact ih (i + 1) _ _ (by omega) hl hc hb
 have key1 : ∀ (m i : Nat) (x : List Int) (c : Int), i + m = l.length → x.length = l.length → -100000 * (i : Int) ≤ c ∧ c ≤ 400000 → ∀ r, Ev (fun k => if (st1 l on m i x c).2 < 0 then some (([] : List Int), false) else (impl_meritOrder.f l).bind fun t234 => impl_shareDemand.l1 k l on (st1 l on m i x c).1 (st1 l on m i x c).2 t234 (t234.length : Int) 0) r → Ev (fun k => impl_shareDemand.l0 k l on x c l (l.length : Int) (i : Int)) r := by
  intro m
  induction m with
  | zero =>
   intro i x c hi hl hc r hr
   refine Ev.succ ?_
   simp only [impl_shareDemand.l0, if_neg (show ¬ (i : Int) < (l.length : Int) by omega)]
   exact hr
  | succ m ih =>
   intro i x c hi hl hc r hr
   have f := unitR_facts (hx i (by omega))
   refine Ev.succ ?_
   simp only [impl_shareDemand.l0, if_pos (show (i : Int) < (l.length : Int) by omega), if_pos (show (0 : Int) ≤ (i : Int) by omega), if_pos (show (i : Int) < (on.length : Int) by omega), if_pos (show (i : Int) < (x.length : Int) by omega), rdOfB, rdU_eq, Int.toNat_natCast]
   rw [w64 (x := (i : Int) + 1) (by omega) (by omega), w64 (x := c - (rdU l i).f1) (by omega) (by omega)]
   unfold st1 at hr
   by_cases ho : on.getD i false = true
   ·
    simp only [if_pos ho] at hr ⊢
    exact ih (i + 1) _ _ (by omega) (by rw [List.length_set]; exact hl) (by omega) r hr
   ·
    simp only [if_neg ho] at hr ⊢
    exact ih (i + 1) _ _ (by omega) hl (by omega) r hr
 refine key1 l.length 0 _ a (Nat.zero_add _) (List.length_replicate ..) (by omega) _ ?_
 by_cases hn : (st1 l on l.length 0 (List.replicate l.length 0) a).2 < 0
 ·
  have es : shr l on a = st1 l on l.length 0 (List.replicate l.length 0) a := by
   unfold shr
   simp only [if_pos hn]
  rw [es]
  simp only [if_pos hn]
  exact Ev.now _
 ·
  have es : shr l on a = st2 l on (meritI l) (st1 l on l.length 0 (List.replicate l.length 0) a).1 (st1 l on l.length 0 (List.replicate l.length 0) a).2 := by
   unfold shr
   simp only [if_neg hn]
  obtain ⟨g1, g2, g3⟩ := st2_facts l on hx (meritI l) _ (st1 l on l.length 0 (List.replicate l.length 0) a).2 mm f1 (by omega) (Bx_mono f2 (by omega))
  rw [← es] at g2
  simp only [if_neg hn, if_neg (show ¬ (shr l on a).2 < 0 by omega)]
  have em : impl_meritOrder.f l = some ((meritI l).map fun i : Nat => (i : Int)) := by
   unfold impl_meritOrder.f
   rw [if_pos ⟨by omega, by omega⟩]
  simp only [em, Option.bind_some]
  rw [show ((meritI l).map fun i : Nat => (i : Int)) = castL (meritI l) from rfl]
  have h := key2 (meritI l).length 0 _ (st1 l on l.length 0 (List.replicate l.length 0) a).2 (Nat.zero_add _) f1 (by omega) (Bx_mono f2 (by omega))
  rw [List.drop_zero, ← es] at h
  rw [castL_len]
  exact h
def bitS (S : List (List Bool)) (h i : Nat) : Bool := (S.getD h []).getD i false
def befS (S : List (List Bool)) (h i : Nat) : Bool := if h = 0 then false else bitS S (h - 1) i
def stOk (S : List (List Bool)) (n : Nat) : Bool := S.all (fun x => decide (x.length = n)) && inB 1 12 (S.length : Int)
theorem stOk_facts {S : List (List Bool)} {n : Nat} (h : stOk S n = true) : (1 ≤ S.length ∧ S.length ≤ 12) ∧ ∀ j, j < S.length → (S.getD j []).length = n := by
 unfold stOk inB at h
 simp only [Bool.and_eq_true, decide_eq_true_eq, List.all_eq_true] at h
 exact ⟨by omega, fun j hj => h.1 _ (getD_mem [] hj)⟩
def ask2 (l : List S77) (S : List (List Bool)) (D : List Int) : Int := if unitsOk l = true then (if dOk D = true ∧ stOk S l.length = true ∧ S.length = D.length then 0 else 7) else 1
def shk (l : List S77) (S : List (List Bool)) (D : List Int) (h : Nat) : List Int × Int := shr l (S.getD h []) (D.getD h 0)
def okH (l : List S77) (S : List (List Bool)) (D : List Int) (h : Nat) : Bool := (shk l S D h).2 == 0
def coH (l : List S77) (S : List (List Bool)) (D : List Int) (h : Nat) : Int := cst l (shk l S D h).1 l.length 0 0
def stS (l : List S77) (S : List (List Bool)) (h : Nat) : Nat → Nat → Int → Int
 | 0, _, c => c
 | m + 1, i, c => stS l S h m (i + 1) (if bitS S h i = true ∧ befS S h i = false then c + (rdU l i).f4 else c)
def totS (l : List S77) (S : List (List Bool)) (D : List Int) : Nat → Nat → Int → Int
 | 0, _, c => c
 | m + 1, h, c => totS l S D m (h + 1) (stS l S h l.length 0 (c + coH l S D h))
def allH (l : List S77) (S : List (List Bool)) (D : List Int) : Nat → Nat → Bool
 | 0, _ => true
 | m + 1, h => okH l S D h && allH l S D m (h + 1)
def rnS (l : List S77) (S : List (List Bool)) (i : Nat) : Nat → Nat → Int → Bool → Bool
 | 0, _, _, _ => true
 | m + 1, h, run, bf => if bitS S h i = bf then rnS l S i m (h + 1) (run + 1) bf
  else if (bf = true ∧ run < (rdU l i).f5) ∨ (bf = false ∧ run < (rdU l i).f6) then false else rnS l S i m (h + 1) 1 (bitS S h i)
def runsOk (l : List S77) (S : List (List Bool)) : Bool := (List.range l.length).all fun i => rnS l S i S.length 0 (rdU l i).f6 false
theorem stS_add (l : List S77) (S : List (List Bool)) (h : Nat) : ∀ (m i : Nat) (c : Int), stS l S h m i c = c + stS l S h m i 0 := by
 intro m
 induction m with
 | zero => intro i c; simp [stS]
 | succ m ih =>
  intro i c
  rw [stS, stS, ih, ih (i + 1) (if bitS S h i = true ∧ befS S h i = false then (0 : Int) + (rdU l i).f4 else 0)]
  split <;> omega
theorem stS_bd (l : List S77) (S : List (List Bool)) (h : Nat) (hx : ∀ i, i < l.length → unitR (rdU l i) = true) : ∀ (m i : Nat) (c : Int), i + m = l.length → c ≤ stS l S h m i c ∧ stS l S h m i c ≤ c + 100000000 * (m : Int) := by
 intro m
 induction m with
 | zero => intro i c _; simp [stS]
 | succ m ih =>
  intro i c hi
  obtain ⟨_, _, _, h4, _⟩ := unitR_facts (hx i (by omega))
  rw [stS]
  have := ih (i + 1) (if bitS S h i = true ∧ befS S h i = false then c + (rdU l i).f4 else c) (by omega)
  split at this <;> split <;> first | omega | contradiction
theorem cst_bd (l : List S77) (x : List Int) (hx : ∀ i, i < l.length → unitR (rdU l i) = true) (hb : Bx x 500000) : ∀ (m i : Nat) (c : Int), i + m = l.length → 0 ≤ c → c ≤ cst l x m i c ∧ cst l x m i c ≤ c + 50000000000 * (m : Int) := by
 intro m
 induction m with
 | zero => intro i c _ _; simp [cst]
 | succ m ih =>
  intro i c hi hc
  obtain ⟨_, _, h3, _⟩ := unitR_facts (hx i (by omega))
  have hm := mul_bd5 (hb i).1 (hb i).2 h3.1 h3.2
  rw [cst]
  have := ih (i + 1) (c + x.getD i 0 * (rdU l i).f3) (by omega) (by omega)
  omega
theorem coH_bd (l : List S77) (S : List (List Bool)) (D : List Int) (h : Nat) (hu : unitsOk l = true) (hd : D.getD h 0 ≤ 400000) : 0 ≤ coH l S D h ∧ coH l S D h ≤ 200000000000 := by
 obtain ⟨⟨n1, n2⟩, hx⟩ := unitsOk_facts hu
 obtain ⟨s1, s2⟩ := shr_facts l (S.getD h []) (D.getD h 0) hx hd
 have := cst_bd l (shk l S D h).1 hx s2 l.length 0 0 (by omega) (by omega)
 unfold coH
 omega
theorem rdL_eq (S : List (List Bool)) (h : Nat) : rd_L5 S (h : Int) = S.getD h [] := by
 unfold rd_L5
 rw [Int.toNat_natCast]
theorem specStates_ev (S : List (List Bool)) (n : Nat) (hl : S.length ≤ 1048576) : Ev (fun k => spec_l13States.f k S (n : Int)) (stOk S n) := by
 unfold spec_l13States.f stOk
 have key := ev_all (fun k i => spec_l13States.l0 k S (n : Int) i) S [] (fun x => decide (x.length = n)) false (inB 1 12 (S.length : Int)) (fun i hi hp r hr => ?_) (fun i hi hp => ?_) ?_
 ·
  revert key
  cases S.all (fun x => decide (x.length = n)) with
  | true => rw [Bool.true_and]; exact id
  | false => rw [Bool.false_and]; exact id
 ·
  rw [decide_eq_true_eq] at hp
  refine Ev.succ ?_
  simp only [spec_l13States.l0, if_pos (show (i : Int) < (S.length : Int) by omega), if_pos (show (0 : Int) ≤ (i : Int) by omega), rdL_eq, if_pos (show (((S.getD i []).length : Nat) : Int) = (n : Int) by omega), w64 (x := (i : Int) + 1) (by omega) (by omega)]
  exact hr
 ·
  rw [decide_eq_false_iff_not] at hp
  refine Ev.succ ?_
  simp only [spec_l13States.l0, if_pos (show (i : Int) < (S.length : Int) by omega), if_pos (show (0 : Int) ≤ (i : Int) by omega), rdL_eq, if_neg (show ¬ (((S.getD i []).length : Nat) : Int) = (n : Int) by omega)]
  exact Ev.now _
 ·
  refine Ev.succ ?_
  simp only [spec_l13States.l0, if_neg (show ¬ (S.length : Int) < (S.length : Int) by omega), specIn_eq, Option.bind_some]
  exact Ev.now _
theorem specAsk2_ev (l : List S77) (S : List (List Bool)) (D : List Int) (h1 : l.length ≤ 1048576) (h2 : S.length ≤ 1048576) (h3 : D.length ≤ 1048576) : Ev (fun k => spec_l13Ask.f k l S D) (ask2 l S D) := by
 unfold spec_l13Ask.f ask2
 refine Ev.bind (specUnits_ev l (by omega)) ?_
 cases unitsOk l with
 | false => exact Ev.now _
 | true =>
  simp only [if_true]
  refine Ev.bind (specDem_ev D h3) ?_
  cases dOk D with
  | false => exact Ev.now _
  | true =>
   simp only [if_true, true_and]
   refine Ev.bind (specStates_ev S l.length h2) ?_
   cases stOk S l.length with
   | false => exact Ev.now _
   | true =>
    simp only [if_true, true_and]
    by_cases he : S.length = D.length
    ·
     simp only [if_pos he, if_pos (show (S.length : Int) = (D.length : Int) by omega)]
     exact Ev.now _
    ·
     simp only [if_neg he, if_neg (show ¬ (S.length : Int) = (D.length : Int) by omega)]
     exact Ev.now _
theorem specRuns_ev (l : List S77) (S : List (List Bool)) (hu : unitsOk l = true) (hs : stOk S l.length = true) : Ev (fun k => spec_l13Runs.f k l S) (runsOk l S) := by
 obtain ⟨⟨n1, n2⟩, hx⟩ := unitsOk_facts hu
 obtain ⟨⟨s1, s2⟩, hrow⟩ := stOk_facts hs
 have inner : ∀ (i : Nat), i < l.length → ∀ (m h : Nat) (run : Int) (bf : Bool), h + m = S.length → 0 ≤ run → run ≤ 3 + (h : Int) → ∀ R, (rnS l S i m h run bf = true → Ev (fun k => spec_l13Runs.l0 k l S ((i + 1 : Nat) : Int)) R) → (rnS l S i m h run bf = false → R = false) →
   Ev (fun k => spec_l13Runs.l1 k l S (i : Int) run bf (h : Int)) R := by
  intro i hi m
  induction m with
  | zero =>
   intro h run bf hh h0 h1 R ht hf
   refine Ev.succ ?_
   simp only [spec_l13Runs.l1, if_neg (show ¬ (h : Int) < (S.length : Int) by omega), w64 (x := (i : Int) + 1) (by omega) (by omega)]
   exact ht rfl
  | succ m ih =>
   intro h run bf hh h0 h1 R ht hf
   have hr := hrow h (by omega)
   refine Ev.succ ?_
   simp only [spec_l13Runs.l1, if_pos (show (h : Int) < (S.length : Int) by omega), if_pos (show (0 : Int) ≤ (h : Int) by omega), if_pos (show (0 : Int) ≤ (i : Int) by omega), rdL_eq, hr, if_pos (show (i : Int) < (l.length : Int) by omega), rdOfB, rdU_eq, w64 (x := (h : Int) + 1) (by omega) (by omega), w64 (x := run + 1) (by omega) (by omega)]
   have eb : (S.getD h []).getD i false = bitS S h i := rfl
   rw [rnS] at ht hf
   simp only [eb]
   generalize bitS S h i = b at *
   by_cases he : b = bf
   ·
    rw [if_pos he] at ht hf
    subst he
    simp only [bne_self_eq_false, Bool.false_eq_true, if_false]
    exact ih (h + 1) (run + 1) b (by omega) (by omega) (by omega) R ht hf
   ·
    rw [if_neg he] at ht hf
    have e1 : (b != bf) = true := bne_iff_ne.mpr he
    simp only [e1, if_true]
    have go : ∀ b2 : Bool, Ev (fun k => spec_l13Runs.l1 k l S (i : Int) (0 + 1) b2 ((h : Int) + 1)) R → Ev (fun k => spec_l13Runs.l1 k l S (i : Int) (0 + 1) b2 ((h : Int) + 1)) R := fun _ z => z
    cases bf with
    | true =>
     simp only [if_true, true_and, Bool.true_eq_false, false_and, or_false] at ht hf ⊢
     by_cases hc : run < (rdU l i).f5
     ·
      rw [if_pos hc] at hf
      simp only [if_pos hc]
      rw [hf rfl]
      exact Ev.now _
     ·
      rw [if_neg hc] at ht hf
      simp only [if_neg hc]
      exact ih (h + 1) 1 b (by omega) (by omega) (by omega) R ht hf
    | false =>
     simp only [Bool.false_eq_true, if_false, false_and, true_and, false_or] at ht hf ⊢
     by_cases hc : run < (rdU l i).f6
     ·
      rw [if_pos hc] at hf
      simp only [if_pos hc]
      rw [hf rfl]
      exact Ev.now _
     ·
      rw [if_neg hc] at ht hf
      simp only [if_neg hc]
      exact ih (h + 1) 1 b (by omega) (by omega) (by omega) R ht hf
 unfold spec_l13Runs.f runsOk
 have key := ev_all (fun k i => spec_l13Runs.l0 k l S i) (List.range l.length) 0 (fun i => rnS l S i S.length 0 (rdU l i).f6 false) false true (fun i hi hp r hr => ?_) (fun i hi hp => ?_) ?_
 ·
  revert key
  cases (List.range l.length).all (fun i => rnS l S i S.length 0 (rdU l i).f6 false) <;> exact id
 ·
  rw [List.length_range] at hi
  rw [getD_range hi] at hp
  obtain ⟨_, _, _, _, _, h6⟩ := unitR_facts (hx i hi)
  refine Ev.succ ?_
  simp only [spec_l13Runs.l0, if_pos (show (i : Int) < (l.length : Int) by omega), if_pos (show (0 : Int) ≤ (i : Int) by omega), rdU_eq]
  exact inner i hi S.length 0 (rdU l i).f6 false (by omega) (by omega) (by omega) r (fun _ => hr) (fun z => by rw [hp] at z; cases z)
 ·
  rw [List.length_range] at hi
  rw [getD_range hi] at hp
  obtain ⟨_, _, _, _, _, h6⟩ := unitR_facts (hx i hi)
  refine Ev.succ ?_
  simp only [spec_l13Runs.l0, if_pos (show (i : Int) < (l.length : Int) by omega), if_pos (show (0 : Int) ≤ (i : Int) by omega), rdU_eq]
  exact inner i hi S.length 0 (rdU l i).f6 false (by omega) (by omega) (by omega) false (fun z => by rw [hp] at z; cases z) (fun _ => rfl)
 ·
  rw [List.length_range]
  refine Ev.succ ?_
  simp only [spec_l13Runs.l0, if_neg (show ¬ (l.length : Int) < (l.length : Int) by omega)]
  exact Ev.now _
theorem specPCost_ev (l : List S77) (S : List (List Bool)) (D : List Int) (hu : unitsOk l = true) (hs : stOk S l.length = true) (hd : dOk D = true) (hn : S.length = D.length) :
  Ev (fun k => spec_l13Cost.f k l S D) (if allH l S D S.length 0 = true then (totS l S D S.length 0 0, true) else (0, false)) := by
 obtain ⟨⟨n1, n2⟩, hx⟩ := unitsOk_facts hu
 obtain ⟨⟨s1, s2⟩, hrow⟩ := stOk_facts hs
 obtain ⟨_, hdem⟩ := dOk_facts hd
 unfold spec_l13Cost.f
 have inner : ∀ (h : Nat), h < S.length → ∀ (m i : Nat) (c : Int), i + m = l.length → 0 ≤ c → c ≤ 100000000000000 + 100000000 * (i : Int) → ∀ R, Ev (fun k => spec_l13Cost.l0 k l S D (stS l S h m i c) ((h + 1 : Nat) : Int)) R → Ev (fun k => spec_l13Cost.l1 k l S D c (h : Int) (i : Int)) R := by
  intro h hh m
  induction m with
  | zero =>
   intro i c hi h0 h1 R hR
   refine Ev.succ ?_
   simp only [spec_l13Cost.l1, if_neg (show ¬ (i : Int) < (l.length : Int) by omega), w64 (x := (h : Int) + 1) (by omega) (by omega)]
   exact hR
  | succ m ih =>
   intro i c hi h0 h1 R hR
   have hr := hrow h hh
   obtain ⟨_, _, _, h4, _⟩ := unitR_facts (hx i (by omega))
   rw [stS] at hR
   refine Ev.succ ?_
   have eb : (S.getD h []).getD i false = bitS S h i := rfl
   simp only [spec_l13Cost.l1, if_pos (show (i : Int) < (l.length : Int) by omega), if_pos (show (0 : Int) ≤ (h : Int) by omega), if_pos (show (h : Int) < (S.length : Int) by omega), if_pos (show (0 : Int) ≤ (i : Int) by omega), rdL_eq, hr, rdOfB, rdU_eq, w64 (x := (i : Int) + 1) (by omega) (by omega), w64 (x := c + (rdU l i).f4) (by omega) (by omega), eb]
   cases hb : bitS S h i with
   | false =>
    rw [if_neg (fun z => by rw [hb] at z; exact absurd z.1 (by decide))] at hR
    simp only [Bool.false_eq_true, if_false]
    exact ih (i + 1) c (by omega) h0 (by omega) R hR
   | true =>
    simp only [if_true]
    by_cases hz : h = 0
    ·
     subst hz
     have e0 : befS S 0 i = false := rfl
     rw [if_pos ⟨hb, e0⟩] at hR
     simp only [if_pos (show ((0 : Nat) : Int) = 0 from rfl)]
     exact ih (i + 1) (c + (rdU l i).f4) (by omega) (by omega) (by omega) R hR
    ·
     have e1 : wrap64 ((h : Int) - 1) = ((h - 1 : Nat) : Int) := by rw [w64 (by omega) (by omega)]; omega
     have hr1 := hrow (h - 1) (by omega)
     have e0 : befS S h i = bitS S (h - 1) i := by unfold befS; rw [if_neg hz]
     have eb1 : (S.getD (h - 1) []).getD i false = bitS S (h - 1) i := rfl
     simp only [if_neg (show ¬ (h : Int) = 0 by omega), e1, if_pos (show (0 : Int) ≤ ((h - 1 : Nat) : Int) by omega), if_pos (show ((h - 1 : Nat) : Int) < (S.length : Int) by omega), rdL_eq, hr1, if_pos (show (i : Int) < (l.length : Int) by omega), rdOfB, eb1]
     cases hb1 : bitS S (h - 1) i with
     | true =>
      rw [if_neg (fun z => by rw [e0, hb1] at z; exact absurd z.2 (by decide))] at hR
      simp only [if_true]
      exact ih (i + 1) c (by omega) h0 (by omega) R hR
     | false =>
      rw [if_pos ⟨hb, by rw [e0]; exact hb1⟩] at hR
      simp only [Bool.false_eq_true, if_false]
      exact ih (i + 1) (c + (rdU l i).f4) (by omega) (by omega) (by omega) R hR
 have key : ∀ (m h : Nat) (c : Int), h + m = S.length → 0 ≤ c → c ≤ 1000000000000 * (h : Int) → Ev (fun k => spec_l13Cost.l0 k l S D c (h : Int)) (if allH l S D m h = true then (totS l S D m h c, true) else (0, false)) := by
  intro m
  induction m with
  | zero =>
   intro h c hh h0 h1
   refine Ev.succ ?_
   simp only [spec_l13Cost.l0, if_neg (show ¬ (h : Int) < (S.length : Int) by omega), allH, totS, if_true]
   exact Ev.now _
  | succ m ih =>
   intro h c hh h0 h1
   have hdm := hdem h (by omega)
   have hco := coH_bd l S D h hu hdm.2
   refine Ev.succ ?_
   simp only [spec_l13Cost.l0, if_pos (show (h : Int) < (S.length : Int) by omega), if_pos (show (0 : Int) ≤ (h : Int) by omega), if_pos (show (h : Int) < (D.length : Int) by omega), rdL_eq, rd_nat]
   refine Ev.bind (specShare_ev l (S.getD h []) (D.getD h 0) hu (hrow h (by omega)) hdm) ?_
   rw [allH, totS]
   have eo : ((shr l (S.getD h []) (D.getD h 0)).2 == 0) = okH l S D h := rfl
   have ec : cst l (shr l (S.getD h []) (D.getD h 0)).1 l.length 0 0 = coH l S D h := rfl
   simp only [eo, ec]
   cases hok : okH l S D h with
   | false => exact Ev.now _
   | true =>
    simp only [if_true, Bool.true_and, w64 (x := c + coH l S D h) (by omega) (by omega)]
    have hsb := stS_bd l S h hx l.length 0 (c + coH l S D h) (by omega)
    exact inner h (by omega) l.length 0 (c + coH l S D h) (by omega) (by omega) (by omega) _ (ih (h + 1) _ (by omega) (by omega) (by omega))
 exact key S.length 0 0 (by omega) (by omega) (by omega)
theorem implPCode_ev (l : List S77) (S : List (List Bool)) (D : List Int) (h1 : l.length ≤ 1048576) (h2 : S.length ≤ 1048576) (h3 : D.length ≤ 1048576) : Ev (fun k => impl_planCode.f k l S D) (ask2 l S D) := by
 unfold impl_planCode.f
 have hst : Ev (fun k => impl_statesCode.f k l S) (if unitsOk l = true then (if stOk S l.length = true then 0 else 7) else 1) := by
  unfold impl_statesCode.f
  simp only [if_pos h2]
  refine Ev.bind (implUnits_ev l (by omega)) ?_
  cases unitsOk l with
  | false => exact Ev.now _
  | true =>
   simp only [if_true]
   refine Ev.now' ?_
   unfold stOk inB
   have hany : S.any (fun x => x.length != l.length) = !(S.all fun x => decide (x.length = l.length)) := by
    induction S with
    | nil => rfl
    | cons x t ih =>
     rw [List.any_cons, List.all_cons, ih (by rw [List.length_cons] at h2; omega)]
     by_cases he : x.length = l.length
     ·
      simp [he]
     ·
      simp [he]
   rw [hany]
   by_cases c1 : S.length < 1
   ·
    rw [if_pos c1, decide_eq_false (show ¬ (1 : Int) ≤ (S.length : Int) by omega), Bool.false_and, Bool.and_false, if_neg (by decide)]
   ·
    rw [if_neg c1, decide_eq_true (show (1 : Int) ≤ (S.length : Int) by omega), Bool.true_and]
    by_cases c2 : S.length > 12
    ·
     rw [if_pos c2, decide_eq_false (show ¬ (S.length : Int) ≤ 12 by omega), Bool.and_false, if_neg (by decide)]
    ·
     rw [if_neg c2, decide_eq_true (show (S.length : Int) ≤ 12 by omega), Bool.and_true]
     cases S.all (fun x => decide (x.length = l.length)) <;> rfl
 refine Ev.bind hst ?_
 refine Ev.bind (implAsk_ev l D h1 h3) ?_
 unfold ask ask2
 cases unitsOk l with
 | false => exact Ev.now _
 | true =>
  simp only [if_true]
  cases dOk D with
  | false =>
   cases stOk S l.length <;> exact Ev.now _
  | true =>
   cases stOk S l.length with
   | false => exact Ev.now _
   | true =>
    simp only [if_true, true_and, mx]
    by_cases he : S.length = D.length
    ·
     simp only [if_pos he, if_pos (show (S.length : Int) = (D.length : Int) by omega)]
     exact Ev.now _
    ·
     simp only [if_neg he, if_neg (show ¬ (S.length : Int) = (D.length : Int) by omega)]
     exact Ev.now _
theorem nx_lenP (l : List S77) (on : List Bool) : ∀ m i rs s, (nx l on m i rs s).1.length = rs.length
 | 0, _, _, _ => rfl
 | m + 1, i, rs, s => by
  rw [nx]
  split
  ·
   rw [nx_lenP l on m, List.length_set]
  ·
   split
   ·
    rfl
   ·
    rw [nx_lenP l on m, List.length_set]
def stepU (u : S77) (x : Bool × Int) (b : Bool) : Option (Bool × Int) :=
 if x.1 = b then some (x.1, mn (x.2 + 1) 3) else if (x.1 = true ∧ x.2 < u.f5) ∨ (x.1 = false ∧ x.2 < u.f6) then none else some (b, 1)
theorem stepU_facts {u : S77} {x y : Bool × Int} {b : Bool} (h0 : 0 ≤ x.2 ∧ x.2 ≤ 3) (h : stepU u x b = some y) : y.1 = b ∧ 0 ≤ y.2 ∧ y.2 ≤ 3 := by
 unfold stepU at h
 split at h
 ·
  rename_i he
  obtain rfl := Option.some.inj h
  refine ⟨he, ?_⟩
  show 0 ≤ mn (x.2 + 1) 3 ∧ mn (x.2 + 1) 3 ≤ 3
  unfold mn
  split <;> omega
 ·
  split at h
  ·
   cases h
  ·
   obtain rfl := Option.some.inj h
   exact ⟨rfl, by show (0 : Int) ≤ 1 ∧ (1 : Int) ≤ 3; omega⟩
theorem getD_setR (rs : List (Bool × Int)) (i j : Nat) (v : Bool × Int) (hi : i < rs.length) : (rs.set i v).getD j (false, 0) = if i = j then v else rs.getD j (false, 0) := by
 rw [List.getD_eq_getElem?_getD, List.getElem?_set]
 by_cases h : i = j
 ·
  rw [if_pos h, if_pos hi, if_pos h]; rfl
 ·
  rw [if_neg h, if_neg h, ← List.getD_eq_getElem?_getD]
theorem nx_facts (l : List S77) (S : List (List Bool)) (h : Nat) (hx : ∀ i, i < l.length → unitR (rdU l i) = true) (hn : l.length ≤ 4) : ∀ (m i : Nat) (rs : List (Bool × Int)) (s : Int), i + m = l.length → rs.length = 4 → (∀ j, 0 ≤ (rs.getD j (false, 0)).2 ∧ (rs.getD j (false, 0)).2 ≤ 3) → (∀ j, i ≤ j → j < l.length → (rs.getD j (false, 0)).1 = befS S h j) → 0 ≤ s → s ≤ 100000000 * (i : Int) →
  ((nx l (S.getD h []) m i rs s).2.2 = true ↔ ∀ j, i ≤ j → j < l.length → (stepU (rdU l j) (rs.getD j (false, 0)) (bitS S h j)).isSome = true) ∧
  ((nx l (S.getD h []) m i rs s).2.2 = true → (∀ j, (nx l (S.getD h []) m i rs s).1.getD j (false, 0) = if i ≤ j ∧ j < l.length then (stepU (rdU l j) (rs.getD j (false, 0)) (bitS S h j)).getD (false, 0) else rs.getD j (false, 0)) ∧ (nx l (S.getD h []) m i rs s).2.1 = stS l S h m i s) := by
 intro m
 induction m with
 | zero =>
  intro i rs s hi hl hb hf h0 h1
  refine ⟨⟨fun _ j a b => by omega, fun _ => rfl⟩, fun _ => ⟨fun j => ?_, rfl⟩⟩
  rw [if_neg (by omega)]
  rfl
 | succ m ih =>
  intro i rs s hi hl hb hf h0 h1
  have hbi := hb i
  have hfi := hf i (Nat.le_refl _) (by omega)
  obtain ⟨_, _, _, h4, _⟩ := unitR_facts (hx i (by omega))
  have eb : rdOf false (S.getD h []) (i : Int) = bitS S h i := rdOfB _ _
  rw [nx, eb, rdU_eq]
  have ew : wrap64 ((rs.getD i (false, 0)).2 + 1) = (rs.getD i (false, 0)).2 + 1 := w64 (by omega) (by omega)
  rw [ew, w64 (x := s + (rdU l i).f4) (by omega) (by omega)]
  have step : ∀ (v : Bool × Int) (s' : Int), stepU (rdU l i) (rs.getD i (false, 0)) (bitS S h i) = some v → s' = (if bitS S h i = true ∧ befS S h i = false then s + (rdU l i).f4 else s) →
    ((nx l (S.getD h []) m (i + 1) (rs.set i v) s').2.2 = true ↔ ∀ j, i ≤ j → j < l.length → (stepU (rdU l j) (rs.getD j (false, 0)) (bitS S h j)).isSome = true) ∧
    ((nx l (S.getD h []) m (i + 1) (rs.set i v) s').2.2 = true → (∀ j, (nx l (S.getD h []) m (i + 1) (rs.set i v) s').1.getD j (false, 0) = if i ≤ j ∧ j < l.length then (stepU (rdU l j) (rs.getD j (false, 0)) (bitS S h j)).getD (false, 0) else rs.getD j (false, 0)) ∧ (nx l (S.getD h []) m (i + 1) (rs.set i v) s').2.1 = stS l S h (m + 1) i s) := by
   intro v s' hv hs'
   have hvf := stepU_facts hbi hv
   have hg := fun j => getD_setR rs i j v (by omega)
   obtain ⟨p1, p2⟩ := ih (i + 1) (rs.set i v) s' (by omega) (by rw [List.length_set]; exact hl) (fun j => by rw [hg]; split; exact hvf.2; exact hb j) (fun j a b => by rw [hg, if_neg (by omega)]; exact hf j (by omega) b) (by rw [hs']; split <;> omega) (by rw [hs']; split <;> omega)
   refine ⟨p1.trans ⟨fun z j a b => ?_, fun z j a b => ?_⟩, fun z => ?_⟩
   ·
    by_cases e : i = j
    ·
     subst e; rw [hv]; rfl
    ·
     have := z j (by omega) b
     rw [hg, if_neg e] at this
     exact this
   ·
    rw [hg, if_neg (by omega)]
    exact z j (by omega) b
   ·
    obtain ⟨q1, q2⟩ := p2 z
    refine ⟨fun j => ?_, ?_⟩
    ·
     rw [q1, hg]
     by_cases e : i = j
     ·
      subst e
      rw [if_neg (by omega), if_pos rfl, if_pos (by omega), hv]
      rfl
     ·
      rw [if_neg e]
      by_cases c : i + 1 ≤ j ∧ j < l.length
      ·
       rw [if_pos c, if_pos (by omega)]
      ·
       rw [if_neg c, if_neg (by omega)]
    ·
     rw [q2, stS, hs']
  by_cases c1 : (rs.getD i (false, 0)).1 = bitS S h i
  ·
   rw [if_pos c1]
   refine step _ s (by unfold stepU; rw [if_pos c1]) ?_
   rw [if_neg]
   rw [← hfi, c1]
   exact fun z => by rw [z.1] at z; exact absurd z.2 (by decide)
  ·
   rw [if_neg c1]
   by_cases c2 : (rs.getD i (false, 0)).1 = true ∧ (rs.getD i (false, 0)).2 < (rdU l i).f5 ∨ (rs.getD i (false, 0)).1 = false ∧ (rs.getD i (false, 0)).2 < (rdU l i).f6
   ·
    rw [if_pos c2]
    refine ⟨⟨fun z => (by cases z), fun z => ?_⟩, fun z => (by cases z)⟩
    have := z i (Nat.le_refl _) (by omega)
    unfold stepU at this
    rw [if_neg c1, if_pos c2] at this
    cases this
   ·
    rw [if_neg c2]
    refine step _ _ (by unfold stepU; rw [if_neg c1, if_neg c2]) ?_
    rw [hfi] at c1
    cases hbq : bitS S h i with
    | false => rw [if_neg (by decide), if_neg (fun z => absurd z.1 (by decide))]
    | true =>
     rw [hbq] at c1
     have : befS S h i = false := by cases hq : befS S h i; rfl; exact absurd hq c1
     rw [if_pos rfl, if_pos ⟨rfl, this⟩]
structure InvR (l : List S77) (S : List (List Bool)) (h : Nat) (rs : List (Bool × Int)) : Prop where
 len : rs.length = 4
 bd : ∀ j, 0 ≤ (rs.getD j (false, 0)).2 ∧ (rs.getD j (false, 0)).2 ≤ 3
 bf : ∀ j, j < l.length → (rs.getD j (false, 0)).1 = befS S h j
theorem InvR.next {l : List S77} {S : List (List Bool)} {h : Nat} {rs : List (Bool × Int)} (hx : ∀ i, i < l.length → unitR (rdU l i) = true) (hn : l.length ≤ 4) (I : InvR l S h rs) (hok : (nx l (S.getD h []) l.length 0 rs 0).2.2 = true) : InvR l S (h + 1) (nx l (S.getD h []) l.length 0 rs 0).1 := by
 obtain ⟨p1, p2⟩ := nx_facts l S h hx hn l.length 0 rs 0 (by omega) I.len I.bd (fun j _ b => I.bf j b) (by omega) (by omega)
 obtain ⟨q1, q2⟩ := p2 hok
 have hs := p1.1 hok
 refine ⟨by rw [nx_lenP]; exact I.len, fun j => ?_, fun j hj => ?_⟩
 ·
  rw [q1]
  split
  ·
   rename_i c
   obtain ⟨y, hy⟩ := Option.isSome_iff_exists.1 (hs j (by omega) c.2)
   rw [hy]
   exact (stepU_facts (I.bd j) hy).2
  ·
   exact I.bd j
 ·
  rw [q1, if_pos ⟨by omega, hj⟩]
  obtain ⟨y, hy⟩ := Option.isSome_iff_exists.1 (hs j (by omega) hj)
  rw [hy]
  show y.1 = befS S (h + 1) j
  rw [(stepU_facts (I.bd j) hy).1]
  unfold befS
  rw [if_neg (by omega), Nat.add_sub_cancel]
def ipB (l : List S77) (S : List (List Bool)) (D : List Int) : Nat → Nat → List (Bool × Int) → Bool
 | 0, _, _ => true
 | m + 1, h, rs => if (nx l (S.getD h []) l.length 0 rs 0).2.2 = true then (if okH l S D h = true then ipB l S D m (h + 1) (nx l (S.getD h []) l.length 0 rs 0).1 else false) else false
def chI (l : List S77) (S : List (List Bool)) (i : Nat) : Nat → Nat → Bool × Int → Bool
 | 0, _, _ => true
 | m + 1, h, x => match stepU (rdU l i) x (bitS S h i) with
  | none => false
  | some y => chI l S i m (h + 1) y
theorem chI_eq (l : List S77) (S : List (List Bool)) (i : Nat) (hi : i < l.length) (hx : ∀ i, i < l.length → unitR (rdU l i) = true) : ∀ (m h : Nat) (run : Int) (bf : Bool) (hr : Int), 0 ≤ run → (hr = (if run < 3 then run else 3) ∨ (bf = false ∧ hr = 3 ∧ (rdU l i).f6 ≤ run)) → rnS l S i m h run bf = chI l S i m h (bf, hr) := by
 obtain ⟨_, _, _, _, h5, h6⟩ := unitR_facts (hx i hi)
 intro m
 induction m with
 | zero => intro h run bf hr _ _; rfl
 | succ m ih =>
  intro h run bf hr h0 hrel
  rw [rnS, chI]
  unfold stepU
  simp only
  by_cases e : bitS S h i = bf
  ·
   rw [if_pos e, if_pos e.symm]
   refine ih (h + 1) (run + 1) bf _ (by omega) ?_
   unfold mn
   rcases hrel with hrel | ⟨a, b, c⟩
   ·
    left
    rw [hrel]
    split <;> split <;> split <;> omega
   ·
    right
    refine ⟨a, ?_, by omega⟩
    rw [b]
    rfl
  ·
   rw [if_neg e, if_neg (show ¬ bf = bitS S h i from fun z => e z.symm)]
   have ec : ((bf = true ∧ run < (rdU l i).f5) ∨ (bf = false ∧ run < (rdU l i).f6)) ↔ ((bf = true ∧ hr < (rdU l i).f5) ∨ (bf = false ∧ hr < (rdU l i).f6)) := by
    rcases hrel with hrel | ⟨a, b, c⟩
    ·
     have h1 : run < (rdU l i).f5 ↔ hr < (rdU l i).f5 := by rw [hrel]; split <;> omega
     have h2 : run < (rdU l i).f6 ↔ hr < (rdU l i).f6 := by rw [hrel]; split <;> omega
     rw [h1, h2]
    ·
     subst a
     simp only [Bool.false_eq_true, false_and, false_or, true_and]
     omega
   by_cases c : (bf = true ∧ run < (rdU l i).f5) ∨ (bf = false ∧ run < (rdU l i).f6)
   ·
    rw [if_pos c, if_pos (ec.1 c)]
   ·
    rw [if_neg c, if_neg (fun z => c (ec.2 z))]
    exact ih (h + 1) 1 (bitS S h i) 1 (by omega) (.inl rfl)
theorem ipB_eq (l : List S77) (S : List (List Bool)) (D : List Int) (hx : ∀ i, i < l.length → unitR (rdU l i) = true) (hn : l.length ≤ 4) : ∀ (m h : Nat) (rs : List (Bool × Int)), InvR l S h rs → (ipB l S D m h rs = true ↔ (allH l S D m h = true ∧ ∀ i, i < l.length → chI l S i m h (rs.getD i (false, 0)) = true)) := by
 intro m
 induction m with
 | zero => intro h rs _; exact ⟨fun _ => ⟨rfl, fun _ _ => rfl⟩, fun _ => rfl⟩
 | succ m ih =>
  intro h rs I
  obtain ⟨p1, p2⟩ := nx_facts l S h hx hn l.length 0 rs 0 (by omega) I.len I.bd (fun j _ b => I.bf j b) (by omega) (by omega)
  rw [ipB, allH, Bool.and_eq_true]
  by_cases c1 : (nx l (S.getD h []) l.length 0 rs 0).2.2 = true
  ·
   rw [if_pos c1]
   obtain ⟨q1, q2⟩ := p2 c1
   have hs := p1.1 c1
   by_cases c2 : okH l S D h = true
   ·
    rw [if_pos c2, ih (h + 1) _ (I.next hx hn c1)]
    refine ⟨fun ⟨a, b⟩ => ⟨⟨c2, a⟩, fun i hi => ?_⟩, fun ⟨⟨_, a⟩, b⟩ => ⟨a, fun i hi => ?_⟩⟩
    ·
     obtain ⟨y, hy⟩ := Option.isSome_iff_exists.1 (hs i (by omega) hi)
     have h2 := b i hi
     rw [q1, if_pos ⟨by omega, hi⟩, hy] at h2
     rw [chI, hy]
     exact h2
    ·
     obtain ⟨y, hy⟩ := Option.isSome_iff_exists.1 (hs i (by omega) hi)
     have h2 := b i hi
     rw [chI, hy] at h2
     rw [q1, if_pos ⟨by omega, hi⟩, hy]
     exact h2
   ·
    rw [if_neg c2]
    exact ⟨fun z => (by cases z), fun ⟨⟨a, _⟩, _⟩ => absurd a c2⟩
  ·
   rw [if_neg c1]
   refine ⟨fun z => (by cases z), fun ⟨_, b⟩ => absurd (p1.2 fun j _ hj => ?_) c1⟩
   have h2 := b j hj
   rw [chI] at h2
   cases hy : stepU (rdU l j) (rs.getD j (false, 0)) (bitS S h j) with
   | none => rw [hy] at h2; cases h2
   | some y => rfl
theorem inv0 (l : List S77) (S : List (List Bool)) : InvR l S 0 rs0 := by
 refine ⟨rfl, fun j => ?_, fun j _ => ?_⟩
 ·
  match j with
  | 0 => exact ⟨by decide, by decide⟩
  | 1 => exact ⟨by decide, by decide⟩
  | 2 => exact ⟨by decide, by decide⟩
  | 3 => exact ⟨by decide, by decide⟩
  | j + 4 => exact ⟨by show (0 : Int) ≤ 0; decide, by show (0 : Int) ≤ 3; decide⟩
 ·
  match j with
  | 0 => rfl
  | 1 => rfl
  | 2 => rfl
  | 3 => rfl
  | j + 4 => rfl
theorem plan_eq (l : List S77) (S : List (List Bool)) (D : List Int) (hu : unitsOk l = true) : ipB l S D S.length 0 rs0 = (allH l S D S.length 0 && runsOk l S) := by
 obtain ⟨⟨n1, n2⟩, hx⟩ := unitsOk_facts hu
 have h := ipB_eq l S D hx n2 S.length 0 rs0 (inv0 l S)
 have h2 : runsOk l S = true ↔ ∀ i, i < l.length → chI l S i S.length 0 (rs0.getD i (false, 0)) = true := by
  unfold runsOk
  rw [List.all_eq_true]
  have h3 : ∀ i, i < l.length → (rnS l S i S.length 0 (rdU l i).f6 false = chI l S i S.length 0 (rs0.getD i (false, 0))) := fun i hi => by
   obtain ⟨_, _, _, _, _, h6⟩ := unitR_facts (hx i hi)
   have e : rs0.getD i (false, 0) = (false, 3) := by
    have : i = 0 ∨ i = 1 ∨ i = 2 ∨ i = 3 := by omega
    rcases this with rfl | rfl | rfl | rfl <;> rfl
   rw [e]
   exact chI_eq l S i hi hx S.length 0 _ false 3 (by omega) (.inr ⟨rfl, rfl, Int.le_refl _⟩)
  exact ⟨fun z i hi => by rw [← h3 i hi]; exact z i (List.mem_range.2 hi), fun z i hi => by rw [h3 i (List.mem_range.1 hi)]; exact z i (List.mem_range.1 hi)⟩
 rw [Bool.eq_iff_iff, h, Bool.and_eq_true, h2]
theorem rdB_eq (S : List (List Bool)) (h : Nat) : rdB S h = S.getD h [] := rfl
theorem okH_share (l : List S77) (S : List (List Bool)) (D : List Int) (h : Nat) : (if (shr l (S.getD h []) (D.getD h 0)).2 < 0 then (([] : List Int), false) else ((shr l (S.getD h []) (D.getD h 0)).1, (shr l (S.getD h []) (D.getD h 0)).2 == 0)).2 = okH l S D h := by
 unfold okH shk
 split
 ·
  exact (beq_eq_false_iff_ne.2 (by omega)).symm
 ·
  rfl
theorem implIsPlan_ev (l : List S77) (S : List (List Bool)) (D : List Int) (hu : unitsOk l = true) (hs : stOk S l.length = true) (hd : dOk D = true) (hn : S.length = D.length) : Ev (fun k => impl_isPlan.f k l S D) (allH l S D S.length 0 && runsOk l S) := by
 obtain ⟨⟨n1, n2⟩, hx⟩ := unitsOk_facts hu
 obtain ⟨⟨s1, s2⟩, hrow⟩ := stOk_facts hs
 obtain ⟨_, hdem⟩ := dOk_facts hd
 rw [← plan_eq l S D hu]
 unfold impl_isPlan.f
 simp only [if_pos hn, if_pos n2]
 have key : ∀ (m h : Nat) (rs : List (Bool × Int)), h + m = S.length → Ev (fun k => ipL k l S D m h rs) (ipB l S D m h rs) := by
  intro m
  induction m with
  | zero => intro h rs _; exact Ev.now _
  | succ m ih =>
   intro h rs hh
   rw [ipB]
   have e1 : ∀ k, ipL k l S D (m + 1) h rs = if (nx l (S.getD h []) l.length 0 rs 0).2.2 = true then ((impl_shareDemand.f k l (S.getD h []) (D.getD h 0)).bind fun t => if t.2 = true then ipL k l S D m (h + 1) (nx l (S.getD h []) l.length 0 rs 0).1 else some false) else some false := fun k => by
    rw [ipL, rdB_eq, if_pos (hrow h (by omega)), rd_nat]
   simp only [e1]
   by_cases c1 : (nx l (S.getD h []) l.length 0 rs 0).2.2 = true
   ·
    simp only [if_pos c1]
    refine Ev.bind (implShare_ev l (S.getD h []) (D.getD h 0) hu (hrow h (by omega)) (hdem h (by omega))) ?_
    simp only [okH_share]
    by_cases c2 : okH l S D h = true
    ·
     simp only [if_pos c2]
     exact ih (h + 1) _ (by omega)
    ·
     simp only [if_neg c2]
     exact Ev.now _
   ·
    simp only [if_neg c1]
    exact Ev.now _
 exact key S.length 0 rs0 (by omega)
theorem implCost_ev (l : List S77) (x : List Int) (hx : ∀ i, i < l.length → unitR (rdU l i) = true) (hl : x.length = l.length) (hn : l.length ≤ 4) (hb : Bx x 500000) :
  Ev (fun k => impl_costOfPowers.f k l x) (cst l x l.length 0 0) := by
 unfold impl_costOfPowers.f
 have key : ∀ (m i : Nat) (s : Int), i + m = l.length → 0 ≤ s ∧ s ≤ 50000000000 * i → Ev (fun k => impl_costOfPowers.l0 k x s l (l.length : Int) (i : Int)) (cst l x m i s) := by
  intro m
  induction m with
  | zero =>
   intro i s hi hs
   refine Ev.succ ?_
   simp only [impl_costOfPowers.l0, if_neg (show ¬ (i : Int) < (l.length : Int) by omega)]
   exact Ev.now _
  | succ m ih =>
   intro i s hi hs
   have f := unitR_facts (hx i (by omega))
   have b := hb i
   have mb := mul_bd5 (a := x.getD i 0) (b := (rdU l i).f3) (by omega) (by omega) (by omega) (by omega)
   refine Ev.succ ?_
   simp only [impl_costOfPowers.l0, if_pos (show (i : Int) < (l.length : Int) by omega), if_pos (show (0 : Int) ≤ (i : Int) by omega), if_pos (show (i : Int) < (x.length : Int) by omega), rd_nat, rdU_eq]
   rw [w64 (x := (i : Int) + 1) (by omega) (by omega), w64 (x := x.getD i 0 * (rdU l i).f3) (by omega) (by omega), w64 (by omega) (by omega)]
   exact ih (i + 1) _ (by omega) (by omega)
 exact key l.length 0 0 (Nat.zero_add _) (by omega)
theorem implPCost_ev (l : List S77) (S : List (List Bool)) (D : List Int) (hu : unitsOk l = true) (hs : stOk S l.length = true) (hd : dOk D = true) (hn : S.length = D.length) (hp : (allH l S D S.length 0 && runsOk l S) = true) : Ev (fun k => impl_planCost.f k l S D) (totS l S D S.length 0 0) := by
 obtain ⟨⟨n1, n2⟩, hx⟩ := unitsOk_facts hu
 obtain ⟨⟨s1, s2⟩, hrow⟩ := stOk_facts hs
 obtain ⟨_, hdem⟩ := dOk_facts hd
 rw [← plan_eq l S D hu] at hp
 unfold impl_planCost.f
 simp only [if_pos (show S.length = D.length ∧ l.length ≤ 4 from ⟨hn, n2⟩)]
 have key : ∀ (m h : Nat) (rs : List (Bool × Int)) (c : Int), h + m = S.length → InvR l S h rs → ipB l S D m h rs = true → 0 ≤ c → c ≤ 1000000000000 * (h : Int) → Ev (fun k => pcL k l S D m h rs c) (totS l S D m h c) := by
  intro m
  induction m with
  | zero => intro h rs c _ _ _ _ _; exact Ev.now _
  | succ m ih =>
   intro h rs c hh I hb h0 h1
   rw [ipB] at hb
   split at hb
   ·
    rename_i c1
    split at hb
    ·
     rename_i c2
     obtain ⟨p1, p2⟩ := nx_facts l S h hx n2 l.length 0 rs 0 (by omega) I.len I.bd (fun j _ b => I.bf j b) (by omega) (by omega)
     obtain ⟨q1, q2⟩ := p2 c1
     have hdm := hdem h (by omega)
     have hco := coH_bd l S D h hu hdm.2
     have hsb := stS_bd l S h hx l.length 0 0 (by omega)
     rw [totS, stS_add]
     have e1 : ∀ k, pcL k l S D (m + 1) h rs c = (impl_shareDemand.f k l (S.getD h []) (D.getD h 0)).bind fun t => (impl_costOfPowers.f k l t.1).bind fun p => pcL k l S D m (h + 1) (nx l (S.getD h []) l.length 0 rs 0).1 (wrap64 (wrap64 (c + (nx l (S.getD h []) l.length 0 rs 0).2.1) + p)) := fun k => by
      rw [pcL, rdB_eq, if_pos (hrow h (by omega)), rd_nat]
     simp only [e1]
     refine Ev.bind (implShare_ev l (S.getD h []) (D.getD h 0) hu (hrow h (by omega)) hdm) ?_
     have hz : ¬ (shr l (S.getD h []) (D.getD h 0)).2 < 0 := by
      unfold okH shk at c2
      rw [beq_iff_eq] at c2
      omega
     simp only [if_neg hz]
     obtain ⟨f1, f2⟩ := shr_facts l (S.getD h []) (D.getD h 0) hx hdm.2
     refine Ev.bind (implCost_ev l _ hx f1 n2 f2) ?_
     have ec : cst l (shr l (S.getD h []) (D.getD h 0)).1 l.length 0 0 = coH l S D h := rfl
     rw [ec, q2, w64 (x := c + stS l S h l.length 0 0) (by omega) (by omega), w64 (by omega) (by omega), show c + stS l S h l.length 0 0 + coH l S D h = c + coH l S D h + stS l S h l.length 0 0 by omega]
     exact ih (h + 1) _ _ (by omega) (I.next hx n2 c1) hb (by omega) (by omega)
    ·
     cases hb
   ·
    cases hb
 exact key S.length 0 rs0 0 (by omega) (inv0 l S) hp (by omega) (by omega)
def minS (l : List S77) : Int := (l.map (·.f4)).foldl min (rdU l 0).f4
def startB (l : List S77) (ds : List Int) : Int := if ds.foldl max 0 = 0 then 0 else minS l
theorem max_zero : ∀ (ds : List Int) (s : Int), 0 ≤ s → s ≤ ds.foldl max s
 | [], s, _ => Int.le_refl _
 | d :: t, s, h => by
  rw [List.foldl_cons]
  have := max_zero t (max s d) (by omega)
  omega
theorem sum_zero : ∀ (ds : List Int) (s : Int), 0 ≤ s → (∀ x ∈ ds, 0 ≤ x) → (ds.foldl (· + ·) s = 0 ↔ ds.foldl max s = 0) ∧ s ≤ ds.foldl (· + ·) s
 | [], s, _, _ => ⟨Iff.rfl, Int.le_refl _⟩
 | d :: t, s, h, hd => by
  have h0 := hd d List.mem_cons_self
  obtain ⟨a, b⟩ := sum_zero t (s + d) (by omega) (fun x hx => hd x (List.mem_cons_of_mem _ hx))
  rw [List.foldl_cons, List.foldl_cons]
  refine ⟨?_, by omega⟩
  by_cases hz : s + d = 0
  ·
   have e1 : s = 0 := by omega
   have e2 : d = 0 := by omega
   rw [e1, e2] at a ⊢
   exact a
  ·
   have hm := max_zero t (max s d) (by omega)
   constructor
   ·
    intro e; omega
   ·
    intro e; omega
theorem specStart_ev (l : List S77) (ds : List Int) (hu : unitsOk l = true) (hd : dOk ds = true) : Ev (fun k => spec_l15Start.f k l ds) (startB l ds) := by
 obtain ⟨⟨n1, n2⟩, hx⟩ := unitsOk_facts hu
 obtain ⟨⟨m1, m2⟩, hy⟩ := dOk_facts hd
 unfold spec_l15Start.f startB
 have key : ∀ (m i : Nat) (s : Int), i + m = ds.length → 0 ≤ s ∧ s ≤ 400000 → Ev (fun k => spec_l15Start.l0 k l ds s (i : Int)) (if (ds.drop i).foldl max s = 0 then 0 else minS l) := by
  intro m
  induction m with
  | zero =>
   intro i s hi hs
   rw [List.drop_eq_nil_of_le (by omega), List.foldl_nil]
   refine Ev.succ ?_
   simp only [spec_l15Start.l0, if_neg (show ¬ (i : Int) < (ds.length : Int) by omega)]
   by_cases h0 : s = 0
   ·
    simp only [if_pos h0]
    exact Ev.now _
   ·
    simp only [if_neg h0, if_pos (show (0 : Int) < (l.length : Int) by omega)]
    have key2 : ∀ (m i : Nat) (s : Int), i + m = l.length → Ev (fun k => spec_l15Start.l1 k l s (i : Int)) (((l.drop i).map (·.f4)).foldl min s) := by
     intro m
     induction m with
     | zero =>
      intro i s hi
      rw [List.drop_eq_nil_of_le (by omega)]
      refine Ev.succ ?_
      simp only [spec_l15Start.l1, if_neg (show ¬ (i : Int) < (l.length : Int) by omega)]
      exact Ev.now _
     | succ m ih =>
      intro i s hi
      rw [List.drop_eq_getElem_cons (by omega), List.map_cons, List.foldl_cons]
      refine Ev.succ ?_
      simp only [spec_l15Start.l1, if_pos (show (i : Int) < (l.length : Int) by omega), if_pos (show (0 : Int) ≤ (i : Int) by omega), rdU_eq, spec_l00Min.f]
      have e : (rdU l i).f4 = (l[i]'(by omega)).f4 := by
       unfold rdU
       rw [getD_lt _ (by omega)]
      have em : (if s < (rdU l i).f4 then some s else some (rdU l i).f4) = some (min s (l[i]'(by omega)).f4) := by
       rw [← e]
       split <;> congr 1 <;> omega
      simp only [em, Option.bind_some, w64 (x := (i : Int) + 1) (by omega) (by omega)]
      exact ih (i + 1) _ (by omega)
    have h := key2 (l.length - 1) 1 (rdU l 0).f4 (by omega)
    have e0 : minS l = ((l.drop 1).map (·.f4)).foldl min (rdU l 0).f4 := by
     unfold minS
     cases l with
     | nil => simp at n1
     | cons x t =>
      show (List.map _ t).foldl min (min x.f4 x.f4) = (List.map _ t).foldl min x.f4
      rw [Int.min_self]
    rw [e0]
    have er : (rd_T77 l 0).f4 = (rdU l 0).f4 := by rw [show (0 : Int) = ((0 : Nat) : Int) from rfl, rdU_eq]
    rw [er]
    exact h
  | succ m ih =>
   intro i s hi hs
   have hb := hy i (by omega)
   have eg : ds.getD i 0 = ds[i]'(by omega) := getD_lt 0 (by omega)
   rw [List.drop_eq_getElem_cons (by omega), List.foldl_cons]
   refine Ev.succ ?_
   have em : (if s > ds.getD i 0 then some s else some (ds.getD i 0)) = some (max s (ds[i]'(by omega))) := by
    rw [← eg]
    split <;> congr 1 <;> omega
   simp only [spec_l15Start.l0, if_pos (show (i : Int) < (ds.length : Int) by omega), if_pos (show (0 : Int) ≤ (i : Int) by omega), rd_nat, spec_l00Max.f, em, Option.bind_some, w64 (x := (i : Int) + 1) (by omega) (by omega)]
   exact ih (i + 1) _ (by omega) (by omega)
 have h := key ds.length 0 0 (Nat.zero_add _) (by omega)
 rw [List.drop_zero] at h
 exact h
theorem implStart_ev (l : List S77) (ds : List Int) (hu : unitsOk l = true) (hd : dOk ds = true) : Ev (fun k => impl_startBound.f k l ds) (startB l ds) := by
 obtain ⟨⟨n1, n2⟩, hx⟩ := unitsOk_facts hu
 obtain ⟨⟨m1, m2⟩, hy⟩ := dOk_facts hd
 unfold impl_startBound.f startB
 have key : ∀ (m i : Nat) (s : Int), i + m = ds.length → 0 ≤ s ∧ s ≤ 400000 * i → Ev (fun k => impl_sumOf.l0 k s ds (ds.length : Int) (i : Int)) ((ds.drop i).foldl (· + ·) s) := by
  intro m
  induction m with
  | zero =>
   intro i s hi hs
   rw [List.drop_eq_nil_of_le (by omega)]
   refine Ev.succ ?_
   simp only [impl_sumOf.l0, if_neg (show ¬ (i : Int) < (ds.length : Int) by omega)]
   exact Ev.now _
  | succ m ih =>
   intro i s hi hs
   have hb := hy i (by omega)
   have eg : ds.getD i 0 = ds[i]'(by omega) := getD_lt 0 (by omega)
   rw [List.drop_eq_getElem_cons (by omega), List.foldl_cons, ← eg]
   refine Ev.succ ?_
   simp only [impl_sumOf.l0, if_pos (show (i : Int) < (ds.length : Int) by omega), if_pos (show (0 : Int) ≤ (i : Int) by omega), rd_nat, w64 (x := (i : Int) + 1) (by omega) (by omega), w64 (x := s + ds.getD i 0) (by omega) (by omega)]
   exact ih (i + 1) _ (by omega) (by omega)
 have h := key ds.length 0 0 (Nat.zero_add _) (by omega)
 rw [List.drop_zero] at h
 have hX : Ev (fun k => impl_sumOf.f k ds) (ds.foldl (· + ·) 0) := by
  unfold impl_sumOf.f
  exact h
 refine Ev.bind hX ?_
 have hz := (sum_zero ds 0 (Int.le_refl _) (fun x hx => by
  obtain ⟨i, hi, rfl⟩ := List.getElem_of_mem hx
  have := (hy i hi).1
  rwa [getD_lt 0 hi] at this)).1
 by_cases h0 : ds.foldl (· + ·) 0 = 0
 ·
  simp only [if_pos h0, if_pos (hz.1 h0)]
  exact Ev.now _
 ·
  simp only [if_neg h0, if_neg (fun e => h0 (hz.2 e)), if_pos (show (0 : Int) < (l.length : Int) by omega)]
  have key2 : ∀ (m i : Nat) (s : Int), i + m = l.length → Ev (fun k => impl_startBound.l0 k s l (l.length : Int) (i : Int)) (((l.drop i).map (·.f4)).foldl min s) := by
   intro m
   induction m with
   | zero =>
    intro i s hi
    rw [List.drop_eq_nil_of_le (by omega)]
    refine Ev.succ ?_
    simp only [impl_startBound.l0, if_neg (show ¬ (i : Int) < (l.length : Int) by omega)]
    exact Ev.now _
   | succ m ih =>
    intro i s hi
    rw [List.drop_eq_getElem_cons (by omega), List.map_cons, List.foldl_cons]
    refine Ev.succ ?_
    have e : (rdU l i).f4 = (l[i]'(by omega)).f4 := by
     unfold rdU
     rw [getD_lt _ (by omega)]
    have em : mn s (rdU l i).f4 = min s (l[i]'(by omega)).f4 := by
     rw [← e]
     unfold mn
     split <;> omega
    simp only [impl_startBound.l0, if_pos (show (i : Int) < (l.length : Int) by omega), if_pos (show (0 : Int) ≤ (i : Int) by omega), rdU_eq, em, w64 (x := (i : Int) + 1) (by omega) (by omega)]
    exact ih (i + 1) _ (by omega)
  have h2 := key2 l.length 0 (rdU l 0).f4 (Nat.zero_add _)
  rw [List.drop_zero] at h2
  have er : (rd_T77 l 0).f4 = (rdU l 0).f4 := by rw [show (0 : Int) = ((0 : Nat) : Int) from rfl, rdU_eq]
  rw [er]
  exact h2
def hb (l : List S77) : List Nat → Int → Int → Int × Bool
 | [], d, c => (c, d == 0)
 | i :: t, d, c => hb l t (d - min d (rdU l i).f2) (c + min d (rdU l i).f2 * (rdU l i).f3)
theorem mul_bd {a b : Int} (h0 : 0 ≤ a) (h1 : a ≤ 400000) (h2 : 0 ≤ b) (h3 : b ≤ 100000) : 0 ≤ a * b ∧ a * b ≤ 40000000000 :=
 ⟨Int.mul_nonneg h0 h2, by have := Int.mul_le_mul h1 h3 h2 (by omega); omega⟩
theorem hb_bd (l : List S77) (hx : ∀ i, i < l.length → unitR (rdU l i) = true) : ∀ (O : List Nat) (d c : Int), (∀ i ∈ O, i < l.length) → 0 ≤ d ∧ d ≤ 400000 → 0 ≤ c → 0 ≤ (hb l O d c).1 ∧ (hb l O d c).1 ≤ c + 40000000000 * O.length
 | [], d, c, _, _, hc => ⟨hc, by simp [hb]⟩
 | i :: t, d, c, ho, hd, hc => by
  have f := unitR_facts (hx i (ho i List.mem_cons_self))
  have mb := mul_bd (a := min d (rdU l i).f2) (b := (rdU l i).f3) (by omega) (by omega) (by omega) (by omega)
  have ih := hb_bd l hx t (d - min d (rdU l i).f2) (c + min d (rdU l i).f2 * (rdU l i).f3) (fun j hj => ho j (List.mem_cons_of_mem _ hj)) (by omega) (by omega)
  rw [hb, List.length_cons]
  omega
theorem specHour_ev (l : List S77) (d : Int) (hu : unitsOk l = true) (hd : 0 ≤ d ∧ d ≤ 400000) : Ev (fun k => spec_l15Hour.f k l d) (hb l (meritI l) d 0) := by
 obtain ⟨⟨n1, n2⟩, hx⟩ := unitsOk_facts hu
 obtain ⟨ml, mm⟩ := merit_facts l
 unfold spec_l15Hour.f
 refine Ev.bind (specOrder_ev l (by omega)) ?_
 generalize meritI l = O at ml mm
 have key : ∀ (m i : Nat) (d c : Int), i + m = O.length → 0 ≤ d ∧ d ≤ 400000 → 0 ≤ c ∧ c ≤ 40000000000 * i → Ev (fun k => spec_l15Hour.l0 k l d (castL O) c (i : Int)) (hb l (O.drop i) d c) := by
  intro m
  induction m with
  | zero =>
   intro i d c hi hd hc
   rw [List.drop_eq_nil_of_le (by omega)]
   refine Ev.succ ?_
   simp only [spec_l15Hour.l0, castL_len, if_neg (show ¬ (i : Int) < (O.length : Int) by omega)]
   exact Ev.now _
  | succ m ih =>
   intro i d c hi hd hc
   have hlt : i < O.length := by omega
   have hj := mm _ (List.getElem_mem hlt)
   have f := unitR_facts (hx _ hj)
   have eg : O.getD i 0 = O[i] := getD_lt 0 hlt
   rw [List.drop_eq_getElem_cons hlt, hb]
   refine Ev.succ ?_
   have e1 : rd_T77 [rdU l O[i]] 0 = rdU l O[i] := rfl
   have em : (if d < (rdU l O[i]).f2 then some d else some (rdU l O[i]).f2) = some (min d (rdU l O[i]).f2) := by
    split <;> congr 1 <;> omega
   have mb := mul_bd (a := min d (rdU l O[i]).f2) (b := (rdU l O[i]).f3) (by omega) (by omega) (by omega) (by omega)
   simp only [spec_l15Hour.l0, castL_len, if_pos (show (i : Int) < (O.length : Int) by omega), if_pos (show (0 : Int) ≤ (i : Int) by omega), rd_castL O i hlt, eg, if_pos (show (0 : Int) ≤ ((O[i] : Nat) : Int) by omega), if_pos (show ((O[i] : Nat) : Int) < (l.length : Int) by omega), rdU_eq, e1, spec_l00Min.f, em, Option.bind_some]
   rw [w64 (x := (i : Int) + 1) (by omega) (by omega), w64 (x := d - min d (rdU l O[i]).f2) (by omega) (by omega), w64 (x := min d (rdU l O[i]).f2 * (rdU l O[i]).f3) (by omega) (by omega), w64 (by omega) (by omega)]
   exact ih (i + 1) _ _ (by omega) (by omega) (by omega)
 have h := key O.length 0 d 0 (Nat.zero_add _) hd (by omega)
 rw [List.drop_zero] at h
 exact h
theorem implHour_ev (l : List S77) (d : Int) (hu : unitsOk l = true) (hd : 0 ≤ d ∧ d ≤ 400000) : Ev (fun k => impl_hourBound.f k l d) (hb l (meritI l) d 0) := by
 obtain ⟨⟨n1, n2⟩, hx⟩ := unitsOk_facts hu
 obtain ⟨ml, mm⟩ := merit_facts l
 unfold impl_hourBound.f impl_meritOrder.f
 rw [if_pos ⟨by omega, by omega⟩]
 simp only [Option.bind_some]
 rw [show ((meritI l).map fun i : Nat => (i : Int)) = castL (meritI l) from rfl]
 generalize meritI l = O at ml mm
 have key : ∀ (m i : Nat) (d c : Int), i + m = O.length → 0 ≤ d ∧ d ≤ 400000 → 0 ≤ c ∧ c ≤ 40000000000 * i → Ev (fun k => impl_hourBound.l0 k l d c (castL O) (O.length : Int) (i : Int)) (hb l (O.drop i) d c) := by
  intro m
  induction m with
  | zero =>
   intro i d c hi hd hc
   rw [List.drop_eq_nil_of_le (by omega)]
   refine Ev.succ ?_
   simp only [impl_hourBound.l0, if_neg (show ¬ (i : Int) < (O.length : Int) by omega)]
   exact Ev.now _
  | succ m ih =>
   intro i d c hi hd hc
   have hlt : i < O.length := by omega
   have hj := mm _ (List.getElem_mem hlt)
   have f := unitR_facts (hx _ hj)
   have eg : O.getD i 0 = O[i] := getD_lt 0 hlt
   rw [List.drop_eq_getElem_cons hlt, hb]
   refine Ev.succ ?_
   have em : mn (rdU l O[i]).f2 d = min d (rdU l O[i]).f2 := by
    unfold mn
    split <;> omega
   have mb := mul_bd (a := min d (rdU l O[i]).f2) (b := (rdU l O[i]).f3) (by omega) (by omega) (by omega) (by omega)
   simp only [impl_hourBound.l0, castL_len, if_pos (show (i : Int) < (O.length : Int) by omega), if_pos (show (0 : Int) ≤ (i : Int) by omega), rd_castL O i hlt, eg, if_pos (show (0 : Int) ≤ ((O[i] : Nat) : Int) by omega), if_pos (show ((O[i] : Nat) : Int) < (l.length : Int) by omega), rdU_eq, em]
   rw [w64 (x := (i : Int) + 1) (by omega) (by omega), w64 (x := d - min d (rdU l O[i]).f2) (by omega) (by omega), w64 (x := min d (rdU l O[i]).f2 * (rdU l O[i]).f3) (by omega) (by omega), w64 (by omega) (by omega)]
   exact ih (i + 1) _ _ (by omega) (by omega) (by omega)
 have h := key O.length 0 d 0 (Nat.zero_add _) hd (by omega)
 rw [List.drop_zero] at h
 rw [castL_len]
 exact h
def db (l : List S77) : List Int → Int → Option Int
 | [], s => some s
 | d :: t, s => if (hb l (meritI l) d 0).2 = true then db l t (s + (hb l (meritI l) d 0).1) else none
def dayR (l : List S77) (ds : List Int) : Int × Int := if ask l ds = 0 then (match db l ds (startB l ds) with | some s => (s, 0) | none => (0, 3)) else (0, ask l ds)
theorem ask_ok {l : List S77} {ds : List Int} (h : ask l ds = 0) : unitsOk l = true ∧ dOk ds = true := by
 unfold ask at h
 split at h
 ·
  rename_i h1
  split at h
  ·
   rename_i h2
   exact ⟨h1, h2⟩
  ·
   omega
 ·
  omega
theorem startB_bd (l : List S77) (ds : List Int) (hu : unitsOk l = true) : 0 ≤ startB l ds ∧ startB l ds ≤ 100000000 := by
 obtain ⟨⟨n1, n2⟩, hx⟩ := unitsOk_facts hu
 have hm : ∀ (xs : List S77) (s : Int), (∀ x ∈ xs, 0 ≤ x.f4) → 0 ≤ s ∧ s ≤ 100000000 → 0 ≤ (xs.map (·.f4)).foldl min s ∧ (xs.map (·.f4)).foldl min s ≤ 100000000 := by
  intro xs
  induction xs with
  | nil => intro s _ hs; exact hs
  | cons x t ih =>
   intro s hall hs
   rw [List.map_cons, List.foldl_cons]
   have := hall x List.mem_cons_self
   exact ih _ (fun y hy => hall y (List.mem_cons_of_mem _ hy)) (by omega)
 unfold startB
 split
 ·
  omega
 ·
  have f := unitR_facts (hx 0 (by omega))
  refine hm l (rdU l 0).f4 (fun x hx2 => ?_) (by omega)
  obtain ⟨i, hi, rfl⟩ := List.getElem_of_mem hx2
  have f2 := unitR_facts (hx i hi)
  unfold rdU at f2
  rw [getD_lt _ hi] at f2
  omega
theorem specDay_ev (l : List S77) (ds : List Int) (hu : unitsOk l = true) (hd : dOk ds = true) : Ev (fun k => spec_l15Day.f k l ds) (match db l ds (startB l ds) with | some s => (s, true) | none => (0, false)) := by
 obtain ⟨⟨n1, n2⟩, hx⟩ := unitsOk_facts hu
 obtain ⟨⟨m1, m2⟩, hy⟩ := dOk_facts hd
 obtain ⟨ml, mm⟩ := merit_facts l
 have sb := startB_bd l ds hu
 have key : ∀ (m i : Nat) (s : Int), i + m = ds.length → 0 ≤ s ∧ s ≤ 100000000 + 160000000000 * i → Ev (fun k => spec_l15Day.l0 k l ds s (i : Int)) (match db l (ds.drop i) s with | some s => (s, true) | none => (0, false)) := by
  intro m
  induction m with
  | zero =>
   intro i s hi hs
   rw [List.drop_eq_nil_of_le (by omega)]
   refine Ev.succ ?_
   simp only [spec_l15Day.l0, if_neg (show ¬ (i : Int) < (ds.length : Int) by omega)]
   exact Ev.now _
  | succ m ih =>
   intro i s hi hs
   have hb1 := hy i (by omega)
   have eg : ds.getD i 0 = ds[i]'(by omega) := getD_lt 0 (by omega)
   rw [List.drop_eq_getElem_cons (by omega), ← eg, db]
   have bd := hb_bd l hx (meritI l) (ds.getD i 0) 0 mm hb1 (Int.le_refl _)
   refine Ev.succ ?_
   simp only [spec_l15Day.l0, if_pos (show (i : Int) < (ds.length : Int) by omega), if_pos (show (0 : Int) ≤ (i : Int) by omega), rd_nat]
   refine Ev.bind (specHour_ev l (ds.getD i 0) hu hb1) ?_
   cases hq : (hb l (meritI l) (ds.getD i 0) 0).2 with
   | false => exact Ev.now _
   | true =>
    simp only [if_true]
    rw [w64 (x := (i : Int) + 1) (by omega) (by omega), w64 (by omega) (by omega)]
    exact ih (i + 1) _ (by omega) (by omega)
 have h := key ds.length 0 (startB l ds) (Nat.zero_add _) (by omega)
 rw [List.drop_zero] at h
 have hX : Ev (fun k => spec_l15Day.f k l ds) (match db l ds (startB l ds) with | some s => (s, true) | none => (0, false)) := by
  unfold spec_l15Day.f
  exact Ev.bind (specStart_ev l ds hu hd) h
 exact hX
theorem implDay_ev (l : List S77) (ds : List Int) (h1 : l.length ≤ 1048576) (h2 : ds.length ≤ 1048576) : Ev (fun k => impl_DayBound.f k l ds) (dayR l ds) := by
 unfold impl_DayBound.f dayR
 refine Ev.bind (implAsk_ev l ds h1 h2) ?_
 by_cases h0 : ask l ds = 0
 ·
  simp only [if_pos h0]
  obtain ⟨hu, hd⟩ := ask_ok h0
  obtain ⟨⟨n1, n2⟩, hx⟩ := unitsOk_facts hu
  obtain ⟨⟨m1, m2⟩, hy⟩ := dOk_facts hd
  obtain ⟨ml, mm⟩ := merit_facts l
  have sb := startB_bd l ds hu
  refine Ev.bind (implStart_ev l ds hu hd) ?_
  have key : ∀ (m i : Nat) (s : Int), i + m = ds.length → 0 ≤ s ∧ s ≤ 100000000 + 160000000000 * i → Ev (fun k => impl_DayBound.l0 k l s ds (ds.length : Int) (i : Int)) (match db l (ds.drop i) s with | some s => (s, 0) | none => (0, 3)) := by
   intro m
   induction m with
   | zero =>
    intro i s hi hs
    rw [List.drop_eq_nil_of_le (by omega)]
    refine Ev.succ ?_
    simp only [impl_DayBound.l0, if_neg (show ¬ (i : Int) < (ds.length : Int) by omega)]
    exact Ev.now _
   | succ m ih =>
    intro i s hi hs
    have hb1 := hy i (by omega)
    have eg : ds.getD i 0 = ds[i]'(by omega) := getD_lt 0 (by omega)
    rw [List.drop_eq_getElem_cons (by omega), ← eg, db]
    have bd := hb_bd l hx (meritI l) (ds.getD i 0) 0 mm hb1 (Int.le_refl _)
    refine Ev.succ ?_
    simp only [impl_DayBound.l0, if_pos (show (i : Int) < (ds.length : Int) by omega), if_pos (show (0 : Int) ≤ (i : Int) by omega), rd_nat]
    refine Ev.bind (implHour_ev l (ds.getD i 0) hu hb1) ?_
    cases hq : (hb l (meritI l) (ds.getD i 0) 0).2 with
    | false => exact Ev.now _
    | true =>
     simp only [if_true]
     rw [w64 (x := (i : Int) + 1) (by omega) (by omega), w64 (by omega) (by omega)]
     exact ih (i + 1) _ (by omega) (by omega)
  have h := key ds.length 0 (startB l ds) (Nat.zero_add _) (by omega)
  rw [List.drop_zero] at h
  exact h
 ·
  simp only [if_neg h0]
  exact Ev.now _
def sL (f : Nat → Int) : List Nat → Int
 | [] => 0
 | i :: t => f i + sL f t
theorem sL_perm (f : Nat → Int) {a b : List Nat} (h : a.Perm b) : sL f a = sL f b := by
 induction h with
 | nil => rfl
 | cons x _ ih => rw [sL, sL, ih]
 | swap x y l => simp only [sL]; omega
 | trans _ _ h1 h2 => rw [h1, h2]
theorem sL_congr {f g : Nat → Int} : ∀ {L : List Nat}, (∀ i ∈ L, f i = g i) → sL f L = sL g L
 | [], _ => rfl
 | x :: t, h => by rw [sL, sL, h x List.mem_cons_self, sL_congr fun i hi => h i (List.mem_cons_of_mem _ hi)]
theorem sL_nonneg {f : Nat → Int} : ∀ {L : List Nat}, (∀ i ∈ L, 0 ≤ f i) → 0 ≤ sL f L
 | [], _ => Int.le_refl _
 | x :: t, h => by
  have := sL_nonneg fun i hi => h i (List.mem_cons_of_mem x hi)
  have := h x List.mem_cons_self
  rw [sL]
  omega
theorem sL_ge {f : Nat → Int} : ∀ {L : List Nat} {j : Nat}, (∀ i ∈ L, 0 ≤ f i) → j ∈ L → f j ≤ sL f L
 | x :: t, j, h, hj => by
  have h1 := sL_nonneg fun i hi => h i (List.mem_cons_of_mem x hi)
  have h2 := h x List.mem_cons_self
  rw [sL]
  rcases List.mem_cons.1 hj with e | e
  ·
   subst e; omega
  ·
   have := sL_ge (fun i hi => h i (List.mem_cons_of_mem x hi)) e
   omega
theorem sL_upd {f g : Nat → Int} (j : Nat) (hfg : ∀ i, i ≠ j → g i = f i) : ∀ {L : List Nat}, L.Nodup → j ∈ L → sL g L = sL f L + (g j - f j)
 | x :: t, hn, hj => by
  rw [List.nodup_cons] at hn
  rw [sL, sL]
  by_cases e : x = j
  ·
   subst e
   rw [sL_congr (g := f) fun i hi => hfg i fun z => hn.1 (z ▸ hi)]
   omega
  ·
   have hj2 : j ∈ t := by
    rcases List.mem_cons.1 hj with h | h
    ·
     exact absurd h.symm e
    ·
     exact h
   rw [sL_upd j hfg hn.2 hj2, hfg x e]
   omega
theorem insRev_perm (p : Nat → Int) (x : Nat) : ∀ l : List Nat, (insRev p x l).Perm (x :: l)
 | [] => List.Perm.refl _
 | y :: t => by
  rw [insRev]
  split
  ·
   exact ((insRev_perm p x t).cons y).trans (List.Perm.swap x y t)
  ·
   exact List.Perm.refl _
theorem ordN_perm (p : Nat → Int) : ∀ n : Nat, (ordN p n).Perm (List.range n)
 | 0 => List.Perm.refl _
 | n + 1 => by
  rw [ordN_succ, List.range_succ]
  exact (insRev_perm p n _).trans (((ordN_perm p n).cons n).trans (List.perm_append_comm (l₁ := [n])))
theorem insRev_sorted (p : Nat → Int) (x : Nat) : ∀ l : List Nat, l.Pairwise (fun a b => p b ≤ p a) → (insRev p x l).Pairwise (fun a b => p b ≤ p a)
 | [], _ => List.pairwise_singleton _ _
 | y :: t, h => by
  rw [insRev]
  have h1 := List.pairwise_cons.1 h
  split
  ·
   rename_i hlt
   refine List.pairwise_cons.2 ⟨fun z hz => ?_, insRev_sorted p x t h1.2⟩
   rcases insRev_mem p x t z hz with e | e
   ·
    subst e; omega
   ·
    exact h1.1 z e
  ·
   rename_i hlt
   refine List.pairwise_cons.2 ⟨fun z hz => ?_, h⟩
   rcases List.mem_cons.1 hz with e | e
   ·
    subst e; omega
   ·
    have := h1.1 z e; omega
theorem ordN_sorted (p : Nat → Int) : ∀ n : Nat, (ordN p n).Pairwise (fun a b => p b ≤ p a)
 | 0 => List.Pairwise.nil
 | n + 1 => by
  rw [ordN_succ]
  exact insRev_sorted p n _ (ordN_sorted p n)
theorem merit_perm (l : List S77) : (meritI l).Perm (List.range l.length) := by
 unfold meritI
 rw [meritN_eq]
 exact (List.reverse_perm _).trans (ordN_perm _ _)
theorem merit_sorted (l : List S77) : (meritI l).Pairwise (fun a b => (rdU l a).f3 ≤ (rdU l b).f3) := by
 unfold meritI
 rw [meritN_eq, List.pairwise_reverse]
 have h := ordN_sorted (fun i => (rd_T77 l (i : Int)).f3) l.length
 simp only [rdU_eq] at h
 exact h
theorem hb_zero (l : List S77) (hx : ∀ i, i < l.length → unitR (rdU l i) = true) : ∀ (O : List Nat) (c : Int), (∀ i ∈ O, i < l.length) → hb l O 0 c = (c, true)
 | [], c, _ => rfl
 | i :: t, c, ho => by
  have f := unitR_facts (hx i (ho i List.mem_cons_self))
  rw [hb, show min 0 (rdU l i).f2 = 0 by omega, Int.zero_mul, Int.add_zero, Int.sub_zero]
  exact hb_zero l hx t c fun j hj => ho j (List.mem_cons_of_mem _ hj)
theorem le_mul (a b c : Int) (h : a ≤ b) (h2 : 0 ≤ c) : c * a ≤ c * b := Int.mul_le_mul_of_nonneg_left h h2
theorem greedy_le (l : List S77) (hx : ∀ i, i < l.length → unitR (rdU l i) = true) (p : Nat → Int) (hp : ∀ i, i < l.length → 0 ≤ p i ∧ p i ≤ (rdU l i).f2) : ∀ (O : List Nat) (d c la : Int), (∀ i ∈ O, i < l.length) → O.Pairwise (fun a b => (rdU l a).f3 ≤ (rdU l b).f3) → (∀ i ∈ O, la ≤ (rdU l i).f3) → 0 ≤ d → d ≤ sL p O →
  (hb l O d c).1 + la * (sL p O - d) ≤ c + sL (fun i => p i * (rdU l i).f3) O ∧ (hb l O d c).2 = true
 | [], d, c, la, _, _, _, h0, h1 => by
  simp only [sL] at h1
  obtain rfl : d = 0 := by omega
  refine ⟨?_, rfl⟩
  show c + la * (0 - 0) ≤ c + 0
  simp
 | a :: t, d, c, la, ho, hs, hla, h0, h1 => by
  have hs2 := List.pairwise_cons.1 hs
  have ha := ho a List.mem_cons_self
  have f := unitR_facts (hx a ha)
  have hpa := hp a ha
  have hla1 := hla a List.mem_cons_self
  rw [sL] at h1
  have hot : ∀ i ∈ t, i < l.length := fun j hj => ho j (List.mem_cons_of_mem _ hj)
  rw [hb]
  by_cases hd : d ≤ (rdU l a).f2
  ·
   rw [Int.min_eq_left hd, Int.sub_self, hb_zero l hx t _ hot]
   refine ⟨?_, rfl⟩
   have hge : ∀ L : List Nat, (∀ i ∈ L, i < l.length ∧ (rdU l a).f3 ≤ (rdU l i).f3) → (rdU l a).f3 * sL p L ≤ sL (fun i => p i * (rdU l i).f3) L := by
    intro L
    induction L with
    | nil => intro _; simp [sL]
    | cons x u ih =>
     intro hL
     have h1 := ih fun i hi => hL i (List.mem_cons_of_mem _ hi)
     have h2 := hL x List.mem_cons_self
     have h3 := le_mul _ _ (p x) h2.2 (hp x h2.1).1
     rw [sL, sL, Int.mul_add, Int.mul_comm _ (p x)]
     omega
   have h2 := hge (a :: t) fun i hi => ⟨ho i hi, by
    rcases List.mem_cons.1 hi with e | e
    ·
     subst e; exact Int.le_refl _
    ·
     exact hs2.1 i e⟩
   have h3 : 0 ≤ ((rdU l a).f3 - la) * (sL p (a :: t) - d) := Int.mul_nonneg (by omega) (by rw [sL]; omega)
   generalize sL p (a :: t) = P at h2 h3 ⊢
   generalize sL (fun i => p i * (rdU l i).f3) (a :: t) = Q at h2 ⊢
   generalize (rdU l a).f3 = ca at h2 h3 ⊢
   grind
  ·
   rw [Int.min_eq_right (by omega)]
   obtain ⟨k1, k2⟩ := greedy_le l hx p hp t (d - (rdU l a).f2) (c + (rdU l a).f2 * (rdU l a).f3) (rdU l a).f3 hot hs2.2 hs2.1 (by omega) (by omega)
   refine ⟨?_, k2⟩
   have h3 : 0 ≤ ((rdU l a).f3 - la) * (p a + sL p t - d) := Int.mul_nonneg (by omega) (by omega)
   rw [sL, sL]
   generalize sL p t = P at k1 h3 ⊢
   generalize sL (fun i => p i * (rdU l i).f3) t = Q at k1 ⊢
   generalize (hb l t (d - (rdU l a).f2) (c + (rdU l a).f2 * (rdU l a).f3)).1 = H at k1 ⊢
   generalize (rdU l a).f3 = ca at k1 h3 ⊢
   generalize (rdU l a).f2 = ma at k1 ⊢
   generalize p a = pa at h3 ⊢
   grind
theorem sL_zero {f : Nat → Int} : ∀ {L : List Nat}, (∀ i ∈ L, f i = 0) → sL f L = 0
 | [], _ => rfl
 | x :: t, h => by rw [sL, h x List.mem_cons_self, sL_zero fun i hi => h i (List.mem_cons_of_mem _ hi)]; rfl
def at0 (x : List Int) (j : Nat) : Int := x.getD j 0
theorem sL_set (n : Nat) (x : List Int) (i : Nat) (v : Int) (hi : i < n) (hl : x.length = n) : sL (at0 (x.set i v)) (List.range n) = sL (at0 x) (List.range n) + (v - at0 x i) := by
 have h := sL_upd (f := at0 x) (g := at0 (x.set i v)) i (fun j hj => by
  unfold at0
  rw [getD_set, if_neg fun z => hj z.1.symm]) (List.nodup_range (n := n)) (List.mem_range.2 hi)
 rw [h]
 have e : at0 (x.set i v) i = v := by
  unfold at0
  rw [getD_set, if_pos ⟨rfl, by omega⟩]
 rw [e]
theorem st1_sum (l : List S77) (on : List Bool) : ∀ (m i : Nat) (x : List Int) (c : Int), i + m = l.length → x.length = l.length → (∀ j, i ≤ j → at0 x j = 0) →
  sL (at0 (st1 l on m i x c).1) (List.range l.length) + (st1 l on m i x c).2 = sL (at0 x) (List.range l.length) + c ∧ (st1 l on m i x c).1.length = l.length ∧ ∀ j, j < l.length → at0 (st1 l on m i x c).1 j = if i ≤ j then (if on.getD j false = true then (rdU l j).f1 else 0) else at0 x j
 | 0, i, x, c, hi, hl, hz => by
  refine ⟨rfl, hl, fun j hj => ?_⟩
  rw [if_neg (by omega)]
  rfl
 | m + 1, i, x, c, hi, hl, hz => by
  rw [st1]
  by_cases ho : on.getD i false = true
  ·
   rw [if_pos ho]
   obtain ⟨k1, k2, k3⟩ := st1_sum l on m (i + 1) (x.set i (rdU l i).f1) (c - (rdU l i).f1) (by omega) (by rw [List.length_set]; exact hl) (fun j hj => by
    unfold at0
    rw [getD_set, if_neg (by omega)]
    exact hz j (by omega))
   refine ⟨?_, k2, fun j hj => ?_⟩
   ·
    rw [k1, sL_set l.length x i _ (by omega) hl, hz i (Nat.le_refl _)]
    omega
   ·
    rw [k3 j hj]
    by_cases e : i = j
    ·
     subst e
     rw [if_neg (by omega), if_pos (Nat.le_refl _), if_pos ho]
     unfold at0
     rw [getD_set, if_pos ⟨rfl, by omega⟩]
    ·
     by_cases e2 : i + 1 ≤ j
     ·
      rw [if_pos e2, if_pos (show i ≤ j by omega)]
     ·
      rw [if_neg e2, if_neg (show ¬ i ≤ j by omega)]
      unfold at0
      rw [getD_set, if_neg (by omega)]
  ·
   rw [if_neg ho]
   obtain ⟨k1, k2, k3⟩ := st1_sum l on m (i + 1) x c (by omega) hl (fun j hj => hz j (by omega))
   refine ⟨k1, k2, fun j hj => ?_⟩
   rw [k3 j hj]
   by_cases e : i = j
   ·
    subst e
    rw [if_neg (by omega), if_pos (Nat.le_refl _), if_neg ho]
    exact hz i (Nat.le_refl _)
   ·
    by_cases e2 : i + 1 ≤ j
    ·
     rw [if_pos e2, if_pos (show i ≤ j by omega)]
    ·
     rw [if_neg e2, if_neg (show ¬ i ≤ j by omega)]
theorem st2_sum (l : List S77) (on : List Bool) (hx : ∀ i, i < l.length → unitR (rdU l i) = true) : ∀ (O : List Nat) (x : List Int) (c : Int), O.Nodup → (∀ j ∈ O, j < l.length) → x.length = l.length → 0 ≤ c → (∀ j ∈ O, on.getD j false = true → at0 x j = (rdU l j).f1) →
  sL (at0 (st2 l on O x c).1) (List.range l.length) + (st2 l on O x c).2 = sL (at0 x) (List.range l.length) + c ∧ ∀ j, j < l.length → at0 (st2 l on O x c).1 j = at0 x j ∨ (on.getD j false = true ∧ (rdU l j).f1 ≤ at0 (st2 l on O x c).1 j ∧ at0 (st2 l on O x c).1 j ≤ (rdU l j).f2)
 | [], x, c, _, _, _, _, _ => ⟨rfl, fun j hj => .inl rfl⟩
 | a :: t, x, c, hn, ho, hl, hc, h1 => by
  rw [List.nodup_cons] at hn
  rw [st2]
  by_cases hon : on.getD a false = true
  ·
   rw [if_pos hon]
   have ha := ho a List.mem_cons_self
   have f := unitR_facts (hx a ha)
   have ea : x.getD a 0 = (rdU l a).f1 := h1 a List.mem_cons_self hon
   obtain ⟨k1, k2⟩ := st2_sum l on hx t (x.set a (x.getD a 0 + min c ((rdU l a).f2 - (rdU l a).f1))) (c - min c ((rdU l a).f2 - (rdU l a).f1)) hn.2 (fun j hj => ho j (List.mem_cons_of_mem _ hj)) (by rw [List.length_set]; exact hl) (by omega) (fun j hj hj2 => by
    have hne : a ≠ j := fun e => hn.1 (e ▸ hj)
    unfold at0
    rw [getD_set, if_neg fun z => hne z.1]
    exact h1 j (List.mem_cons_of_mem _ hj) hj2)
   refine ⟨?_, fun j hj => ?_⟩
   ·
    rw [k1, sL_set l.length x a _ ha hl]
    unfold at0
    omega
   ·
    have e3 : at0 (x.set a (x.getD a 0 + min c ((rdU l a).f2 - (rdU l a).f1))) j = if a = j ∧ a < x.length then x.getD a 0 + min c ((rdU l a).f2 - (rdU l a).f1) else at0 x j := getD_set x a j _
    by_cases e : a = j
    ·
     subst e
     rw [if_pos ⟨rfl, by omega⟩] at e3
     rcases k2 a hj with k | k
     ·
      refine .inr ⟨hon, ?_, ?_⟩ <;> rw [k, e3, ea] <;> omega
     ·
      exact .inr k
    ·
     rw [if_neg fun z => e z.1] at e3
     rcases k2 j hj with k | k
     ·
      exact .inl (k.trans e3)
     ·
      exact .inr k
  ·
   rw [if_neg hon]
   exact st2_sum l on hx t x c hn.2 (fun j hj => ho j (List.mem_cons_of_mem _ hj)) hl hc fun j hj => h1 j (List.mem_cons_of_mem _ hj)
theorem shr_sum (l : List S77) (on : List Bool) (a : Int) (hx : ∀ i, i < l.length → unitR (rdU l i) = true) (h : (shr l on a).2 = 0) :
  sL (at0 (shr l on a).1) (List.range l.length) = a ∧ ∀ j, j < l.length → (0 ≤ at0 (shr l on a).1 j ∧ at0 (shr l on a).1 j ≤ (rdU l j).f2) ∧ (on.getD j false = false → at0 (shr l on a).1 j = 0) := by
 have z0 : ∀ j, at0 (List.replicate l.length 0) j = 0 := fun j => by
  unfold at0
  rw [List.getD_eq_getElem?_getD, List.getElem?_replicate]
  split <;> rfl
 obtain ⟨k1, k2, k3⟩ := st1_sum l on l.length 0 (List.replicate l.length 0) a (Nat.zero_add _) List.length_replicate fun j _ => z0 j
 unfold shr at h ⊢
 by_cases c : (st1 l on l.length 0 (List.replicate l.length 0) a).2 < 0
 ·
  simp only [if_pos c] at h
  omega
 ·
  simp only [if_neg c] at h ⊢
  have hp := merit_perm l
  obtain ⟨j1, j2⟩ := st2_sum l on hx (meritI l) _ _ (hp.nodup_iff.2 List.nodup_range) (merit_facts l).2 k2 (Int.not_lt.1 c) (fun j hj hj2 => by
   rw [k3 j ((merit_facts l).2 j hj), if_pos (Nat.zero_le _), if_pos hj2])
  rw [h, Int.add_zero, k1, sL_zero fun i _ => z0 i, Int.zero_add] at j1
  refine ⟨j1, fun j hj => ?_⟩
  have f := unitR_facts (hx j hj)
  have e := k3 j hj
  rw [if_pos (Nat.zero_le _)] at e
  rcases j2 j hj with k | k
  ·
   rw [k, e]
   split
   ·
    rename_i hon
    exact ⟨⟨by omega, by omega⟩, fun z => by rw [z] at hon; cases hon⟩
   ·
    exact ⟨⟨by omega, by omega⟩, fun _ => rfl⟩
  ·
   exact ⟨⟨by omega, k.2.2⟩, fun z => by rw [k.1] at z; cases z⟩
theorem cst_sum (l : List S77) (x : List Int) : ∀ (m i : Nat) (c : Int), cst l x m i c = c + sL (fun j => at0 x j * (rdU l j).f3) (List.range' i m)
 | 0, i, c => by simp [cst, sL]
 | m + 1, i, c => by
  rw [cst, cst_sum l x m (i + 1), List.range'_succ, sL]
  unfold at0
  omega
theorem hour_le (l : List S77) (S : List (List Bool)) (D : List Int) (h : Nat) (hx : ∀ i, i < l.length → unitR (rdU l i) = true) (hd : 0 ≤ D.getD h 0) (ho : okH l S D h = true) :
  (hb l (meritI l) (D.getD h 0) 0).1 ≤ coH l S D h ∧ (0 < D.getD h 0 → ∃ i, i < l.length ∧ bitS S h i = true) := by
 unfold okH shk at ho
 have h2 : (shr l (S.getD h []) (D.getD h 0)).2 = 0 := by simpa using ho
 obtain ⟨k1, k2⟩ := shr_sum l (S.getD h []) (D.getD h 0) hx h2
 have hp := merit_perm l
 refine ⟨?_, fun hpos => ?_⟩
 ·
  have g := (greedy_le l hx (at0 (shr l (S.getD h []) (D.getD h 0)).1) (fun i hi => (k2 i hi).1) (meritI l) (D.getD h 0) 0 0 (merit_facts l).2 (merit_sorted l) (fun i hi => (unitR_facts (hx i ((merit_facts l).2 i hi))).2.2.1.1) hd (by rw [sL_perm _ hp, k1]; exact Int.le_refl _)).1
  rw [Int.zero_mul, Int.add_zero, Int.zero_add, sL_perm _ hp, List.range_eq_range'] at g
  unfold coH shk
  rw [cst_sum, Int.zero_add]
  exact g
 ·
  refine Classical.byContradiction fun hno => ?_
  have hz : sL (at0 (shr l (S.getD h []) (D.getD h 0)).1) (List.range l.length) = 0 := sL_zero fun i hi => (k2 i (List.mem_range.1 hi)).2 (by
   cases hb : (S.getD h []).getD i false with
   | false => rfl
   | true => exact absurd ⟨i, List.mem_range.1 hi, hb⟩ hno)
  omega
def stO (l : List S77) (S : List (List Bool)) (h : Nat) (j : Nat) : Int := if bitS S h j = true ∧ befS S h j = false then (rdU l j).f4 else 0
theorem stS_sum (l : List S77) (S : List (List Bool)) (h : Nat) : ∀ (m i : Nat) (c : Int), stS l S h m i c = c + sL (stO l S h) (List.range' i m)
 | 0, i, c => by simp [stS, sL]
 | m + 1, i, c => by
  rw [stS, stS_sum l S h m (i + 1), List.range'_succ, sL]
  unfold stO
  split <;> omega
theorem totS_sum (l : List S77) (S : List (List Bool)) (D : List Int) : ∀ (m h : Nat) (c : Int), totS l S D m h c = c + sL (coH l S D) (List.range' h m) + sL (fun h => sL (stO l S h) (List.range' 0 l.length)) (List.range' h m)
 | 0, h, c => by simp [totS, sL]
 | m + 1, h, c => by
  rw [totS, totS_sum l S D m (h + 1), stS_sum, List.range'_succ, sL, sL]
  omega
theorem db_le (l : List S77) (S : List (List Bool)) (D : List Int) (hx : ∀ i, i < l.length → unitR (rdU l i) = true) (hd : ∀ j, j < D.length → 0 ≤ D.getD j 0) : ∀ (m h : Nat) (s b : Int), h + m = D.length → allH l S D m h = true → db l (D.drop h) s = some b → b ≤ s + sL (coH l S D) (List.range' h m)
 | 0, h, s, b, hm, _, hb => by
  rw [List.drop_eq_nil_of_le (by omega), db] at hb
  have := Option.some.inj hb
  simp [sL]
  omega
 | m + 1, h, s, b, hm, ha, hb => by
  rw [allH, Bool.and_eq_true] at ha
  have hlt : h < D.length := by omega
  have eg : D.getD h 0 = D[h] := getD_lt 0 hlt
  rw [List.drop_eq_getElem_cons hlt, db, ← eg] at hb
  split at hb
  ·
   have k := db_le l S D hx hd m (h + 1) _ b (by omega) ha.2 hb
   have k2 := (hour_le l S D h hx (hd h hlt) ha.1).1
   rw [List.range'_succ, sL]
   omega
  ·
   cases hb
theorem minF_le : ∀ (xs : List Int) (s : Int), xs.foldl min s ≤ s ∧ ∀ x ∈ xs, xs.foldl min s ≤ x
 | [], s => ⟨Int.le_refl _, fun x hx => by cases hx⟩
 | y :: t, s => by
  obtain ⟨a, b⟩ := minF_le t (min s y)
  rw [List.foldl_cons]
  refine ⟨by omega, fun x hx => ?_⟩
  rcases List.mem_cons.1 hx with e | e
  ·
   subst e; omega
  ·
   exact b x e
theorem minS_le (l : List S77) (i : Nat) (hi : i < l.length) : minS l ≤ (rdU l i).f4 := by
 unfold minS
 refine (minF_le _ _).2 _ (List.mem_map.2 ⟨l[i], List.getElem_mem hi, ?_⟩)
 unfold rdU
 rw [getD_lt _ hi]
theorem max_none : ∀ (ds : List Int) (s : Int), (∀ x ∈ ds, x ≤ s) → ds.foldl max s = s
 | [], s, _ => rfl
 | d :: t, s, h => by
  have := h d List.mem_cons_self
  rw [List.foldl_cons, Int.max_eq_left this]
  exact max_none t s fun x hx => h x (List.mem_cons_of_mem _ hx)
theorem first_on (S : List (List Bool)) (i : Nat) : ∀ h, bitS S h i = true → ∃ h', h' ≤ h ∧ bitS S h' i = true ∧ befS S h' i = false
 | 0, hb => ⟨0, Nat.le_refl _, hb, by unfold befS; rw [if_pos rfl]⟩
 | h + 1, hb => by
  cases c : bitS S h i with
  | false => exact ⟨h + 1, Nat.le_refl _, hb, by unfold befS; rw [if_neg (by omega), Nat.add_sub_cancel]; exact c⟩
  | true =>
   obtain ⟨h', a, b⟩ := first_on S i h c
   exact ⟨h', by omega, b⟩
theorem stO_nonneg (l : List S77) (S : List (List Bool)) (h : Nat) (hx : ∀ i, i < l.length → unitR (rdU l i) = true) (j : Nat) (hj : j < l.length) : 0 ≤ stO l S h j := by
 have f := unitR_facts (hx j hj)
 unfold stO
 split <;> omega
theorem allH_all (l : List S77) (S : List (List Bool)) (D : List Int) : ∀ (m h : Nat), allH l S D m h = true → ∀ j, h ≤ j → j < h + m → okH l S D j = true
 | 0, h, _, j, h1, h2 => by omega
 | m + 1, h, ha, j, h1, h2 => by
  rw [allH, Bool.and_eq_true] at ha
  by_cases e : h = j
  ·
   subst e; exact ha.1
  ·
   exact allH_all l S D m (h + 1) ha.2 j (by omega) (by omega)
theorem bound_le (l : List S77) (S : List (List Bool)) (D : List Int) (hu : unitsOk l = true) (hd : dOk D = true) (hn : S.length = D.length) (ha : allH l S D S.length 0 = true) (b : Int) (hb : db l D (startB l D) = some b) : b ≤ totS l S D S.length 0 0 := by
 obtain ⟨_, hx⟩ := unitsOk_facts hu
 obtain ⟨_, hdem⟩ := dOk_facts hd
 rw [hn] at ha ⊢
 have k := db_le l S D hx (fun j hj => (hdem j hj).1) D.length 0 (startB l D) b (Nat.zero_add _) ha hb
 rw [totS_sum, Int.zero_add]
 have hin : ∀ h, 0 ≤ sL (stO l S h) (List.range' 0 l.length) := fun h => sL_nonneg fun j hj => stO_nonneg l S h hx j (by rw [List.mem_range'_1] at hj; omega)
 have hst : startB l D ≤ sL (fun h => sL (stO l S h) (List.range' 0 l.length)) (List.range' 0 D.length) := by
  unfold startB
  split
  ·
   exact sL_nonneg fun h _ => hin h
  ·
   rename_i hne
   obtain ⟨h, hh, hpos⟩ : ∃ h, h < D.length ∧ 0 < D.getD h 0 := by
    refine Classical.byContradiction fun hno => hne (max_none D 0 fun x hx2 => ?_)
    obtain ⟨j, hj, rfl⟩ := List.getElem_of_mem hx2
    refine Int.not_lt.1 fun hc => hno ⟨j, hj, ?_⟩
    rw [getD_lt 0 hj]
    exact hc
   obtain ⟨i, hi, hbit⟩ := (hour_le l S D h hx (hdem h hh).1 (allH_all l S D D.length 0 ha h (Nat.zero_le _) (by omega))).2 hpos
   obtain ⟨h', h1, h2, h3⟩ := first_on S i h hbit
   have e1 : stO l S h' i = (rdU l i).f4 := by unfold stO; rw [if_pos ⟨h2, h3⟩]
   have e2 := sL_ge (f := stO l S h') (L := List.range' 0 l.length) (j := i) (fun j hj => stO_nonneg l S h' hx j (by rw [List.mem_range'_1] at hj; omega)) (by rw [List.mem_range'_1]; omega)
   have e3 := sL_ge (f := fun h => sL (stO l S h) (List.range' 0 l.length)) (L := List.range' 0 D.length) (j := h') (fun h _ => hin h) (by rw [List.mem_range'_1]; omega)
   have e4 := minS_le l i hi
   have e3' : sL (stO l S h') (List.range' 0 l.length) ≤ sL (fun h => sL (stO l S h) (List.range' 0 l.length)) (List.range' 0 D.length) := e3
   omega
 omega
def gapV (c b : Int) : Int := if c = 0 then 0 else Int.tdiv (1000 * (c - b) + c - 1) c
def res (l : List S77) (S : List (List Bool)) (D : List Int) (g : Int) : Bool :=
 if inB 0 1000 g = true ∧ ask2 l S D = 0 ∧ (allH l S D S.length 0 && runsOk l S) = true then (match db l D (startB l D) with | some b => decide (gapV (totS l S D S.length 0 0) b ≤ g) | none => false) else false
theorem ask2_facts {l : List S77} {S : List (List Bool)} {D : List Int} (h : ask2 l S D = 0) : unitsOk l = true ∧ dOk D = true ∧ stOk S l.length = true ∧ S.length = D.length := by
 unfold ask2 at h
 split at h
 ·
  rename_i h1
  split at h
  ·
   rename_i h2
   exact ⟨h1, h2⟩
  ·
   cases h
 ·
  cases h
theorem totS_bd (l : List S77) (S : List (List Bool)) (D : List Int) (hu : unitsOk l = true) (hd : dOk D = true) (hn : S.length = D.length) : 0 ≤ totS l S D S.length 0 0 ∧ totS l S D S.length 0 0 ≤ 3000000000000 := by
 obtain ⟨⟨n1, n2⟩, hx⟩ := unitsOk_facts hu
 obtain ⟨⟨m1, m2⟩, hdem⟩ := dOk_facts hd
 have key : ∀ (m h : Nat) (c : Int), h + m = D.length → c ≤ totS l S D m h c ∧ totS l S D m h c ≤ c + 200500000000 * (m : Int) := by
  intro m
  induction m with
  | zero => intro h c _; rw [totS]; omega
  | succ m ih =>
   intro h c hm
   have a := coH_bd l S D h hu (hdem h (by omega)).2
   have b := stS_bd l S h hx l.length 0 (c + coH l S D h) (Nat.zero_add _)
   have k := ih (h + 1) (stS l S h l.length 0 (c + coH l S D h)) (by omega)
   rw [totS]
   omega
 have k := key D.length 0 0 (Nat.zero_add _)
 rw [hn]
 omega
theorem db_ge (l : List S77) (hx : ∀ i, i < l.length → unitR (rdU l i) = true) : ∀ (ds : List Int) (s b : Int), (∀ x ∈ ds, 0 ≤ x ∧ x ≤ 400000) → db l ds s = some b → s ≤ b
 | [], s, b, _, h => by rw [db] at h; have := Option.some.inj h; omega
 | d :: t, s, b, hd, h => by
  rw [db] at h
  split at h
  ·
   have k := db_ge l hx t _ b (fun x hx2 => hd x (List.mem_cons_of_mem _ hx2)) h
   have k2 := hb_bd l hx (meritI l) d 0 (merit_facts l).2 (hd d List.mem_cons_self) (Int.le_refl _)
   omega
  ·
   cases h
theorem db_nonneg (l : List S77) (D : List Int) (hu : unitsOk l = true) (hd : dOk D = true) (b : Int) (h : db l D (startB l D) = some b) : 0 ≤ b := by
 have k := db_ge l (unitsOk_facts hu).2 D _ b (fun x hx => by
  obtain ⟨j, hj, rfl⟩ := List.getElem_of_mem hx
  have := (dOk_facts hd).2 j hj
  rwa [getD_lt 0 hj] at this) h
 have := startB_bd l D hu
 omega
theorem tdiv_bd (a c : Int) (h0 : 0 ≤ a) (h1 : a ≤ 4000000000000000) (hc : 0 < c) : 0 ≤ Int.tdiv a c ∧ Int.tdiv a c ≤ 4000000000000000 := by
 have e := Int.tdiv_eq_ediv_of_nonneg (b := c) h0
 rw [e]
 exact ⟨Int.ediv_nonneg h0 (by omega), Int.le_trans (Int.ediv_le_self c h0) h1⟩
theorem gap_w (c b : Int) (h0 : 0 ≤ b) (h1 : b ≤ c) (h2 : c ≤ 3000000000000) (hc : 0 < c) :
  wrap64 (Int.tdiv (wrap64 ((wrap64 ((wrap64 ((wrap64 (c - b)) * 1000)) + c)) - 1)) c) = Int.tdiv (1000 * (c - b) + c - 1) c ∧
  wrap64 (Int.tdiv (wrap64 ((wrap64 ((wrap64 (1000 * (wrap64 (c - b)))) + c)) - 1)) c) = Int.tdiv (1000 * (c - b) + c - 1) c := by
 have e1 : wrap64 (c - b) = c - b := w64 (by omega) (by omega)
 have e2 : wrap64 ((c - b) * 1000) = 1000 * (c - b) := by rw [w64 (by omega) (by omega)]; omega
 have e3 : wrap64 (1000 * (c - b)) = 1000 * (c - b) := w64 (by omega) (by omega)
 have e4 : wrap64 (1000 * (c - b) + c) = 1000 * (c - b) + c := w64 (by omega) (by omega)
 have e5 : wrap64 (1000 * (c - b) + c - 1) = 1000 * (c - b) + c - 1 := w64 (by omega) (by omega)
 have k := tdiv_bd (1000 * (c - b) + c - 1) c (by omega) (by omega) hc
 rw [e1, e2, e3, e4, e5, w64 (by omega) (by omega)]
 exact ⟨rfl, rfl⟩
theorem specPlan_ev (l : List S77) (S : List (List Bool)) (D : List Int) (h1 : l.length ≤ 1048576) (h2 : S.length ≤ 1048576) (h3 : D.length ≤ 1048576) : Ev (fun k => spec_IsPlan.f k l S D) (decide (ask2 l S D = 0) && (allH l S D S.length 0 && runsOk l S)) := by
 unfold spec_IsPlan.f
 refine Ev.bind (specAsk2_ev l S D h1 h2 h3) ?_
 by_cases hz : ask2 l S D = 0
 ·
  simp only [if_pos hz, hz, decide_true, Bool.true_and]
  obtain ⟨a, b, c, d⟩ := ask2_facts hz
  refine Ev.bind (specRuns_ev l S a c) ?_
  cases runsOk l S with
  | false => simp only [Bool.and_false]; exact Ev.now _
  | true =>
   simp only [if_true, Bool.and_true]
   refine Ev.bind (specPCost_ev l S D a c b d) ?_
   cases allH l S D S.length 0 <;> exact Ev.now _
 ·
  simp only [if_neg hz, hz, decide_false, Bool.false_and]
  exact Ev.now _
theorem spec_ev (l : List S77) (S : List (List Bool)) (D : List Int) (g : Int) (h1 : l.length ≤ 1048576) (h2 : S.length ≤ 1048576) (h3 : D.length ≤ 1048576) : Ev (fun k => spec_IsWithin.f k l S D g) (res l S D g) := by
 unfold spec_IsWithin.f res
 simp only [specIn_eq, Option.bind_some]
 have no : Ev (fun k => spec_IsWithin.j0 k l S D g true) false := by
  refine Ev.succ ?_
  simp only [spec_IsWithin.j0, if_true]
  exact Ev.now _
 cases hg : inB 0 1000 g with
 | false =>
  simp only [Bool.false_eq_true, if_false, false_and]
  exact no
 | true =>
  simp only [if_true, true_and]
  refine Ev.bind (specPlan_ev l S D h1 h2 h3) ?_
  by_cases hz : ask2 l S D = 0
  ·
   simp only [hz, decide_true, Bool.true_and, true_and]
   cases hp : (allH l S D S.length 0 && runsOk l S) with
   | false =>
    simp only [Bool.not_false, Bool.false_eq_true, if_false]
    exact no
   | true =>
    simp only [Bool.not_true, if_true]
    obtain ⟨a, b, c, d⟩ := ask2_facts hz
    have ha := (Bool.and_eq_true _ _ ▸ hp : allH l S D S.length 0 = true ∧ runsOk l S = true).1
    have hc := specPCost_ev l S D a c b d
    rw [if_pos ha] at hc
    have tb := totS_bd l S D a b d
    refine Ev.succ ?_
    simp only [spec_IsWithin.j0, Bool.false_eq_true, if_false]
    refine Ev.bind hc (Ev.bind (specDay_ev l D a b) ?_)
    cases hb : db l D (startB l D) with
    | none => exact Ev.now _
    | some v =>
     simp only [if_true]
     have hv := bound_le l S D a b d ha v hb
     have hv0 : 0 ≤ v := db_nonneg l D a b v hb
     unfold spec_l15Gap.f gapV
     by_cases hc0 : totS l S D S.length 0 0 = 0
     ·
      simp only [if_pos hc0, Option.bind_some]
      exact Ev.now _
     ·
      have e := gap_w (totS l S D S.length 0 0) v hv0 hv tb.2 (by omega)
      simp only [if_neg hc0, Option.bind_some, e.1]
      exact Ev.now _
  ·
   simp only [hz, decide_false, Bool.false_and, false_and, if_false, Bool.not_false]
   exact no
theorem implCost2_ev (l : List S77) (S : List (List Bool)) (D : List Int) (h1 : l.length ≤ 1048576) (h2 : S.length ≤ 1048576) (h3 : D.length ≤ 1048576) : Ev (fun k => impl_PlanCost.f k l S D) (if ask2 l S D = 0 then (if (allH l S D S.length 0 && runsOk l S) = true then (totS l S D S.length 0 0, 0) else (0, 6)) else (0, ask2 l S D)) := by
 unfold impl_PlanCost.f
 refine Ev.bind (implPCode_ev l S D h1 h2 h3) ?_
 by_cases hz : ask2 l S D = 0
 ·
  simp only [if_pos hz]
  obtain ⟨a, b, c, d⟩ := ask2_facts hz
  refine Ev.bind (implIsPlan_ev l S D a c b d) ?_
  cases hp : (allH l S D S.length 0 && runsOk l S) with
  | false => exact Ev.now _
  | true =>
   simp only [if_true]
   exact Ev.bind (implPCost_ev l S D a c b d hp) (Ev.now _)
 ·
  simp only [if_neg hz]
  exact Ev.now _
theorem impl_ev (l : List S77) (S : List (List Bool)) (D : List Int) (g : Int) (h1 : l.length ≤ 1048576) (h2 : S.length ≤ 1048576) (h3 : D.length ≤ 1048576) : Ev (fun k => impl_IsWithin.f k l S D g) (res l S D g) := by
 unfold impl_IsWithin.f res
 simp only [impl_within.f, Option.bind_some]
 cases hg : inB 0 1000 g with
 | false =>
  simp only [Bool.false_eq_true, if_false, false_and]
  exact Ev.now _
 | true =>
  simp only [if_true, true_and]
  refine Ev.bind (implCost2_ev l S D h1 h2 h3) (Ev.bind (implDay_ev l D h1 h3) ?_)
  by_cases hz : ask2 l S D = 0
  ·
   simp only [if_pos hz, hz, true_and]
   cases hp : (allH l S D S.length 0 && runsOk l S) with
   | false =>
    simp only [Bool.false_eq_true, if_false, show ¬ ((6 : Int) = 0) by decide]
    exact Ev.now _
   | true =>
    obtain ⟨a, b, c, d⟩ := ask2_facts hz
    have ha := (Bool.and_eq_true _ _ ▸ hp : allH l S D S.length 0 = true ∧ runsOk l S = true).1
    have tb := totS_bd l S D a b d
    have hask : ask l D = 0 := by unfold ask; rw [if_pos a, if_pos b]
    unfold dayR
    simp only [if_true, if_pos hask]
    cases hb : db l D (startB l D) with
    | none =>
     simp only [show ¬ ((3 : Int) = 0) by decide, if_false]
     exact Ev.now _
    | some v =>
     simp only [if_true]
     have hv := bound_le l S D a b d ha v hb
     have hv0 : 0 ≤ v := db_nonneg l D a b v hb
     have hG : Ev (fun k => impl_GapOf.f k (totS l S D S.length 0 0) v) (gapV (totS l S D S.length 0 0) v, 0) := by
      unfold impl_GapOf.f
      simp only [impl_within.f, Option.bind_some, show inB 0 1000000000000000 (totS l S D S.length 0 0) = true by unfold inB; simp; omega, show inB 0 1000000000000000 v = true by unfold inB; simp; omega, if_true, Bool.not_true]
      refine Ev.succ ?_
      unfold gapV
      by_cases hc0 : totS l S D S.length 0 0 = 0
      ·
       simp only [impl_GapOf.j0, Bool.false_eq_true, if_false, if_neg (show ¬ v > totS l S D S.length 0 0 by omega), if_pos hc0]
       exact Ev.now _
      ·
       have e := gap_w (totS l S D S.length 0 0) v hv0 hv tb.2 (by omega)
       simp only [impl_GapOf.j0, Bool.false_eq_true, if_false, if_neg (show ¬ v > totS l S D S.length 0 0 by omega), if_neg hc0, impl_divUp.f, e.2, Option.bind_some]
       exact Ev.now _
     refine Ev.bind hG ?_
     simp only [if_true]
     exact Ev.now _
  ·
   simp only [if_neg hz, hz, false_and, if_false]
   exact Ev.now _
theorem core : ∀ (l0 : List (S77)) (l1 : List (List Bool)) (l2 : List Int) (a3 : Int) (o0 : okUnitS l0) (w1 : l1.length ≤ maxLen ∧ ∀ x0 ∈ l1, x0.length ≤ maxLen) (o1 : okBoolSS l1) (w2 : l2.length ≤ maxLen ∧ ∀ x0 ∈ l2, (Lit.int .i64 x0).wf = true) (o2 : okInt64S l2) (w3 : (Lit.int .i64 a3).wf = true), ∃ (r1 : Bool), Ev (fun k => spec_IsWithin.f k l0 l1 l2 a3) r1 ∧ Ev (fun k => impl_IsWithin.f k l0 l1 l2 a3) r1 := by
 intro l0 l1 l2 a3 o0 w1 o1 w2 o2 w3
 exact ⟨res l0 l1 l2 a3, spec_ev l0 l1 l2 a3 o0.1 o1.1 o2, impl_ev l0 l1 l2 a3 o0.1 o1.1 o2⟩
end Go.Proofs.Ytebkgebibammiaa.Pure
