/- The program's NeededUnits returns what the reference's returns, for all arguments. No condition beyond the statement's own. -/
import Derived.Test.YtebkgebibammiaaPFnExactNeededUnitsx0
import Derived.Test.YtebkgebibammiaaPFnExactNeededUnitsx1
import Derived.Test.YtebkgebibammiaaPFnExactNeededUnitsx2
import Derived.Test.YtebkgebibammiaaPFnExactNeededUnitsx3
import Derived.Test.YtebkgebibammiaaPFnExactNeededUnitsx4
import Derived.Test.YtebkgebibammiaaPFnExactNeededUnitsx5
import Derived.Test.YtebkgebibammiaaPFnExactNeededUnitsx6
import Derived.Test.YtebkgebibammiaaPFnExactNeededUnitsx7
import Derived.Test.YtebkgebibammiaaPFnExactNeededUnitsx8
namespace Go.Proofs.Ytebkgebibammiaa.Pure
open Go.RowKit Go.Proofs.Ytebkgebibammiaa.PFnExactNeededUnits Go.Proofs.YtebkgebibammiaaW.PrintWords Go.Proofs.YtebkgebibammiaaW.PrintLast Go.Proofs.YtebkgebibammiaaW.PrintMore
set_option linter.unusedVariables false
set_option linter.unusedSimpArgs false
def okUnit1 (x : S77) : Prop := x.f0.size ≤ 1048576 ∧ (-9223372036854775808 ≤ x.f1 ∧ x.f1 ≤ 9223372036854775807) ∧ (-9223372036854775808 ≤ x.f2 ∧ x.f2 ≤ 9223372036854775807) ∧ (-9223372036854775808 ≤ x.f3 ∧ x.f3 ≤ 9223372036854775807) ∧ (-9223372036854775808 ≤ x.f4 ∧ x.f4 ≤ 9223372036854775807) ∧ (-9223372036854775808 ≤ x.f5 ∧ x.f5 ≤ 9223372036854775807) ∧ (-9223372036854775808 ≤ x.f6 ∧ x.f6 ≤ 9223372036854775807)
theorem w64 {x : Int} (h0 : -9223372036854775808 ≤ x) (h1 : x ≤ 9223372036854775807) : wrap64 x = x := by unfold wrap64; omega
theorem rd_nat (l : List Int) (i : Nat) : rd l (i : Int) = l.getD i 0 := by unfold rd; rw [Int.toNat_natCast]
theorem getD_mem {α : Type} {l : List α} {i : Nat} (d : α) (h : i < l.length) : l.getD i d ∈ l := by
 rw [List.getD_eq_getElem?_getD, List.getElem?_eq_getElem h]; exact List.getElem_mem _
theorem getD_lt {α : Type} {l : List α} {i : Nat} (d : α) (h : i < l.length) : l.getD i d = l[i] := by
 rw [List.getD_eq_getElem?_getD, List.getElem?_eq_getElem h]; rfl
theorem ev_eq {α : Type} (L : Nat → List α → List α → Int → Option Bool) (xs : List α) 
  (step : ∀ i, i < xs.length → Ev (fun k => L k xs xs ((i + 1 : Nat) : Int)) true → Ev (fun k => L k xs xs (i : Int)) true)
  (fin : Ev (fun k => L k xs xs (xs.length : Int)) true) : Ev (fun k => L k xs xs 0) true := by
 have key : ∀ (m i : Nat), i + m = xs.length → Ev (fun k => L k xs xs (i : Int)) true := by
  intro m
  induction m with
  | zero =>
   intro i hi
   have : i = xs.length := by omega
   subst this
   exact fin
  | succ m ih => intro i hi; exact step i (by omega) (ih (i + 1) (by omega))
 exact key xs.length 0 (by omega)
theorem ev_all {α ρ : Type} (L : Nat → Int → Option ρ) (xs : List α) (d : α) (p : α → Bool) (b c : ρ)
  (step : ∀ i, i < xs.length → p (xs.getD i d) = true → ∀ r, Ev (fun k => L k ((i + 1 : Nat) : Int)) r → Ev (fun k => L k (i : Int)) r)
  (bad : ∀ i, i < xs.length → p (xs.getD i d) = false → Ev (fun k => L k (i : Int)) b)
  (fin : Ev (fun k => L k (xs.length : Int)) c) : Ev (fun k => L k 0) (if xs.all p = true then c else b) := by
 have key : ∀ (m i : Nat), i + m = xs.length → Ev (fun k => L k (i : Int)) (if (xs.drop i).all p = true then c else b) := by
  intro m
  induction m with
  | zero =>
   intro i hi
   have : i = xs.length := by omega
   subst this
   rw [List.drop_length]
   exact fin
  | succ m ih =>
   intro i hi
   have hlt : i < xs.length := by omega
   rw [List.drop_eq_getElem_cons hlt, List.all_cons, ← getD_lt d hlt]
   cases hp : p (xs.getD i d) with
   | true => rw [Bool.true_and]; exact step i hlt hp _ (ih (i + 1) (by omega))
   | false => rw [Bool.false_and, if_neg (by decide)]; exact bad i hlt hp
 exact key xs.length 0 (by omega)
theorem ev_sz {α : Type} (L : Nat → Int → Int → Option Int) (xs : List α) (d : α) (B : α → Prop)
  (step : ∀ i a, i < xs.length → 0 ≤ a → a ≤ 1048576 → Ev (fun k => L k a (i : Int)) (-1) ∨ (∃ a', 0 ≤ a' ∧ a' ≤ a ∧ B (xs.getD i d) ∧ ∀ r, Ev (fun k => L k a' ((i + 1 : Nat) : Int)) r → Ev (fun k => L k a (i : Int)) r))
  (fin : ∀ a, Ev (fun k => L k a (xs.length : Int)) a) : ∀ a, 0 ≤ a → a ≤ 1048576 → ∃ r, Ev (fun k => L k a 0) r ∧ (r < 0 ∨ (0 ≤ r ∧ r ≤ a ∧ ∀ x ∈ xs, B x)) := by
 have key : ∀ (m i : Nat) (a : Int), i + m = xs.length → 0 ≤ a → a ≤ 1048576 → ∃ r, Ev (fun k => L k a (i : Int)) r ∧ (r < 0 ∨ (0 ≤ r ∧ r ≤ a ∧ ∀ j, i ≤ j → j < xs.length → B (xs.getD j d))) := by
  intro m
  induction m with
  | zero =>
   intro i a hi h0 h1
   have : i = xs.length := by omega
   subst this
   exact ⟨a, fin a, .inr ⟨h0, Int.le_refl _, fun j h2 h3 => by omega⟩⟩
  | succ m ih =>
   intro i a hi h0 h1
   rcases step i a (by omega) h0 h1 with h | ⟨a', h2, h3, hB, h⟩
   ·
    exact ⟨-1, h, .inl (by decide)⟩
   ·
    obtain ⟨r, hr, hq⟩ := ih (i + 1) a' (by omega) h2 (by omega)
    refine ⟨r, h r hr, ?_⟩
    rcases hq with hq | ⟨q0, q1, q2⟩
    ·
     exact .inl hq
    ·
     refine .inr ⟨q0, by omega, fun j h4 h5 => ?_⟩
     by_cases e : j = i
     ·
      subst e; exact hB
     ·
      exact q2 j (by omega) h5
 intro a h0 h1
 obtain ⟨r, hr, hq⟩ := key xs.length 0 a (by omega) h0 h1
 refine ⟨r, hr, hq.imp_right fun ⟨q0, q1, q2⟩ => ⟨q0, q1, fun x hx => ?_⟩⟩
 obtain ⟨j, hj, rfl⟩ := List.mem_iff_getElem.1 hx
 rw [← getD_lt d hj]
 exact q2 j (Nat.zero_le _) hj
theorem szUnit_eq (x : S73) (a : Int) (w0 : x.f0.size ≤ maxLen) (h0 : 0 ≤ a) (h1 : a ≤ 1048576) : ∃ r, laws_szUnit.f (x.f0) (x.f1) (x.f2) (x.f3) (x.f4) (x.f5) (x.f6) a = some r ∧ (r < 0 ∨ (0 ≤ r ∧ r ≤ a ∧ x.f0.size ≤ 1048576)) := by
 unfold maxLen at w0
 unfold laws_szUnit.f wrap64
 repeat' split
 all_goals exact ⟨_, rfl, by omega⟩
def okUnitS (l : List S77) : Prop := l.length ≤ 1048576 ∧ ∀ x ∈ l, okUnit1 x
theorem Ev.succ {α : Type} {g : Nat → Option α} {r : α} (h : Ev (fun k => g (k + 1)) r) : Ev g r := Ev.step (fun _ => rfl) h
theorem lit_i64 {x : Int} (h : (Lit.int .i64 x).wf = true) : -9223372036854775808 ≤ x ∧ x ≤ 9223372036854775807 := by
 have h2 : (decide (IntKind.i64.min ≤ x) && decide (x ≤ IntKind.i64.max)) = true := h
 simp only [Bool.and_eq_true, decide_eq_true_eq] at h2
 exact h2
def cvUnit (x : S73) : S77 := ⟨x.f0, x.f1, x.f2, x.f3, x.f4, x.f5, x.f6⟩
def cvUnitS (l : List S73) : List S77 := l.map cvUnit
theorem szUnitS_evo (l : List S73) (a : Int) (hw : l.length ≤ maxLen ∧ ∀ x0 ∈ l, x0.f0.size ≤ maxLen ∧ (Lit.int .i64 x0.f1).wf = true ∧ (Lit.int .i64 x0.f2).wf = true ∧ (Lit.int .i64 x0.f3).wf = true ∧ (Lit.int .i64 x0.f4).wf = true ∧ (Lit.int .i64 x0.f5).wf = true ∧ (Lit.int .i64 x0.f6).wf = true) (h0 : 0 ≤ a) (h1 : a ≤ 1048576) :
  ∃ r, Ev (fun k => laws_szUnitS.f k l a) r ∧ (r < 0 ∨ (0 ≤ r ∧ r ≤ a ∧ okUnitS (cvUnitS l))) := by
 obtain ⟨hl, hw⟩ := hw
 unfold maxLen at hl
 unfold laws_szUnitS.f
 rw [w64 (by omega) (by omega)]
 by_cases h : a - l.length < 0
 ·
  simp only [h, if_true]
  exact ⟨-1, Ev.now _, .inl (by decide)⟩
 ·
  simp only [h, if_false]
  obtain ⟨r, hr, hq⟩ := ev_sz (fun k a i => laws_szUnitS.l0 k l a i) l z73 (fun x => x.f0.size ≤ 1048576) (fun i a hi h0 h1 => by
   have hx := hw _ (getD_mem z73 hi)
   obtain ⟨r, hr, hq⟩ := szUnit_eq (l.getD i z73) a (hx.1) h0 h1
   have e : ∀ k, laws_szUnitS.l0 (k + 1) l a i = if r < 0 then some (-1) else laws_szUnitS.l0 k l r ((i + 1 : Nat) : Int) := fun k => by
    simp only [laws_szUnitS.l0]
    rw [if_pos (by omega), if_pos (by omega)]
    unfold rd_T73
    rw [Int.toNat_natCast, hr]
    simp only [Option.bind_some]
    rw [w64 (by omega) (by omega)]
    rfl
   rcases hq with hq | ⟨q0, q1, q2⟩
   ·
    exact .inl (Ev.step (f := fun _ => some (-1)) (fun k => by rw [e, if_pos hq]) (Ev.now _))
   ·
    exact .inr ⟨r, q0, q1, q2, fun s hs => Ev.step (fun k => by rw [e, if_neg (by omega)]) hs⟩) (fun a => Ev.step (f := fun _ => some a) (fun k => by simp only [laws_szUnitS.l0]; rw [if_neg (by omega)]) (Ev.now _)) (a - l.length) (by omega) (by omega)
  refine ⟨r, hr, hq.imp_right fun ⟨q0, q1, q2⟩ => ⟨q0, by omega, by simp only [cvUnitS, List.length_map]; omega, fun x hx => ?_⟩⟩
  obtain ⟨y, hy, rfl⟩ := List.mem_map.1 hx
  have hs := q2 y hy
  have hw := hw y hy
  exact ⟨hs, lit_i64 (hw.2.1), lit_i64 (hw.2.2.1), lit_i64 (hw.2.2.2.1), lit_i64 (hw.2.2.2.2.1), lit_i64 (hw.2.2.2.2.2.1), lit_i64 (hw.2.2.2.2.2.2)⟩
theorem toUnit_eq (x : S73) : laws_toUnit.f (x.f0) (x.f1) (x.f2) (x.f3) (x.f4) (x.f5) (x.f6) = some (x.f0, x.f1, x.f2, x.f3, x.f4, x.f5, x.f6) := by
 unfold laws_toUnit.f
 rfl
theorem ev_fill {β ρ : Type} (L : Nat → List β → Int → Option ρ) (base : List β) (d : β) (f : Nat → β) (r : ρ)
  (step : ∀ i acc, i < base.length → acc.length = base.length → acc.getD i d = base.getD i d → Ev (fun k => L k (acc.set i (f i)) ((i + 1 : Nat) : Int)) r → Ev (fun k => L k acc (i : Int)) r)
  (fin : Ev (fun k => L k ((List.range base.length).map f) (base.length : Int)) r) : Ev (fun k => L k base 0) r := by
 have key : ∀ (m i : Nat), i + m = base.length → Ev (fun k => L k ((List.range i).map f ++ base.drop i) (i : Int)) r := by
  intro m
  induction m with
  | zero =>
   intro i hi
   have : i = base.length := by omega
   subst this
   rw [List.drop_length, List.append_nil]
   exact fin
  | succ m ih =>
   intro i hi
   have hlt : i < base.length := by omega
   refine step i _ hlt (by simp; omega) ?_ ?_
   ·
    rw [List.getD_eq_getElem?_getD, List.getD_eq_getElem?_getD, List.getElem?_append_right (by simp)]
    simp
   ·
    have := ih (i + 1) (by omega)
    rw [List.range_succ, List.map_append, List.append_assoc] at this
    have e : ((List.range i).map f ++ base.drop i).set i (f i) = (List.range i).map f ++ ([i].map f ++ base.drop (i + 1)) := by
     rw [List.set_append_right _ _ (by simp), List.drop_eq_getElem_cons hlt, List.length_map, List.length_range, Nat.sub_self, List.set_cons_zero]
     rfl
    rw [e]
    exact this
 exact key base.length 0 (by omega)
theorem ev_cmap {α β : Type} (L : Nat → List β → Int → Option (List β)) (xs : List α) (d : α) (d' : β) (g : α → β)
  (step : ∀ (ys : List β) (i : Nat), i < xs.length → ys.length = xs.length → ∀ r, Ev (fun k => L k (ys.set i (g (xs.getD i d))) ((i + 1 : Nat) : Int)) r → Ev (fun k => L k ys (i : Int)) r)
  (fin : ∀ ys, Ev (fun k => L k ys (xs.length : Int)) ys) : Ev (fun k => L k (List.replicate xs.length d') 0) (xs.map g) := by
 have e : xs.map g = (List.range xs.length).map (fun i => g (xs.getD i d)) := by
  refine List.ext_getElem (by simp) fun i h1 h2 => ?_
  rw [List.getElem_map, List.getElem_map, List.getElem_range, getD_lt d (by simpa using h1)]
 have key := ev_fill L (List.replicate xs.length d') d' (fun i => g (xs.getD i d)) (xs.map g) (fun i acc hi hl _ hs => ?_) ?_
 ·
  exact key
 ·
  rw [List.length_replicate] at hi hl
  exact step acc i hi hl _ hs
 ·
  rw [List.length_replicate, ← e]
  exact fin _
theorem toUnitS_evo (l : List S73) (h : okUnitS (cvUnitS l)) : Ev (fun k => laws_toUnitS.f k l) (cvUnitS l) := by
 have hl : l.length ≤ 1048576 := by have := h.1; simpa [cvUnitS] using this
 refine Ev.congr (f := fun k => laws_toUnitS.l0 k l (List.replicate l.length z77) 0) (fun k => ?_) ?_
 ·
  unfold laws_toUnitS.f
  rw [if_pos (by omega), if_pos (by omega), Int.toNat_natCast]
 ·
  refine ev_cmap (fun k ys i => laws_toUnitS.l0 k l ys i) l z73 z77 cvUnit (fun ys i hi hl r hr => ?_) (fun ys => ?_)
  ·
   refine Ev.step (fun k => ?_) hr
   simp only [laws_toUnitS.l0]
   rw [if_pos (by omega), if_pos (by omega), toUnit_eq]
   simp only [Option.bind_some]
   rw [if_pos (by omega), w64 (by omega) (by omega), Int.toNat_natCast]
   unfold rd_T73
   rw [Int.toNat_natCast]
   rfl
  ·
   refine Ev.step (f := fun _ => some ys) (fun k => ?_) (Ev.now _)
   simp only [laws_toUnitS.l0]
   rw [if_neg (by omega)]
theorem eqUnit_eq (x : S77) : laws_eqUnit.f (x.f0) (x.f1) (x.f2) (x.f3) (x.f4) (x.f5) (x.f6) (x.f0) (x.f1) (x.f2) (x.f3) (x.f4) (x.f5) (x.f6) = some true := by
 unfold laws_eqUnit.f
 simp
theorem eqUnitS_evo (l : List S77) (h : okUnitS l) : Ev (fun k => laws_eqUnitS.f k l l) true := by
 have h := h.1
 refine Ev.congr (f := fun k => laws_eqUnitS.l0 k l l 0) (fun k => ?_) ?_
 ·
  unfold laws_eqUnitS.f
  rw [if_pos rfl]
 ·
  refine ev_eq laws_eqUnitS.l0 l (fun i hi hr => ?_) ?_
  ·
   refine Ev.step (fun k => ?_) hr
   simp only [laws_eqUnitS.l0]
   rw [if_pos (by omega), if_pos (by omega), if_pos (by omega), eqUnit_eq]
   simp only [Option.bind_some, if_true]
   rw [w64 (by omega) (by omega)]
   rfl
  ·
   refine Ev.step (f := fun _ => some true) (fun k => ?_) (Ev.now _)
   simp only [laws_eqUnitS.l0]
   rw [if_neg (by omega)]
def smallC (c : Int) : Bool := decide (97 ≤ c) && decide (c ≤ 122)
def digitC (c : Int) : Bool := decide (48 ≤ c) && decide (c ≤ 57)
def nameC (c : Int) : Bool := smallC c || digitC c
def nameOk (b : ByteArray) : Bool := decide (1 ≤ b.size) && (decide (b.size ≤ 10) && (smallC (bt b 0) && (List.range b.size).all fun i => nameC (bt b i)))
def zU : S77 := z77
def rdU (l : List S77) (i : Nat) : S77 := l.getD i zU
theorem rdU_eq (l : List S77) (i : Nat) : rd_T77 l (i : Int) = rdU l i := by
 unfold rd_T77 rdU zU
 rw [Int.toNat_natCast]
def unitOk (x : S77) : Bool := nameOk x.f0 && unitR x
def okU (l : List S77) (i : Nat) : Bool := unitOk (rdU l i) && (i == 0 || Op.bytesLess (rdU l (i - 1)).f0.toList (rdU l i).f0.toList)
def unitsOk (l : List S77) : Bool := inB 1 4 (l.length : Int) && (List.range l.length).all (okU l)
theorem unitsOk_facts {l : List S77} (h : unitsOk l = true) : (1 ≤ l.length ∧ l.length ≤ 4) ∧ ∀ i, i < l.length → unitR (rdU l i) = true := by
 unfold unitsOk inB at h
 simp only [Bool.and_eq_true, decide_eq_true_eq, List.all_eq_true] at h
 refine ⟨by omega, fun i hi => ?_⟩
 have h2 := h.2 i (by simpa using hi)
 unfold okU unitOk at h2
 simp only [Bool.and_eq_true] at h2
 exact h2.1.2
theorem unitR_facts {x : S77} (h : unitR x = true) : (0 ≤ x.f1 ∧ x.f1 ≤ 100000) ∧ (x.f1 ≤ x.f2 ∧ 1 ≤ x.f2 ∧ x.f2 ≤ 100000) ∧ (0 ≤ x.f3 ∧ x.f3 ≤ 100000) ∧ (0 ≤ x.f4 ∧ x.f4 ≤ 100000000) ∧ (1 ≤ x.f5 ∧ x.f5 ≤ 3) ∧ (1 ≤ x.f6 ∧ x.f6 ≤ 3) := by
 unfold unitR inU mxU at h
 simp only [Bool.and_eq_true, decide_eq_true_eq] at h
 obtain ⟨h1, h2, h3, h4, h5, h6⟩ := h
 refine ⟨h1, ?_, h3, h4, h5, h6⟩
 split at h2 <;> omega
theorem getD_range {n i : Nat} (h : i < n) : (List.range n).getD i 0 = i := by
 rw [getD_lt 0 (by simpa using h), List.getElem_range]
theorem specSmall_eq (c : Int) : spec_l01Small.f c = some (smallC c) := by
 unfold spec_l01Small.f smallC
 by_cases h : c ≥ 97
 ·
  rw [if_pos h, decide_eq_true (show 97 ≤ c from h)]; rfl
 ·
  rw [if_neg h, decide_eq_false (show ¬ 97 ≤ c from h)]; rfl
theorem specDigit_eq (c : Int) : spec_l01Digit.f c = some (digitC c) := by
 unfold spec_l01Digit.f digitC
 by_cases h : c ≥ 48
 ·
  rw [if_pos h, decide_eq_true (show 48 ≤ c from h)]; rfl
 ·
  rw [if_neg h, decide_eq_false (show ¬ 48 ≤ c from h)]; rfl
theorem specName_ev (b : ByteArray) : Ev (fun k => spec_l01Name.f k b) (nameOk b) := by
 unfold spec_l01Name.f nameOk
 have hz : b.toList = ([] : List UInt8) ↔ b.size = 0 := by
  rw [ByteArray.toList_eq, show b.size = b.data.toList.length from rfl]
  exact List.length_eq_zero_iff.symm
 by_cases h1 : b.size < 1
 ·
  rw [decide_eq_false (by omega), Bool.false_and]
  simp only [show b.toList = ([] : List UInt8) from hz.2 (by omega), if_true]
  exact Ev.step (f := fun _ => some false) (fun k => by simp [spec_l01Name.j0]) (Ev.now _)
 ·
  rw [decide_eq_true (show 1 ≤ b.size by omega), Bool.true_and]
  simp only [show ¬ b.toList = ([] : List UInt8) from fun e => by have := hz.1 e; omega, if_false]
  by_cases h10 : b.size > 10
  ·
   rw [decide_eq_false (show ¬ b.size ≤ 10 by omega), Bool.false_and]
   simp only [show (b.size : Int) > 10 by omega, if_true]
   exact Ev.step (f := fun _ => some false) (fun k => by simp [spec_l01Name.j0]) (Ev.now _)
  ·
   rw [decide_eq_true (show b.size ≤ 10 by omega), Bool.true_and]
   simp only [show ¬ (b.size : Int) > 10 by omega, if_false, show 0 < (b.size : Int) by omega, if_true, specSmall_eq, Option.bind_some]
   cases hs : smallC (bt b 0) with
   | false =>
    rw [Bool.false_and]
    exact Ev.step (f := fun _ => some false) (fun k => by simp [spec_l01Name.j0]) (Ev.now _)
   | true =>
    rw [Bool.true_and]
    refine Ev.step (f := fun k => spec_l01Name.l0 k b 0) (fun k => by simp [spec_l01Name.j0]) ?_
    have key := ev_all (fun k i => spec_l01Name.l0 k b i) (List.range b.size) 0 (fun i => nameC (bt b i)) false true (fun i hi hp s hs2 => ?_) (fun i hi hp => ?_) ?_
    ·
     revert key
     cases (List.range b.size).all fun i => nameC (bt b i) <;> exact id
    ·
     rw [List.length_range] at hi
     rw [getD_lt 0 (by simpa using hi), List.getElem_range] at hp
     refine Ev.step (fun k => ?_) hs2
     simp only [spec_l01Name.l0]
     rw [if_pos (by omega), if_pos (by omega), specSmall_eq, specDigit_eq]
     simp only [Option.bind_some]
     unfold nameC at hp
     cases h3 : smallC (bt b i) with
     | true => rw [if_pos rfl, w64 (by omega) (by omega)]; rfl
     | false =>
      rw [h3, Bool.false_or] at hp
      rw [hp, if_neg (by decide), if_pos rfl, w64 (by omega) (by omega)]
      rfl
    ·
     rw [List.length_range] at hi
     rw [getD_lt 0 (by simpa using hi), List.getElem_range] at hp
     refine Ev.step (f := fun _ => some false) (fun k => ?_) (Ev.now _)
     simp only [spec_l01Name.l0]
     unfold nameC at hp
     rw [Bool.or_eq_false_iff] at hp
     rw [if_pos (by omega), if_pos (by omega), specSmall_eq, specDigit_eq, hp.1, hp.2]
     rfl
    ·
     refine Ev.step (f := fun _ => some true) (fun k => ?_) (Ev.now _)
     simp only [spec_l01Name.l0]
     rw [List.length_range, if_neg (by omega)]
theorem specIn_eq (a lo hi : Int) : spec_l00In.f a lo hi = some (inB lo hi a) := by
 unfold spec_l00In.f inB
 by_cases h : a ≥ lo
 ·
  rw [if_pos h, decide_eq_true (show lo ≤ a from h)]; rfl
 ·
  rw [if_neg h, decide_eq_false (show ¬ lo ≤ a from h)]; rfl
theorem specUnit_ev (x : S77) : Ev (fun k => spec_l13One.f k [x]) (unitOk x) := by
 unfold spec_l13One.f unitOk
 simp only [List.length_singleton, show 0 < 1 by decide, if_true]
 exact Ev.bind (specName_ev x.f0) (Ev.now _)
theorem specUnits_ev (l : List S77) (hl : l.length ≤ 4611686018427387904) : Ev (fun k => spec_l13Ok.f k l) (unitsOk l) := by
 unfold spec_l13Ok.f
 have key := ev_all (fun k i => spec_l13Ok.l0 k l i) (List.range l.length) 0 (okU l) false (inB 1 4 (l.length : Int)) (fun i hi hp r hr => ?_) (fun i hi hp => ?_) ?_
 ·
  revert key
  unfold unitsOk
  cases (List.range l.length).all (okU l) with
  | true => rw [Bool.and_true]; exact id
  | false => rw [Bool.and_false]; exact id
 ·
  rw [List.length_range] at hi
  rw [getD_range hi] at hp
  refine Ev.succ ?_
  simp only [spec_l13Ok.l0, if_pos (show (i : Int) < (l.length : Int) by omega), if_pos (show (0 : Int) ≤ i by omega), rdU_eq]
  refine Ev.bind (specUnit_ev (rdU l i)) ?_
  unfold okU at hp
  rw [Bool.and_eq_true] at hp
  rw [hp.1]
  simp only [if_true, w64 (x := (i : Int) + 1) (by omega) (by omega)]
  by_cases h0 : i = 0
  ·
   subst h0
   simp only [if_neg (show ¬ ((0 : Nat) : Int) > 0 by decide)]
   exact hr
  ·
   have e : wrap64 ((i : Int) - 1) = ((i - 1 : Nat) : Int) := by
    rw [w64 (by omega) (by omega)]
    omega
   have e0 : (i == 0) = false := by simpa using h0
   have hb := hp.2
   rw [e0, Bool.false_or] at hb
   simp only [if_pos (show (i : Int) > 0 by omega), e, if_pos (show (0 : Int) ≤ ((i - 1 : Nat) : Int) by omega), if_pos (show ((i - 1 : Nat) : Int) < (l.length : Int) by omega), rdU_eq, hb, if_true]
   exact hr
 ·
  rw [List.length_range] at hi
  rw [getD_range hi] at hp
  refine Ev.succ ?_
  simp only [spec_l13Ok.l0, if_pos (show (i : Int) < (l.length : Int) by omega), if_pos (show (0 : Int) ≤ i by omega), rdU_eq]
  refine Ev.bind (specUnit_ev (rdU l i)) ?_
  unfold okU at hp
  cases hu : unitOk (rdU l i) with
  | false => exact Ev.now _
  | true =>
   rw [hu, Bool.true_and] at hp
   by_cases h0 : i = 0
   ·
    subst h0
    simp at hp
   ·
    have e : wrap64 ((i : Int) - 1) = ((i - 1 : Nat) : Int) := by
     rw [w64 (by omega) (by omega)]
     omega
    have e0 : (i == 0) = false := by simpa using h0
    rw [e0, Bool.false_or] at hp
    simp only [if_true, if_pos (show (i : Int) > 0 by omega), e, if_pos (show (0 : Int) ≤ ((i - 1 : Nat) : Int) by omega), if_pos (show ((i - 1 : Nat) : Int) < (l.length : Int) by omega), rdU_eq, hp, Bool.false_eq_true, if_false]
    exact Ev.now _
 ·
  rw [List.length_range]
  refine Ev.succ ?_
  simp only [spec_l13Ok.l0, if_neg (show ¬ (l.length : Int) < (l.length : Int) by omega), specIn_eq, Option.bind_some]
  exact Ev.now _
theorem implBytes_ev (b : ByteArray) (hb : b.size ≤ 10) : Ev (fun k => impl_onlyNameBytes.f k b) ((List.range b.size).all fun i => nameC (bt b i)) := by
 unfold impl_onlyNameBytes.f
 have key := ev_all (fun k i => impl_onlyNameBytes.l0 k b b.size i) (List.range b.size) 0 (fun i => nameC (bt b i)) false true (fun i hi hp s hs2 => ?_) (fun i hi hp => ?_) ?_
 ·
  revert key
  cases (List.range b.size).all fun i => nameC (bt b i) <;> exact id
 ·
  rw [List.length_range] at hi
  rw [getD_lt 0 (by simpa using hi), List.getElem_range] at hp
  refine Ev.step (fun k => ?_) hs2
  simp only [impl_onlyNameBytes.l0]
  rw [if_pos (by omega), if_pos (by omega), if_pos (by omega), w64 (by omega) (by omega)]
  simp only [nameC, smallC, digitC, Bool.or_eq_true, Bool.and_eq_true, decide_eq_true_eq] at hp
  split
  ·
   rw [if_neg (by omega), if_neg (by omega)]; rfl
  ·
   split
   ·
    omega
   ·
    rfl
 ·
  rw [List.length_range] at hi
  rw [getD_lt 0 (by simpa using hi), List.getElem_range] at hp
  refine Ev.step (f := fun _ => some false) (fun k => ?_) (Ev.now _)
  simp only [impl_onlyNameBytes.l0]
  rw [if_pos (by omega), if_pos (by omega), if_pos (by omega)]
  simp only [nameC, smallC, digitC, Bool.or_eq_false_iff, Bool.and_eq_false_iff, decide_eq_false_iff_not] at hp
  split
  ·
   split
   ·
    rfl
   ·
    rw [if_pos (by omega)]
  ·
   split
   ·
    rw [if_neg (by omega), if_pos (by omega)]
   ·
    omega
 ·
  refine Ev.step (f := fun _ => some true) (fun k => ?_) (Ev.now _)
  simp only [impl_onlyNameBytes.l0]
  rw [List.length_range, if_neg (by omega)]
theorem implName_ev (b : ByteArray) : Ev (fun k => impl_IsName.f k b) (nameOk b) := by
 unfold impl_IsName.f nameOk
 by_cases h1 : b.size < 1
 ·
  rw [decide_eq_false (by omega), Bool.false_and]
  simp only [show (b.size : Int) < 1 by omega, if_true]
  exact Ev.now _
 ·
  rw [decide_eq_true (show 1 ≤ b.size by omega), Bool.true_and]
  simp only [show ¬ (b.size : Int) < 1 by omega, if_false]
  by_cases h10 : b.size > 10
  ·
   rw [decide_eq_false (show ¬ b.size ≤ 10 by omega), Bool.false_and]
   simp only [show (b.size : Int) > 10 by omega, if_true]
   exact Ev.now _
  ·
   rw [decide_eq_true (show b.size ≤ 10 by omega), Bool.true_and]
   simp only [show ¬ (b.size : Int) > 10 by omega, if_false, show 0 < (b.size : Int) by omega, if_true]
   unfold smallC
   by_cases g1 : bt b 0 < 97
   ·
    simp only [g1, if_true, decide_eq_false (show ¬ 97 ≤ bt b 0 by omega), Bool.false_and]
    exact Ev.now _
   ·
    simp only [g1, if_false, decide_eq_true (show 97 ≤ bt b 0 by omega), Bool.true_and]
    by_cases g2 : bt b 0 > 122
    ·
     simp only [g2, if_true, decide_eq_false (show ¬ bt b 0 ≤ 122 by omega), Bool.false_and]
     exact Ev.now _
    ·
     simp only [g2, if_false, decide_eq_true (show bt b 0 ≤ 122 by omega), Bool.true_and]
     refine Ev.bind (implBytes_ev b (by omega)) ?_
     exact Ev.now _
theorem mx_eq (v : Int) : mx v 1 = mxU 1 v := by
 unfold mx mxU
 by_cases h : v < 1
 ·
  rw [if_pos h]
 ·
  rw [if_neg h]
theorem implUnit_ev (x : S77) : Ev (fun k => impl_Unit_valid.f k x.f0 x.f1 x.f2 x.f3 x.f4 x.f5 x.f6) (unitOk x) := by
 unfold impl_Unit_valid.f unitOk unitR
 refine Ev.bind (implName_ev x.f0) ?_
 simp only [impl_within.f, Option.bind_some, mx_eq]
 show Ev (fun _ => if nameOk x.f0 = true then (if inU 0 100000 x.f1 = true then (if inU (mxU 1 x.f1) 100000 x.f2 = true then (if inU 0 100000 x.f3 = true then (if inU 0 100000000 x.f4 = true then (if inU 1 3 x.f5 = true then some (inU 1 3 x.f6) else some false) else some false) else some false) else some false) else some false) else some false) _
 cases nameOk x.f0 <;> cases inU 0 100000 x.f1 <;> cases inU (mxU 1 x.f1) 100000 x.f2 <;> cases inU 0 100000 x.f3 <;> cases inU 0 100000000 x.f4 <;> cases inU 1 3 x.f5 <;> cases inU 1 3 x.f6 <;> exact Ev.now _
theorem implUnits_ev (l : List S77) (hl : l.length ≤ 4611686018427387904) : Ev (fun k => impl_ValidUnits.f k l) (unitsOk l) := by
 unfold impl_ValidUnits.f
 have jt : Ev (fun k => impl_ValidUnits.j0 k l true) false := Ev.step (f := fun _ => some false) (fun k => by simp [impl_ValidUnits.j0]) (Ev.now _)
 by_cases h1 : l.length < 1
 ·
  simp only [if_pos (show (l.length : Int) < 1 by omega)]
  have : unitsOk l = false := by
   unfold unitsOk inB
   rw [decide_eq_false (by omega), Bool.false_and, Bool.false_and]
  rw [this]
  exact jt
 ·
  simp only [if_neg (show ¬ (l.length : Int) < 1 by omega)]
  by_cases h4 : l.length > 4
  ·
   rw [decide_eq_true (show (l.length : Int) > 4 by omega)]
   have : unitsOk l = false := by
    unfold unitsOk inB
    rw [decide_eq_false (show ¬ (l.length : Int) ≤ 4 by omega), Bool.and_false, Bool.false_and]
   rw [this]
   exact jt
  ·
   rw [decide_eq_false (show ¬ (l.length : Int) > 4 by omega)]
   have : unitsOk l = (List.range l.length).all (okU l) := by
    unfold unitsOk inB
    rw [decide_eq_true (show (1 : Int) ≤ (l.length : Int) by omega), decide_eq_true (show (l.length : Int) ≤ 4 by omega), Bool.true_and, Bool.true_and]
   rw [this]
   refine Ev.succ ?_
   simp only [impl_ValidUnits.j0, Bool.false_eq_true, if_false]
   have key := ev_all (fun k i => impl_ValidUnits.l0 k l l (l.length : Int) i) (List.range l.length) 0 (okU l) false true (fun i hi hp r hr => ?_) (fun i hi hp => ?_) ?_
   ·
    revert key
    cases (List.range l.length).all (okU l) <;> exact id
   ·
    rw [List.length_range] at hi
    rw [getD_range hi] at hp
    refine Ev.succ ?_
    simp only [impl_ValidUnits.l0, if_pos (show (i : Int) < (l.length : Int) by omega), if_pos (show (0 : Int) ≤ i by omega), rdU_eq]
    refine Ev.bind (implUnit_ev (rdU l i)) ?_
    unfold okU at hp
    rw [Bool.and_eq_true] at hp
    rw [hp.1]
    simp only [if_true, w64 (x := (i : Int) + 1) (by omega) (by omega)]
    by_cases h0 : i = 0
    ·
     subst h0
     simp only [if_neg (show ¬ ((0 : Nat) : Int) > 0 by decide)]
     exact hr
    ·
     have e : wrap64 ((i : Int) - 1) = ((i - 1 : Nat) : Int) := by
      rw [w64 (by omega) (by omega)]
      omega
     have e0 : (i == 0) = false := by simpa using h0
     have hb := hp.2
     rw [e0, Bool.false_or] at hb
     simp only [if_pos (show (i : Int) > 0 by omega), e, if_pos (show (0 : Int) ≤ ((i - 1 : Nat) : Int) by omega), if_pos (show ((i - 1 : Nat) : Int) < (l.length : Int) by omega), rdU_eq, hb, if_true]
     exact hr
   ·
    rw [List.length_range] at hi
    rw [getD_range hi] at hp
    refine Ev.succ ?_
    simp only [impl_ValidUnits.l0, if_pos (show (i : Int) < (l.length : Int) by omega), if_pos (show (0 : Int) ≤ i by omega), rdU_eq]
    refine Ev.bind (implUnit_ev (rdU l i)) ?_
    unfold okU at hp
    cases hu : unitOk (rdU l i) with
    | false => exact Ev.now _
    | true =>
     rw [hu, Bool.true_and] at hp
     by_cases h0 : i = 0
     ·
      subst h0
      simp at hp
     ·
      have e : wrap64 ((i : Int) - 1) = ((i - 1 : Nat) : Int) := by
       rw [w64 (by omega) (by omega)]
       omega
      have e0 : (i == 0) = false := by simpa using h0
      rw [e0, Bool.false_or] at hp
      simp only [if_true, if_pos (show (i : Int) > 0 by omega), e, if_pos (show (0 : Int) ≤ ((i - 1 : Nat) : Int) by omega), if_pos (show ((i - 1 : Nat) : Int) < (l.length : Int) by omega), rdU_eq, hp, Bool.false_eq_true, if_false]
      exact Ev.now _
   ·
    rw [List.length_range]
    refine Ev.succ ?_
    simp only [impl_ValidUnits.l0, if_neg (show ¬ (l.length : Int) < (l.length : Int) by omega)]
    exact Ev.now _
def goN : List Int → Int → Int → Int × Int
 | [], d, c => if d > 0 then (0, 3) else (c, 0)
 | x :: t, d, c => if d > 0 then goN t (d - x) (c + 1) else (c, 0)
theorem lst_succ (has : Nat → Bool) (hi : Nat) : lst has (hi + 1) = if has 0 = true then (0, true) else (if (lst (fun n => has (n + 1)) hi).2 = true then ((lst (fun n => has (n + 1)) hi).1 + 1, true) else (0, false)) := by
 unfold lst
 rw [List.range_succ_eq_map, List.find?_cons]
 cases h0 : has 0 with
 | true => rfl
 | false =>
  rw [List.find?_map]
  have e : (has ∘ Nat.succ) = fun n => has (n + 1) := rfl
  rw [e]
  cases (List.range (hi + 1)).find? (fun n => has (n + 1)) with
  | none => rfl
  | some n => rfl
theorem go_lst : ∀ (L : List Int) (d c : Int), goN L d c = if (lst (fun n => decide ((L.take n).sum ≥ d)) L.length).2 = true then (c + (lst (fun n => decide ((L.take n).sum ≥ d)) L.length).1, 0) else (0, 3)
 | [], d, c => by
  unfold goN lst
  by_cases hd : d > 0
  ·
   simp [hd, Int.not_le.2 hd]
  ·
   simp [hd, Int.not_lt.1 hd]
 | x :: t, d, c => by
  rw [List.length_cons, lst_succ, goN]
  by_cases hd : d > 0
  ·
   have e0 : decide (((x :: t).take 0).sum ≥ d) = false := by simp; omega
   have e1 : (fun n => decide (((x :: t).take (n + 1)).sum ≥ d)) = fun n => decide ((t.take n).sum ≥ d - x) := by
    funext n
    rw [List.take_succ_cons, List.sum_cons]
    exact decide_eq_decide.2 (by omega)
   rw [if_pos hd, e0, e1, go_lst t (d - x) (c + 1)]
   simp only [Bool.false_eq_true, if_false]
   cases (lst (fun n => decide ((t.take n).sum ≥ d - x)) t.length).2 with
   | true =>
    simp only [if_true]
    congr 1
    omega
   | false => rfl
  ·
   have e0 : decide (((x :: t).take 0).sum ≥ d) = true := by simp; omega
   rw [if_neg hd, e0]
   simp
def unu : List Int → List Bool → List Int
 | v :: vs, u :: us => if u = true then unu vs us else v :: unu vs us
 | _, _ => []
theorem unu_mem : ∀ (vs : List Int) (us : List Bool), us.length = vs.length → ∀ v, v ∈ unu vs us ↔ ∃ j, j < vs.length ∧ us.getD j false = false ∧ vs.getD j 0 = v
 | [], us, h, v => by simp [unu]
 | x :: vs, [], h, v => by simp at h
 | x :: vs, u :: us, h, v => by
  have ih := unu_mem vs us (by simpa using h) v
  unfold unu
  constructor
  ·
   intro hv
   split at hv
   ·
    obtain ⟨j, a, b, c⟩ := ih.1 hv
    exact ⟨j + 1, by simpa using a, by simpa using b, by simpa using c⟩
   ·
    rename_i hu
    rcases List.mem_cons.1 hv with rfl | hv
    ·
     exact ⟨0, by simp, by simpa using hu, rfl⟩
    ·
     obtain ⟨j, a, b, c⟩ := ih.1 hv
     exact ⟨j + 1, by simpa using a, by simpa using b, by simpa using c⟩
  ·
   rintro ⟨j, a, b, c⟩
   cases j with
   | zero =>
    have hu : ¬ u = true := by simpa using b
    rw [if_neg hu]
    have hx : x = v := by simpa using c
    rw [hx]
    exact List.mem_cons_self
   | succ j =>
    have := ih.2 ⟨j, by simpa using a, by simpa using b, by simpa using c⟩
    split
    ·
     exact this
    ·
     exact List.mem_cons_of_mem _ this
theorem unu_set : ∀ (vs : List Int) (us : List Bool) (b : Nat), us.length = vs.length → b < vs.length → us.getD b false = false → List.Perm (unu vs us) (vs.getD b 0 :: unu vs (us.set b true))
 | [], us, b, h, hb, _ => by simp at hb
 | x :: vs, [], b, h, _, _ => by simp at h
 | x :: vs, u :: us, 0, h, hb, hu => by
  have hu2 : u = false := by simpa using hu
  subst hu2
  simp [unu]
 | x :: vs, u :: us, b + 1, h, hb, hu => by
  have ih := unu_set vs us b (by simpa using h) (by simpa using hb) (by simpa using hu)
  rw [List.set_cons_succ, unu, unu, List.getD_cons_succ]
  split
  ·
   exact ih
  ·
   exact (ih.cons x).trans (List.Perm.swap _ _ _)
def vals (l : List S77) : List Int := l.map fun x => x.f2
theorem vals_getD (l : List S77) (i : Nat) (h : i < l.length) : (vals l).getD i 0 = (rdU l i).f2 := by
 unfold vals rdU
 rw [getD_lt 0 (by simpa using h), getD_lt _ h, List.getElem_map]
theorem rdOfB (on : List Bool) (i : Nat) : rdOf false on (i : Int) = on.getD i false := by
 unfold rdOf
 rw [Int.toNat_natCast]
def Best (l : List S77) (us : List Bool) (i : Nat) (b : Int) : Prop :=
 (b = -1 ∧ ∀ j, j < i → us.getD j false = true) ∨ (∃ n : Nat, b = (n : Int) ∧ n < i ∧ us.getD n false = false ∧ ∀ j, j < i → us.getD j false = false → (rdU l j).f2 ≤ (rdU l n).f2)
theorem inner_ev (l : List S77) (us : List Bool) (d c : Int) (hn : l.length ≤ 4) (hl : us.length = l.length) : ∀ (m i : Nat) (b : Int), i + m = l.length → Best l us i b → ∃ b2, Best l us l.length b2 ∧ ∀ r, Ev (fun k => spec_NeededUnits.l1 k l d us c b2 (l.length : Int)) r → Ev (fun k => spec_NeededUnits.l1 k l d us c b (i : Int)) r := by
 intro m
 induction m with
 | zero =>
  intro i b hi hb
  obtain rfl : i = l.length := by omega
  exact ⟨b, hb, fun r h => h⟩
 | succ m ih =>
  intro i b hi hb
  have g1 : (i : Int) < (l.length : Int) := by omega
  have g2 : (0 : Int) ≤ (i : Int) := by omega
  have g3 : (i : Int) < (us.length : Int) := by omega
  have stp : ∀ (b' : Int), Best l us (i + 1) b' → (∀ r, Ev (fun k => spec_NeededUnits.l1 k l d us c b' ((i + 1 : Nat) : Int)) r → Ev (fun k => spec_NeededUnits.l1 k l d us c b (i : Int)) r) → ∃ b2, Best l us l.length b2 ∧ ∀ r, Ev (fun k => spec_NeededUnits.l1 k l d us c b2 (l.length : Int)) r → Ev (fun k => spec_NeededUnits.l1 k l d us c b (i : Int)) r := fun b' hb' hr => by
   obtain ⟨b2, h1, h2⟩ := ih (i + 1) b' (by omega) hb'
   exact ⟨b2, h1, fun r h => hr r (h2 r h)⟩
  by_cases hu : us.getD i false = true
  ·
   refine stp b ?_ (fun r h => ?_)
   ·
    rcases hb with ⟨e, h⟩ | ⟨n, e, h1, h2, h3⟩
    ·
     refine .inl ⟨e, fun j hj => ?_⟩
     by_cases ej : j = i
     ·
      rw [ej]; exact hu
     ·
      exact h j (by omega)
    ·
     refine .inr ⟨n, e, by omega, h2, fun j hj hj2 => ?_⟩
     by_cases ej : j = i
     ·
      rw [ej, hu] at hj2; cases hj2
     ·
      exact h3 j (by omega) hj2
   ·
    refine Ev.succ ?_
    simp only [spec_NeededUnits.l1, if_pos g1, if_pos g2, if_pos g3, rdOfB, if_pos hu, w64 (x := (i : Int) + 1) (by omega) (by omega)]
    exact h
  ·
   have hu2 : us.getD i false = false := by simpa using hu
   rcases hb with ⟨rfl, h⟩ | ⟨n, rfl, h1, h2, h3⟩
   ·
    refine stp (i : Int) (.inr ⟨i, rfl, by omega, hu2, fun j hj hj2 => ?_⟩) (fun r h' => ?_)
    ·
     by_cases ej : j = i
     ·
      rw [ej]; exact Int.le_refl _
     ·
      rw [h j (by omega)] at hj2; cases hj2
    ·
     refine Ev.succ ?_
     simp only [spec_NeededUnits.l1, if_pos g1, if_pos g2, if_pos g3, rdOfB, if_neg hu, if_pos (show (-1 : Int) < 0 by decide), w64 (x := (i : Int) + 1) (by omega) (by omega)]
     exact h'
   ·
    have q1 : ¬ (n : Int) < 0 := by omega
    have q2 : (0 : Int) ≤ (n : Int) := by omega
    have q3 : (n : Int) < (l.length : Int) := by omega
    by_cases hc : (rdU l i).f2 > (rdU l n).f2
    ·
     refine stp (i : Int) (.inr ⟨i, rfl, by omega, hu2, fun j hj hj2 => ?_⟩) (fun r h' => ?_)
     ·
      by_cases ej : j = i
      ·
       rw [ej]; exact Int.le_refl _
      ·
       have := h3 j (by omega) hj2
       omega
     ·
      refine Ev.succ ?_
      simp only [spec_NeededUnits.l1, if_pos g1, if_pos g2, if_pos g3, rdOfB, if_neg hu, if_neg q1, if_pos q2, if_pos q3, rdU_eq, if_pos hc, w64 (x := (i : Int) + 1) (by omega) (by omega)]
      exact h'
    ·
     refine stp (n : Int) (.inr ⟨n, rfl, by omega, h2, fun j hj hj2 => ?_⟩) (fun r h' => ?_)
     ·
      by_cases ej : j = i
      ·
       rw [ej]; omega
      ·
       exact h3 j (by omega) hj2
     ·
      refine Ev.succ ?_
      simp only [spec_NeededUnits.l1, if_pos g1, if_pos g2, if_pos g3, rdOfB, if_neg hu, if_neg q1, if_pos q2, if_pos q3, rdU_eq, if_neg hc, w64 (x := (i : Int) + 1) (by omega) (by omega)]
      exact h'
theorem outer_ev (l : List S77) (hn : l.length ≤ 4) (hx : ∀ i, i < l.length → unitR (rdU l i) = true) : ∀ (R : List Int) (us : List Bool) (d c : Int), us.length = l.length → List.Pairwise (· ≥ ·) R → List.Perm R (unu (vals l) us) → d ≤ 400000 → 0 ≤ c ∧ c + R.length ≤ 1000 → Ev (fun k => spec_NeededUnits.l0 k l d us c) (goN R d c) := by
 have hvl : (vals l).length = l.length := List.length_map ..
 intro R
 induction R with
 | nil =>
  intro us d c hl hp hper hd hc
  refine Ev.succ ?_
  by_cases h0 : d > 0
  ·
   simp only [spec_NeededUnits.l0, goN, if_pos h0]
   obtain ⟨b, hb, hr⟩ := inner_ev l us d c hn hl l.length 0 (-1) (Nat.zero_add _) (.inl ⟨rfl, fun j hj => absurd hj (Nat.not_lt_zero _)⟩)
   have hu : unu (vals l) us = [] := List.Perm.eq_nil hper.symm
   rcases hb with ⟨rfl, _⟩ | ⟨n, rfl, h1, h2, _⟩
   ·
    refine hr _ (Ev.succ ?_)
    simp only [spec_NeededUnits.l1, if_neg (show ¬ (l.length : Int) < (l.length : Int) by omega), if_pos (show (-1 : Int) < 0 by decide)]
    exact Ev.now _
   ·
    have := (unu_mem (vals l) us (by omega) _).2 ⟨n, by omega, h2, rfl⟩
    rw [hu] at this
    cases this
  ·
   simp only [spec_NeededUnits.l0, goN, if_neg h0]
   exact Ev.now _
 | cons x t ih =>
  intro us d c hl hp hper hd hc
  refine Ev.succ ?_
  rw [List.length_cons] at hc
  by_cases h0 : d > 0
  ·
   simp only [spec_NeededUnits.l0, goN, if_pos h0]
   obtain ⟨b, hb, hr⟩ := inner_ev l us d c hn hl l.length 0 (-1) (Nat.zero_add _) (.inl ⟨rfl, fun j hj => absurd hj (Nat.not_lt_zero _)⟩)
   obtain ⟨j, j1, j2, j3⟩ := (unu_mem (vals l) us (by omega) x).1 (hper.mem_iff.1 List.mem_cons_self)
   rcases hb with ⟨rfl, hall⟩ | ⟨n, rfl, h1, h2, h3⟩
   ·
    rw [hall j (by omega)] at j2
    cases j2
   ·
    have hv : (vals l).getD n 0 = x := by
     have m1 := (unu_mem (vals l) us (by omega) _).2 ⟨n, by omega, h2, rfl⟩
     have m2 := hper.mem_iff.2 m1
     have le2 := h3 j (by omega) j2
     rw [vals_getD l j (by omega)] at j3
     rw [vals_getD l n h1] at m2 ⊢
     rcases List.mem_cons.1 m2 with e | m3
     ·
      exact e
     ·
      have := (List.pairwise_cons.1 hp).1 _ m3
      omega
    have hv2 : (rdU l n).f2 = x := by rw [← vals_getD l n h1]; exact hv
    have fx := unitR_facts (hx n h1)
    have per := unu_set (vals l) us n (by omega) (by omega) h2
    rw [hv] at per
    refine hr _ (Ev.succ ?_)
    simp only [spec_NeededUnits.l1, if_neg (show ¬ (l.length : Int) < (l.length : Int) by omega), if_neg (show ¬ (n : Int) < 0 by omega), if_pos (show (0 : Int) ≤ (n : Int) by omega), if_pos (show (n : Int) < (us.length : Int) by omega), if_pos (show (n : Int) < (l.length : Int) by omega), rdU_eq, hv2, Int.toNat_natCast]
    rw [w64 (x := d - x) (by omega) (by omega), w64 (x := c + 1) (by omega) (by omega)]
    exact ih (us.set n true) (d - x) (c + 1) (by rw [List.length_set]; exact hl) (List.pairwise_cons.1 hp).2 (List.Perm.cons_inv (hper.trans per)) (by omega) (by omega)
  ·
   simp only [spec_NeededUnits.l0, goN, if_neg h0]
   exact Ev.now _
theorem swp_set (A : List Int) (y x : Int) (B : List Int) : ((A ++ y :: x :: B).set (A.length + 1) y).set A.length x = A ++ x :: y :: B := by
 rw [List.set_append_right _ _ (by omega), show A.length + 1 - A.length = 1 by omega, List.set_append_right _ _ (by omega), Nat.sub_self]
 rfl
theorem less_eq (a b : Int) : cmp_Less_int64.f a b = some (decide (a < b)) := by
 unfold cmp_Less_int64.f cmp_isNaN_int64.f
 simp
theorem sort1_ev (n i : Int) (N : Nat) (hN : N ≤ 12) : ∀ (m : Nat) (A : List Int) (x : Int) (B : List Int), A.length = m → (A ++ x :: B).length = N → List.Pairwise (· ≤ ·) A → ∃ Y, List.Perm Y (x :: A) ∧ List.Pairwise (· ≤ ·) Y ∧ ∀ r, Ev (fun k => slices_insertionSortOrdered_int64.l0 k (Y ++ B) 0 n (wrap64 (i + 1))) r → Ev (fun k => slices_insertionSortOrdered_int64.l1 k (A ++ x :: B) 0 n i (m : Int)) r := by
 intro m
 induction m with
 | zero =>
  intro A x B hA hl hp
  obtain rfl := List.eq_nil_of_length_eq_zero hA
  refine ⟨[x], List.Perm.refl _, by simp, fun r h => Ev.succ ?_⟩
  simp only [slices_insertionSortOrdered_int64.l1, if_neg (show ¬ ((0 : Nat) : Int) > 0 by decide)]
  exact h
 | succ m ih =>
  intro A x B hA hl hp
  rcases List.eq_nil_or_concat A with rfl | ⟨A', y, rfl⟩
  ·
   simp at hA
  rw [List.concat_eq_append] at hA hl hp ⊢
  have hA' : A'.length = m := by simpa using hA
  have hpa := List.pairwise_append.1 hp
  have el : A' ++ [y] ++ x :: B = A' ++ y :: x :: B := by simp
  have hl2 : (A' ++ y :: x :: B).length = N := by rw [← el]; exact hl
  have g1 : ((m + 1 : Nat) : Int) > 0 := by omega
  have hlN : m + 2 ≤ N := by rw [← hl2]; simp; omega
  have e1 : rd (A' ++ y :: x :: B) ((m + 1 : Nat) : Int) = x := by
   rw [rd_nat, List.getD_eq_getElem?_getD, List.getElem?_append_right (by omega), show m + 1 - A'.length = 1 by omega]
   rfl
  have e2 : rd (A' ++ y :: x :: B) ((m : Nat) : Int) = y := by
   rw [rd_nat, List.getD_eq_getElem?_getD, List.getElem?_append_right (by omega), show m - A'.length = 0 by omega]
   rfl
  have ew : wrap64 (((m + 1 : Nat) : Int) - 1) = (m : Int) := by
   rw [w64 (by omega) (by omega)]
   omega
  by_cases hc : x < y
  ·
   obtain ⟨Y, p1, p2, p3⟩ := ih A' x (y :: B) hA' (by rw [← hl2]; simp) hpa.1
   refine ⟨Y ++ [y], ?_, ?_, fun r h => Ev.succ ?_⟩
   ·
    exact (p1.append_right [y]).trans (by simp)
   ·
    refine List.pairwise_append.2 ⟨p2, by simp, fun a ha b hb => ?_⟩
    have hb2 : b = y := by simpa using hb
    rcases List.mem_cons.1 (p1.mem_iff.1 ha) with rfl | h2
    ·
     omega
    ·
     rw [hb2]
     exact hpa.2.2 a h2 y (by simp)
   ·
    have es : ((A' ++ y :: x :: B).set (((m + 1 : Nat) : Int)).toNat y).set ((m : Int)).toNat x = A' ++ x :: y :: B := by
     rw [Int.toNat_natCast, Int.toNat_natCast, ← hA']
     exact swp_set A' y x B
    rw [el]
    simp only [slices_insertionSortOrdered_int64.l1, if_pos g1, if_pos (show (0 : Int) ≤ ((m + 1 : Nat) : Int) by omega), if_pos (show ((m + 1 : Nat) : Int) < ((A' ++ y :: x :: B).length : Int) by omega), ew, if_pos (show (0 : Int) ≤ (m : Int) by omega), if_pos (show (m : Int) < ((A' ++ y :: x :: B).length : Int) by omega), e1, e2, less_eq, Option.bind_some, decide_eq_true hc, if_true, es]
    refine p3 r ?_
    rw [show Y ++ [y] ++ B = Y ++ y :: B by simp] at h
    exact h
  ·
   refine ⟨A' ++ [y] ++ [x], ?_, ?_, fun r h => Ev.succ ?_⟩
   ·
    exact List.perm_append_comm.trans (by simp)
   ·
    refine List.pairwise_append.2 ⟨hp, by simp, fun a ha b hb => ?_⟩
    have hb2 : b = x := by simpa using hb
    rcases List.mem_append.1 ha with h2 | h2
    ·
     have := hpa.2.2 a h2 y (by simp)
     omega
    ·
     have : a = y := by simpa using h2
     omega
   ·
    rw [el]
    simp only [slices_insertionSortOrdered_int64.l1, if_pos g1, if_pos (show (0 : Int) ≤ ((m + 1 : Nat) : Int) by omega), if_pos (show ((m + 1 : Nat) : Int) < ((A' ++ y :: x :: B).length : Int) by omega), ew, if_pos (show (0 : Int) ≤ (m : Int) by omega), if_pos (show (m : Int) < ((A' ++ y :: x :: B).length : Int) by omega), e1, e2, less_eq, Option.bind_some, decide_eq_false hc, Bool.false_eq_true, if_false]
    rw [show A' ++ [y] ++ [x] ++ B = A' ++ y :: x :: B by simp] at h
    exact h
theorem sort0_ev (N : Nat) (hN : N ≤ 12) : ∀ (B A : List Int), (A ++ B).length = N → List.Pairwise (· ≤ ·) A → ∃ s, List.Perm s (A ++ B) ∧ List.Pairwise (· ≤ ·) s ∧ Ev (fun k => slices_insertionSortOrdered_int64.l0 k (A ++ B) 0 (N : Int) (A.length : Int)) s := by
 intro B
 induction B with
 | nil =>
  intro A hl hp
  have hA : A.length = N := by simpa using hl
  refine ⟨A, by simp, hp, Ev.succ ?_⟩
  simp only [slices_insertionSortOrdered_int64.l0, if_neg (show ¬ (A.length : Int) < (N : Int) by omega), List.append_nil]
  exact Ev.now _
 | cons x B ih =>
  intro A hl hp
  have hA : A.length < N := by rw [← hl]; simp
  obtain ⟨Y, p1, p2, p3⟩ := sort1_ev (N : Int) (A.length : Int) N hN A.length A x B rfl hl hp
  have hY : Y.length = A.length + 1 := by rw [p1.length_eq, List.length_cons]
  obtain ⟨s, q1, q2, q3⟩ := ih Y (by rw [← hl]; simp [hY]; omega) p2
  refine ⟨s, q1.trans ?_, q2, Ev.succ ?_⟩
  ·
   refine (p1.append_right B).trans ?_
   show List.Perm (x :: (A ++ B)) (A ++ x :: B)
   exact List.perm_middle.symm
  ·
   simp only [slices_insertionSortOrdered_int64.l0, if_pos (show (A.length : Int) < (N : Int) by omega)]
   refine p3 s ?_
   rw [w64 (by omega) (by omega)]
   rw [hY] at q3
   exact q3
theorem sort_ev (xs : List Int) (h1 : 1 ≤ xs.length) (h2 : xs.length ≤ 12) : ∃ s, List.Perm s xs ∧ List.Pairwise (· ≤ ·) s ∧ Ev (fun k => slices_insertionSortOrdered_int64.f k xs 0 (xs.length : Int)) s := by
 cases xs with
 | nil => simp at h1
 | cons x t =>
  obtain ⟨s, p1, p2, p3⟩ := sort0_ev (x :: t).length h2 t [x] (by simp) (by simp)
  refine ⟨s, p1, p2, ?_⟩
  have e : wrap64 ((0 : Int) + 1) = 1 := w64 (x := (0 : Int) + 1) (by decide) (by decide)
  unfold slices_insertionSortOrdered_int64.f
  simp only [e]
  exact p3
theorem rev_ev (s : List Int) (h1 : 1 ≤ s.length) (h2 : s.length ≤ 4) : Ev (fun k => slices_Reverse_int64_int64.f k s) s.reverse := by
 unfold slices_Reverse_int64_int64.f
 match s, h1, h2 with
 | [a], _, _ =>
  refine Ev.succ ?_
  simp [slices_Reverse_int64_int64.l0, wrap64]
  exact Ev.now _
 | [a, b], _, _ =>
  refine Ev.succ ?_
  simp [slices_Reverse_int64_int64.l0, wrap64, rd]
  refine Ev.succ ?_
  simp [slices_Reverse_int64_int64.l0]
  exact Ev.now _
 | [a, b, c], _, _ =>
  refine Ev.succ ?_
  simp [slices_Reverse_int64_int64.l0, wrap64, rd]
  refine Ev.succ ?_
  simp [slices_Reverse_int64_int64.l0]
  exact Ev.now _
 | [a, b, c, d], _, _ =>
  refine Ev.succ ?_
  simp [slices_Reverse_int64_int64.l0, wrap64, rd]
  refine Ev.succ ?_
  simp [slices_Reverse_int64_int64.l0, wrap64, rd]
  refine Ev.succ ?_
  simp [slices_Reverse_int64_int64.l0]
  exact Ev.now _
theorem sum_ev (ds : List Int) (hl : ds.length ≤ 4) (hb : ∀ x ∈ ds, 0 ≤ x ∧ x ≤ 100000) : Ev (fun k => impl_sumOf.f k ds) ds.sum := by
 unfold impl_sumOf.f
 have key : ∀ (m i : Nat) (s : Int), i + m = ds.length → 0 ≤ s ∧ s ≤ 100000 * i → Ev (fun k => impl_sumOf.l0 k s ds (ds.length : Int) (i : Int)) (s + (ds.drop i).sum) := by
  intro m
  induction m with
  | zero =>
   intro i s hi hs
   rw [List.drop_eq_nil_of_le (by omega), List.sum_nil, Int.add_zero]
   refine Ev.succ ?_
   simp only [impl_sumOf.l0, if_neg (show ¬ (i : Int) < (ds.length : Int) by omega)]
   exact Ev.now _
  | succ m ih =>
   intro i s hi hs
   have hlt : i < ds.length := by omega
   have hbx := hb _ (List.getElem_mem hlt)
   have eg : ds.getD i 0 = ds[i] := getD_lt 0 hlt
   rw [List.drop_eq_getElem_cons hlt, List.sum_cons, ← Int.add_assoc, ← eg]
   rw [← eg] at hbx
   refine Ev.succ ?_
   simp only [impl_sumOf.l0, if_pos (show (i : Int) < (ds.length : Int) by omega), if_pos (show (0 : Int) ≤ (i : Int) by omega), rd_nat, w64 (x := (i : Int) + 1) (by omega) (by omega), w64 (x := s + ds.getD i 0) (by omega) (by omega)]
   exact ih (i + 1) _ (by omega) (by omega)
 have h := key ds.length 0 0 (Nat.zero_add _) (by omega)
 rw [List.drop_zero, Int.zero_add] at h
 exact h
def desc (l : List S77) : List Int := ((vals l).mergeSort (fun a b => decide (a ≤ b))).reverse
theorem asc_uniq (s : List Int) (l : List S77) (h1 : List.Perm s (vals l)) (h2 : List.Pairwise (· ≤ ·) s) : s = (vals l).mergeSort (fun a b => decide (a ≤ b)) := by
 refine List.Perm.eq_of_pairwise (le := fun a b : Int => a ≤ b) (fun a b _ _ h3 h4 => Int.le_antisymm h3 h4) h2 ?_ (h1.trans (List.mergeSort_perm _ _).symm)
 have := List.pairwise_mergeSort (le := fun a b : Int => decide (a ≤ b)) (fun a b c h3 h4 => by simp at h3 h4 ⊢; omega) (fun a b => by simp; omega) (vals l)
 exact this.imp (fun h => by simpa using h)
theorem unu_none : ∀ (vs : List Int), unu vs (List.replicate vs.length false) = vs
 | [] => rfl
 | v :: vs => by
  rw [List.length_cons, List.replicate_succ, unu, if_neg (by decide), unu_none vs]
def resN (l : List S77) (a : Int) : Int × Int := if unitsOk l = true then (if inB 0 400000 a = true then goN (desc l) a 0 else (0, 2)) else (0, 1)
theorem spec_ev (l : List S77) (a : Int) (h1 : l.length ≤ 1048576) : Ev (fun k => spec_NeededUnits.f k l a) (resN l a) := by
 have hq : Ev (fun k => spec_l15One.f k l a) (if unitsOk l = true then (if inB 0 400000 a = true then 0 else 2) else 1) := by
  unfold spec_l15One.f
  refine Ev.bind (specUnits_ev l (by omega)) ?_
  cases unitsOk l with
  | false => exact Ev.now _
  | true =>
   simp only [if_true, spec_l13Demand.f, specIn_eq, Option.bind_some]
   cases inB 0 400000 a <;> exact Ev.now _
 unfold spec_NeededUnits.f resN
 refine Ev.bind hq ?_
 cases hu : unitsOk l with
 | false => exact Ev.now _
 | true =>
  cases ha : inB 0 400000 a with
  | false => exact Ev.now _
  | true =>
   obtain ⟨⟨n1, n2⟩, hx⟩ := unitsOk_facts hu
   have hb : 0 ≤ a ∧ a ≤ 400000 := by
    unfold inB at ha
    simpa using ha
   simp only [if_true, if_pos (show (0 : Int) ≤ (l.length : Int) by omega), Int.toNat_natCast, if_pos (show l.length ≤ 281474976710656 by omega)]
   have hvl : (vals l).length = l.length := List.length_map ..
   have hdp : List.Perm (desc l) (vals l) := (List.reverse_perm _).trans (List.mergeSort_perm _ _)
   refine outer_ev l n2 hx (desc l) (List.replicate l.length false) a 0 (List.length_replicate ..) ?_ ?_ (by omega) ⟨Int.le_refl _, by rw [hdp.length_eq, hvl]; omega⟩
   ·
    unfold desc
    rw [List.pairwise_reverse]
    have := List.pairwise_mergeSort (le := fun a b : Int => decide (a ≤ b)) (fun a b c h3 h4 => by simp at h3 h4 ⊢; omega) (fun a b => by simp; omega) (vals l)
    exact this.imp (fun h => by simpa using h)
   ·
    rw [← hvl, unu_none]
    exact hdp
theorem ev_all_n {β : Type} (n : Nat) (f : Nat → Nat → Option β) (r : Nat → β) (h : ∀ i, i < n → Ev (fun k => f k i) (r i)) : ∃ K, ∀ k, K ≤ k → ∀ i, i < n → f k i = some (r i) := by
 induction n with
 | zero => exact ⟨0, fun k _ i hi => absurd hi (Nat.not_lt_zero _)⟩
 | succ n ih =>
  obtain ⟨K1, h1⟩ := ih (fun i hi => h i (by omega))
  obtain ⟨K2, h2⟩ := h n (by omega)
  refine ⟨max K1 K2, fun k hk i hi => ?_⟩
  by_cases e : i = n
  ·
   subst e
   exact h2 k (by omega)
  ·
   exact h1 k (by omega) i (by omega)
theorem find_congr {p q : Nat → Bool} : ∀ (L : List Nat), (∀ x ∈ L, p x = q x) → L.find? p = L.find? q
 | [], _ => rfl
 | x :: t, h => by
  rw [List.find?_cons, List.find?_cons, h x List.mem_cons_self, find_congr t (fun y hy => h y (List.mem_cons_of_mem _ hy))]
theorem lst_congr {p q : Nat → Bool} {hi : Nat} (h : ∀ n, n < hi + 1 → p n = q n) : lst p hi = lst q hi := by
 unfold lst
 rw [find_congr (List.range (hi + 1)) (fun x hx => h x (List.mem_range.1 hx))]
theorem impl_ev (l : List S77) (a : Int) (h1 : l.length ≤ 1048576) : Ev (fun k => impl_NeededUnits.f k l a) (resN l a) := by
 unfold impl_NeededUnits.f resN
 refine Ev.bind (implUnits_ev l (by omega)) ?_
 cases hu : unitsOk l with
 | false => exact Ev.now _
 | true =>
  simp only [if_true, impl_demandOk.f, impl_within.f, Option.bind_some]
  cases ha : inB 0 400000 a with
  | false => exact Ev.now _
  | true =>
   obtain ⟨⟨n1, n2⟩, hx⟩ := unitsOk_facts hu
   have hvl : (vals l).length = l.length := List.length_map ..
   simp only [if_true, if_pos (show 0 < l.length ∧ l.length ≤ 12 by omega)]
   obtain ⟨s, p1, p2, p3⟩ := sort_ev (vals l) (by omega) (by omega)
   rw [hvl] at p3
   have hsl : s.length = l.length := by rw [p1.length_eq, hvl]
   refine Ev.bind p3 ?_
   refine Ev.bind (rev_ev s (by omega) (by omega)) ?_
   have hd : s.reverse = desc l := by
    unfold desc
    rw [← asc_uniq s l p1 p2]
   rw [hd]
   have hdl : (desc l).length = l.length := by rw [← hd, List.length_reverse, hsl]
   have hdb : ∀ x ∈ desc l, 0 ≤ x ∧ x ≤ 100000 := by
    intro x hxm
    rw [← hd, List.mem_reverse] at hxm
    have hm := p1.mem_iff.1 hxm
    obtain ⟨i, hi, rfl⟩ := List.getElem_of_mem hm
    have f := unitR_facts (hx i (by omega))
    rw [← vals_getD l i (by omega), getD_lt 0 hi] at f
    omega
   obtain ⟨K, hK⟩ := ev_all_n (l.length + 1) (fun k n => impl_sumOf.f k ((desc l).take n)) (fun n => ((desc l).take n).sum) (fun n hn => sum_ev _ (by rw [List.length_take]; omega) (fun x hxm => hdb x (List.mem_of_mem_take hxm)))
   refine ⟨K, fun k hk => ?_⟩
   have hall : ((List.range (l.length + 1)).all fun n => (impl_sumOf.f k ((desc l).take n)).isSome) = true := by
    rw [List.all_eq_true]
    intro n hn
    rw [hK k hk n (List.mem_range.1 hn)]
    rfl
   have hls : lst (neededHas k (desc l) a) l.length = lst (fun n => decide (((desc l).take n).sum ≥ a)) (desc l).length := by
    rw [hdl]
    refine lst_congr (fun n hn => ?_)
    unfold neededHas
    rw [hK k hk n hn]
   show (if s.length = l.length ∧ (desc l).length = l.length ∧ ((List.range (l.length + 1)).all fun n => (impl_sumOf.f k ((desc l).take n)).isSome) = true then impl_orNotFound.f (lst (neededHas k (desc l) a) l.length).1 (lst (neededHas k (desc l) a) l.length).2 else none) = _
   rw [if_pos ⟨hsl, hdl, hall⟩, hls, go_lst]
   unfold impl_orNotFound.f
   split
   ·
    rw [Int.zero_add]
   ·
    rfl
theorem core : ∀ (l0 : List (S77)) (a1 : Int) (o0 : okUnitS l0) (w1 : (Lit.int .i64 a1).wf = true), ∃ (r1 : Int) (r2 : Int), Ev (fun k => spec_NeededUnits.f k l0 a1) (r1, r2) ∧ Ev (fun k => impl_NeededUnits.f k l0 a1) (r1, r2) := by
 intro l0 a1 o0 w1
 exact ⟨(resN l0 a1).1, (resN l0 a1).2, spec_ev l0 a1 o0.1, impl_ev l0 a1 o0.1⟩
end Go.Proofs.Ytebkgebibammiaa.Pure
