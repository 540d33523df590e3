/- The program's SmoothImage returns what the reference's returns, for all arguments. No condition beyond the statement's own. -/
import Derived.Test.YtfnheijpgldlcabPFnExactSmoothImagex0
import Derived.Test.YtfnheijpgldlcabPFnExactSmoothImagex1
import Derived.Test.YtfnheijpgldlcabPFnExactSmoothImagex2
import Derived.Test.YtfnheijpgldlcabPFnExactSmoothImagex3
import Derived.Test.YtfnheijpgldlcabPFnExactSmoothImagex4
import Derived.Test.YtfnheijpgldlcabPFnExactSmoothImagex5
import Derived.Test.YtfnheijpgldlcabPFnExactSmoothImagex6
namespace Go.Proofs.Ytfnheijpgldlcab.Pure
open Go.RowKit Go.Proofs.Ytfnheijpgldlcab.PFnExactSmoothImage Go.Proofs.YtfnheijpgldlcabW.PrintWords Go.Proofs.YtfnheijpgldlcabW.PrintLast Go.Proofs.YtfnheijpgldlcabW.PrintMore
set_option linter.unusedVariables false
set_option linter.unusedSimpArgs false

theorem w64 {x : Int} (h0 : -9223372036854775808 ≤ x) (h1 : x ≤ 9223372036854775807) : wrap64 x = x := by unfold wrap64; omega
theorem rd_nat (l : List Int) (i : Nat) : rd l (i : Int) = l.getD i 0 := by unfold rd; rw [Int.toNat_natCast]
theorem getD_mem {α : Type} {l : List α} {i : Nat} (d : α) (h : i < l.length) : l.getD i d ∈ l := by
  rw [List.getD_eq_getElem?_getD, List.getElem?_eq_getElem h]; exact List.getElem_mem _
theorem getD_lt {α : Type} {l : List α} {i : Nat} (d : α) (h : i < l.length) : l.getD i d = l[i] := by
  rw [List.getD_eq_getElem?_getD, List.getElem?_eq_getElem h]; rfl
theorem take_succ_getD {α : Type} (l : List α) (d : α) {i : Nat} (h : i < l.length) : l.take (i + 1) = l.take i ++ [l.getD i d] := by
  rw [List.take_succ_eq_append_getElem h, getD_lt d h]
/-- A loop that copies a list, element by element. -/
theorem ev_copy {α : Type} (L : Nat → List α → List α → Int → Option (List α)) (xs : List α) (d d' : α)
    (step : ∀ ys i, i < xs.length → ys.length = xs.length → ∀ r, Ev (fun k => L k xs (ys.set i (xs.getD i d)) ((i + 1 : Nat) : Int)) r → Ev (fun k => L k xs ys (i : Int)) r)
    (fin : ∀ ys, Ev (fun k => L k xs ys (xs.length : Int)) ys) : Ev (fun k => L k xs (List.replicate xs.length d') 0) xs := by
  have key : ∀ (m i : Nat) (ys : List α), i + m = xs.length → ys.length = xs.length → (∀ j, j < i → ys[j]? = xs[j]?) → Ev (fun k => L k xs ys (i : Int)) xs := by
    intro m
    induction m with
    | zero =>
      intro i ys hi hl hj
      have e : ys = xs := List.ext_getElem? (fun j => by
        by_cases h : j < xs.length
        · exact hj j (by omega)
        · rw [List.getElem?_eq_none (by omega), List.getElem?_eq_none (by omega)])
      have : i = xs.length := by omega
      subst this
      rw [e]
      exact fin xs
    | succ m ih =>
      intro i ys hi hl hj
      refine step ys i (by omega) hl xs (ih (i + 1) _ (by omega) (by rw [List.length_set]; exact hl) (fun j hjj => ?_))
      by_cases h : j = i
      · subst h
        rw [List.getElem?_set_self (by omega), getD_lt d (by omega), List.getElem?_eq_getElem (by omega)]
      · rw [List.getElem?_set_ne (by omega)]
        exact hj j (by omega)
  exact key xs.length 0 _ (by omega) (List.length_replicate ..) (fun j hj => absurd hj (Nat.not_lt_zero _))
/-- A loop that compares two lists. -/
theorem ev_eq {α : Type} (L : Nat → List α → List α → Int → Option Bool) (xs : List α) 
    (step : ∀ i, i < xs.length → Ev (fun k => L k xs xs ((i + 1 : Nat) : Int)) true → Ev (fun k => L k xs xs (i : Int)) true)
    (fin : Ev (fun k => L k xs xs (xs.length : Int)) true) : Ev (fun k => L k xs xs 0) true := by
  have key : ∀ (m i : Nat), i + m = xs.length → Ev (fun k => L k xs xs (i : Int)) true := by
    intro m
    induction m with
    | zero =>
      intro i hi
      have : i = xs.length := by omega
      subst this
      exact fin
    | succ m ih => intro i hi; exact step i (by omega) (ih (i + 1) (by omega))
  exact key xs.length 0 (by omega)

/-- A loop that looks at all elements: on, or out with b; at the end c. -/
theorem ev_all {α ρ : Type} (L : Nat → Int → Option ρ) (xs : List α) (d : α) (p : α → Bool) (b c : ρ)
    (step : ∀ i, i < xs.length → p (xs.getD i d) = true → ∀ r, Ev (fun k => L k ((i + 1 : Nat) : Int)) r → Ev (fun k => L k (i : Int)) r)
    (bad : ∀ i, i < xs.length → p (xs.getD i d) = false → Ev (fun k => L k (i : Int)) b)
    (fin : Ev (fun k => L k (xs.length : Int)) c) : Ev (fun k => L k 0) (if xs.all p = true then c else b) := by
  have key : ∀ (m i : Nat), i + m = xs.length → Ev (fun k => L k (i : Int)) (if (xs.drop i).all p = true then c else b) := by
    intro m
    induction m with
    | zero =>
      intro i hi
      have : i = xs.length := by omega
      subst this
      rw [List.drop_length]
      exact fin
    | succ m ih =>
      intro i hi
      have hlt : i < xs.length := by omega
      rw [List.drop_eq_getElem_cons hlt, List.all_cons, ← getD_lt d hlt]
      cases hp : p (xs.getD i d) with
      | true => rw [Bool.true_and]; exact step i hlt hp _ (ih (i + 1) (by omega))
      | false => rw [Bool.false_and, if_neg (by decide)]; exact bad i hlt hp
  exact key xs.length 0 (by omega)
/-- The loop that counts what is read. -/
theorem ev_sz {α : Type} (L : Nat → Int → Int → Option Int) (xs : List α) (d : α) (B : α → Prop)
    (step : ∀ i a, i < xs.length → 0 ≤ a → a ≤ 1048576 → Ev (fun k => L k a (i : Int)) (-1) ∨ (∃ a', 0 ≤ a' ∧ a' ≤ a ∧ B (xs.getD i d) ∧ ∀ r, Ev (fun k => L k a' ((i + 1 : Nat) : Int)) r → Ev (fun k => L k a (i : Int)) r))
    (fin : ∀ a, Ev (fun k => L k a (xs.length : Int)) a) : ∀ a, 0 ≤ a → a ≤ 1048576 → ∃ r, Ev (fun k => L k a 0) r ∧ (r < 0 ∨ (0 ≤ r ∧ r ≤ a ∧ ∀ x ∈ xs, B x)) := by
  have key : ∀ (m i : Nat) (a : Int), i + m = xs.length → 0 ≤ a → a ≤ 1048576 → ∃ r, Ev (fun k => L k a (i : Int)) r ∧ (r < 0 ∨ (0 ≤ r ∧ r ≤ a ∧ ∀ j, i ≤ j → j < xs.length → B (xs.getD j d))) := by
    intro m
    induction m with
    | zero =>
      intro i a hi h0 h1
      have : i = xs.length := by omega
      subst this
      exact ⟨a, fin a, .inr ⟨h0, Int.le_refl _, fun j h2 h3 => by omega⟩⟩
    | succ m ih =>
      intro i a hi h0 h1
      rcases step i a (by omega) h0 h1 with h | ⟨a', h2, h3, hB, h⟩
      · exact ⟨-1, h, .inl (by decide)⟩
      · obtain ⟨r, hr, hq⟩ := ih (i + 1) a' (by omega) h2 (by omega)
        refine ⟨r, h r hr, ?_⟩
        rcases hq with hq | ⟨q0, q1, q2⟩
        · exact .inl hq
        · refine .inr ⟨q0, by omega, fun j h4 h5 => ?_⟩
          by_cases e : j = i
          · subst e; exact hB
          · exact q2 j (by omega) h5
  intro a h0 h1
  obtain ⟨r, hr, hq⟩ := key xs.length 0 a (by omega) h0 h1
  refine ⟨r, hr, hq.imp_right fun ⟨q0, q1, q2⟩ => ⟨q0, q1, fun x hx => ?_⟩⟩
  obtain ⟨j, hj, rfl⟩ := List.mem_iff_getElem.1 hx
  rw [← getD_lt d hj]
  exact q2 j (Nat.zero_le _) hj

theorem szInt64S_eq (l : List Int) (a : Int) (hl : l.length ≤ maxLen) (h0 : 0 ≤ a) (h1 : a ≤ 1048576) : ∃ r, laws_szInt64S.f l a = some r ∧ (r < 0 ∨ (0 ≤ r ∧ r ≤ a ∧ (l.length : Int) ≤ a)) := by
  unfold maxLen at hl
  unfold laws_szInt64S.f
  rw [w64 (by omega) (by omega)]
  split
  · exact ⟨_, rfl, .inl (by decide)⟩
  · exact ⟨_, rfl, .inr ⟨by omega, by omega, by omega⟩⟩
theorem szInt64SS_ev3 (l : List (List Int)) (a : Int) (hl : l.length ≤ maxLen) (hl2 : ∀ x ∈ l, x.length ≤ maxLen) (h0 : 0 ≤ a) (h1 : a ≤ 1048576) :
    ∃ r, Ev (fun k => laws_szInt64SS.f k l a) r ∧ (r < 0 ∨ (0 ≤ r ∧ r ≤ a ∧ l.length ≤ 1048576 ∧ ∀ x ∈ l, x.length ≤ 1048576)) := by
  unfold maxLen at hl
  unfold laws_szInt64SS.f
  rw [w64 (by omega) (by omega)]
  by_cases h : a - l.length < 0
  · simp only [h, if_true]
    exact ⟨-1, Ev.now _, .inl (by decide)⟩
  · simp only [h, if_false]
    obtain ⟨r, hr, hq⟩ := ev_sz (fun k a i => laws_szInt64SS.l0 k l a i) l [] (fun x => x.length ≤ 1048576) (fun i a hi h0 h1 => by
      obtain ⟨r, hr, hq⟩ := szInt64S_eq (l.getD i []) a (hl2 _ (getD_mem _ hi)) h0 h1
      have e : ∀ k, laws_szInt64SS.l0 (k + 1) l a i = if r < 0 then some (-1) else laws_szInt64SS.l0 k l r ((i + 1 : Nat) : Int) := fun k => by
        simp only [laws_szInt64SS.l0]
        rw [if_pos (by omega), if_pos (by omega)]
        unfold rd_L1
        rw [Int.toNat_natCast, hr]
        simp only [Option.bind_some]
        rw [w64 (by omega) (by omega)]
        rfl
      rcases hq with hq | ⟨q0, q1, q2⟩
      · exact .inl (Ev.step (f := fun _ => some (-1)) (fun k => by rw [e, if_pos hq]) (Ev.now _))
      · exact .inr ⟨r, q0, q1, by omega, fun s hs => Ev.step (fun k => by rw [e, if_neg (by omega)]) hs⟩) (fun a => Ev.step (f := fun _ => some a) (fun k => by simp only [laws_szInt64SS.l0]; rw [if_neg (by omega)]) (Ev.now _)) (a - l.length) (by omega) (by omega)
    exact ⟨r, hr, hq.imp_right fun ⟨q0, q1, q2⟩ => ⟨q0, by omega, by omega, q2⟩⟩
theorem szInt64SS_ev (l : List (List Int)) (a : Int) (hl : l.length ≤ maxLen) (hl2 : ∀ x ∈ l, x.length ≤ maxLen) (h0 : 0 ≤ a) (h1 : a ≤ 1048576) :
    ∃ r, Ev (fun k => laws_szInt64SS.f k l a) r ∧ (r < 0 ∨ (l.length ≤ 1048576 ∧ ∀ x ∈ l, x.length ≤ 1048576)) := by
  obtain ⟨r, hr, hq⟩ := szInt64SS_ev3 l a hl hl2 h0 h1
  exact ⟨r, hr, hq.imp_right fun h => h.2.2⟩

def okInt64SS (l : List (List Int)) : Prop := l.length ≤ 1048576 ∧ ∀ x ∈ l, x.length ≤ 1048576

theorem szInt64SS_evo (l : List (List Int)) (a : Int) (hw : l.length ≤ maxLen ∧ ∀ x0 ∈ l, x0.length ≤ maxLen ∧ ∀ x1 ∈ x0, (Lit.int .i64 x1).wf = true) (h0 : 0 ≤ a) (h1 : a ≤ 1048576) :
    ∃ r, Ev (fun k => laws_szInt64SS.f k l a) r ∧ (r < 0 ∨ (0 ≤ r ∧ r ≤ a ∧ okInt64SS l)) := szInt64SS_ev3 l a hw.1 (fun x hx => (hw.2 x hx).1) h0 h1

theorem toInt64S_ev (l : List Int) (h : l.length ≤ 35184372088832) : Ev (fun k => laws_toInt64S.f k l) l := by
  refine Ev.congr (f := fun k => laws_toInt64S.l0 k l (List.replicate l.length 0) 0) (fun k => ?_) ?_
  · unfold laws_toInt64S.f
    rw [if_pos (by omega), if_pos (by omega), Int.toNat_natCast]
  · refine ev_copy laws_toInt64S.l0 l 0 0 (fun ys i hi hl r hr => ?_) (fun ys => ?_)
    · refine Ev.step (fun k => ?_) hr
      simp only [laws_toInt64S.l0]
      rw [if_pos (by omega), if_pos (by omega), if_pos (by omega), w64 (by omega) (by omega), rd_nat, Int.toNat_natCast]
      rfl
    · refine Ev.step (f := fun _ => some ys) (fun k => ?_) (Ev.now _)
      simp only [laws_toInt64S.l0]
      rw [if_neg (by omega)]

theorem toInt64SS_ev (l : List (List Int)) (h : l.length ≤ 1048576) (h2 : ∀ x ∈ l, x.length ≤ 1048576) : Ev (fun k => laws_toInt64SS.f k l) l := by
  refine Ev.congr (f := fun k => laws_toInt64SS.l0 k l (List.replicate l.length []) 0) (fun k => ?_) ?_
  · unfold laws_toInt64SS.f
    rw [if_pos (by omega), if_pos (by omega), Int.toNat_natCast]
  · refine ev_copy laws_toInt64SS.l0 l [] [] (fun ys i hi hl r hr => ?_) (fun ys => ?_)
    · refine Ev.step (f := fun k => (laws_toInt64S.f k (l.getD i [])).bind fun t => laws_toInt64SS.l0 k l (ys.set i t) ((i + 1 : Nat) : Int)) (fun k => ?_) (Ev.bind (toInt64S_ev _ (by have := h2 _ (getD_mem [] hi); omega)) hr)
      simp only [laws_toInt64SS.l0]
      rw [if_pos (by omega), if_pos (by omega)]
      simp only [show (i : Int) < ys.length by omega, if_true]
      rw [w64 (by omega) (by omega)]
      unfold rd_L1
      rw [Int.toNat_natCast]
      rfl
    · refine Ev.step (f := fun _ => some ys) (fun k => ?_) (Ev.now _)
      simp only [laws_toInt64SS.l0]
      rw [if_neg (by omega)]

theorem toInt64SS_evo (l : List (List Int)) (h : okInt64SS l) : Ev (fun k => laws_toInt64SS.f k l) l := toInt64SS_ev l h.1 h.2

theorem eqInt64S_ev (l : List Int) (h : l.length ≤ 9223372036854775806) : Ev (fun k => laws_eqInt64S.f k l l) true := by
  refine Ev.congr (f := fun k => laws_eqInt64S.l0 k l l 0) (fun k => ?_) ?_
  · unfold laws_eqInt64S.f
    rw [if_pos rfl]
  · refine ev_eq laws_eqInt64S.l0 l (fun i hi hr => ?_) ?_
    · refine Ev.step (fun k => ?_) hr
      simp only [laws_eqInt64S.l0]
      rw [if_pos (by omega), if_pos (by omega), if_pos (by omega), if_pos trivial, w64 (by omega) (by omega)]
      rfl
    · refine Ev.step (f := fun _ => some true) (fun k => ?_) (Ev.now _)
      simp only [laws_eqInt64S.l0]
      rw [if_neg (by omega)]

theorem eqInt64SS_ev (l : List (List Int)) (h : l.length ≤ 1048576) (h2 : ∀ x ∈ l, x.length ≤ 1048576) : Ev (fun k => laws_eqInt64SS.f k l l) true := by
  refine Ev.congr (f := fun k => laws_eqInt64SS.l0 k l l 0) (fun k => ?_) ?_
  · unfold laws_eqInt64SS.f
    rw [if_pos rfl]
  · refine ev_eq laws_eqInt64SS.l0 l (fun i hi hr => ?_) ?_
    · refine Ev.step (f := fun k => (laws_eqInt64S.f k (l.getD i []) (l.getD i [])).bind fun t => if t = true then laws_eqInt64SS.l0 k l l ((i + 1 : Nat) : Int) else some false) (fun k => ?_) (Ev.bind (eqInt64S_ev _ (by have := h2 _ (getD_mem [] hi); omega)) hr)
      simp only [laws_eqInt64SS.l0]
      rw [if_pos (by omega), if_pos (by omega), if_pos (by omega), w64 (by omega) (by omega)]
      unfold rd_L1
      rw [Int.toNat_natCast]
      rfl
    · refine Ev.step (f := fun _ => some true) (fun k => ?_) (Ev.now _)
      simp only [laws_eqInt64SS.l0]
      rw [if_neg (by omega)]

theorem eqInt64SS_evo (l : List (List Int)) (h : okInt64SS l) : Ev (fun k => laws_eqInt64SS.f k l l) true := eqInt64SS_ev l h.1 h.2

/-- A loop that appends one element a round. -/
theorem ev_build {β ρ : Type} (L : Nat → List β → Int → Option ρ) (n : Nat) (f : Nat → β) (r : ρ)
    (step : ∀ i acc, i < n → acc.length = i → acc = (List.range i).map f → Ev (fun k => L k (acc ++ [f i]) ((i + 1 : Nat) : Int)) r → Ev (fun k => L k acc (i : Int)) r)
    (fin : Ev (fun k => L k ((List.range n).map f) (n : Int)) r) : Ev (fun k => L k [] 0) r := by
  have key : ∀ (m i : Nat), i + m = n → Ev (fun k => L k ((List.range i).map f) (i : Int)) r := by
    intro m
    induction m with
    | zero =>
      intro i hi
      have : i = n := by omega
      subst this
      exact fin
    | succ m ih =>
      intro i hi
      refine step i _ (by omega) (by simp) rfl ?_
      have := ih (i + 1) (by omega)
      rwa [List.range_succ, List.map_append] at this
  exact key n 0 (by omega)
/-- A loop that stores one element a round. -/
theorem ev_fill {β ρ : Type} (L : Nat → List β → Int → Option ρ) (base : List β) (d : β) (f : Nat → β) (r : ρ)
    (step : ∀ i acc, i < base.length → acc.length = base.length → acc.getD i d = base.getD i d → Ev (fun k => L k (acc.set i (f i)) ((i + 1 : Nat) : Int)) r → Ev (fun k => L k acc (i : Int)) r)
    (fin : Ev (fun k => L k ((List.range base.length).map f) (base.length : Int)) r) : Ev (fun k => L k base 0) r := by
  have key : ∀ (m i : Nat), i + m = base.length → Ev (fun k => L k ((List.range i).map f ++ base.drop i) (i : Int)) r := by
    intro m
    induction m with
    | zero =>
      intro i hi
      have : i = base.length := by omega
      subst this
      rw [List.drop_length, List.append_nil]
      exact fin
    | succ m ih =>
      intro i hi
      have hlt : i < base.length := by omega
      refine step i _ hlt (by simp; omega) ?_ ?_
      · rw [List.getD_eq_getElem?_getD, List.getD_eq_getElem?_getD, List.getElem?_append_right (by simp)]
        simp
      · have := ih (i + 1) (by omega)
        rw [List.range_succ, List.map_append, List.append_assoc] at this
        have e : ((List.range i).map f ++ base.drop i).set i (f i) = (List.range i).map f ++ ([i].map f ++ base.drop (i + 1)) := by
          rw [List.set_append_right _ _ (by simp), List.drop_eq_getElem_cons hlt, List.length_map, List.length_range, Nat.sub_self, List.set_cons_zero]
          rfl
        rw [e]
        exact this
  exact key base.length 0 (by omega)
theorem getD_map_range {β : Type} (n : Nat) (f : Nat → β) (d : β) {i : Nat} (h : i < n) : ((List.range n).map f).getD i d = f i := by
  rw [List.getD_eq_getElem?_getD, List.getElem?_map, List.getElem?_range h]; rfl

def okInt64S (l : List Int) : Prop := l.length ≤ 1048576

def mkInt64S (l : List Int) (k : Int) : List Int := (List.range l.length).map fun i : Nat => k + (i : Int)
def cntInt64S (l : List Int) : Int := l.length
theorem mkInt64S_len (l : List Int) (k : Int) : (mkInt64S l k).length = l.length := by simp [mkInt64S]
theorem cntInt64S_bd (l : List Int) (h : okInt64S l) : 0 ≤ cntInt64S l ∧ cntInt64S l ≤ 2000000000000 := by unfold okInt64S at h; unfold cntInt64S; omega
theorem markInt64S_ev (l : List Int) (k0 : Int) (h : okInt64S l) (h0 : 0 ≤ k0) (h1 : k0 ≤ 1000000000000000) : Ev (fun k => laws_markInt64S.f k l k0) (k0 + cntInt64S l, mkInt64S l k0) := by
  unfold okInt64S at h
  unfold laws_markInt64S.f
  have key := ev_fill (fun k acc i => laws_markInt64S.l0 k acc (k0 + i) i) l 0 (fun i => k0 + (i : Int)) (k0 + cntInt64S l, mkInt64S l k0) (fun i acc hi hl _ hs => ?_) ?_
  · simpa using key
  · refine Ev.step (fun k => ?_) hs
    simp only [laws_markInt64S.l0]
    rw [if_pos (by omega), if_pos (by omega), w64 (by omega) (by omega), w64 (by omega) (by omega), Int.toNat_natCast]
    congr 1
    omega
  · refine Ev.step (f := fun _ => some (k0 + cntInt64S l, mkInt64S l k0)) (fun k => ?_) (Ev.now _)
    simp only [laws_markInt64S.l0]
    rw [if_neg (by simp)]
    rfl
theorem heldInt64S_ev (l : List Int) (k0 : Int) (h : okInt64S l) (h0 : 0 ≤ k0) (h1 : k0 ≤ 1000000000000000) : Ev (fun k => laws_heldInt64S.f k (mkInt64S l k0) k0) (k0 + cntInt64S l) := by
  unfold okInt64S at h
  unfold laws_heldInt64S.f
  have key : ∀ (m i : Nat), i + m = l.length → Ev (fun k => laws_heldInt64S.l0 k (mkInt64S l k0) (k0 + i) i) (k0 + cntInt64S l) := by
    intro m
    induction m with
    | zero =>
      intro i hi
      refine Ev.step (f := fun _ => some (k0 + cntInt64S l)) (fun k => ?_) (Ev.now _)
      simp only [laws_heldInt64S.l0]
      rw [if_neg (by rw [mkInt64S_len]; omega)]
      unfold cntInt64S
      congr 2
      omega
    | succ m ih =>
      intro i hi
      refine Ev.step (fun k => ?_) (ih (i + 1) (by omega))
      simp only [laws_heldInt64S.l0]
      rw [if_pos (by rw [mkInt64S_len]; omega), if_pos (by omega), rd_nat, show (mkInt64S l k0).getD i 0 = k0 + i from getD_map_range _ _ _ (by omega), if_pos rfl, w64 (by omega) (by omega), w64 (by omega) (by omega)]
      congr 1
      omega
  simpa using key l.length 0 (by omega)

def cntInt64SS : List (List Int) → Int
  | [] => 0
  | x :: xs => x.length + cntInt64SS xs
def mkInt64SS : List (List Int) → Int → List (List Int)
  | [], _ => []
  | x :: xs, k => mkInt64S x k :: mkInt64SS xs (k + x.length)
theorem mkInt64SS_len : ∀ (l : List (List Int)) (k : Int), (mkInt64SS l k).length = l.length
  | [], _ => rfl
  | x :: xs, k => by simp [mkInt64SS, mkInt64SS_len xs]
theorem cntInt64SS_bd0 : ∀ (l : List (List Int)), (∀ x ∈ l, x.length ≤ 1048576) → 0 ≤ cntInt64SS l ∧ cntInt64SS l ≤ l.length * 1048576
  | [], _ => by simp [cntInt64SS]
  | x :: xs, h => by
    have h1 := cntInt64SS_bd0 xs (fun y hy => h y (List.mem_cons_of_mem _ hy))
    have h2 := h x List.mem_cons_self
    simp only [cntInt64SS, List.length_cons]
    omega
theorem cntInt64SS_bd (l : List (List Int)) (h : okInt64SS l) : 0 ≤ cntInt64SS l ∧ cntInt64SS l ≤ 2000000000000 := by
  have := cntInt64SS_bd0 l h.2
  have := h.1
  omega
theorem cntInt64SS_append : ∀ (a b : List (List Int)), cntInt64SS (a ++ b) = cntInt64SS a + cntInt64SS b
  | [], b => by simp [cntInt64SS]
  | x :: xs, b => by simp only [List.cons_append, cntInt64SS, cntInt64SS_append xs b]; omega
theorem mkInt64SS_append : ∀ (a b : List (List Int)) (k : Int), mkInt64SS (a ++ b) k = mkInt64SS a k ++ mkInt64SS b (k + cntInt64SS a)
  | [], b, k => by simp [mkInt64SS, cntInt64SS]
  | x :: xs, b, k => by simp only [List.cons_append, mkInt64SS, cntInt64SS, mkInt64SS_append xs b]; congr 2; congr 1; omega
theorem heldInt64SS_ev (l : List (List Int)) (k0 : Int) (h : okInt64SS l) (h0 : 0 ≤ k0) (h1 : k0 ≤ 900000000000000) : Ev (fun k => laws_heldInt64SS.f k (mkInt64SS l k0) k0) (k0 + cntInt64SS l) := by
  have hb := cntInt64SS_bd l h
  obtain ⟨hlen, hrow⟩ := h
  unfold laws_heldInt64SS.f
  have key : ∀ (rest done : List (List Int)), done ++ rest = l → Ev (fun k => laws_heldInt64SS.l0 k (mkInt64SS l k0) (k0 + cntInt64SS done) done.length) (k0 + cntInt64SS l) := by
    intro rest
    induction rest with
    | nil =>
      intro done hd
      rw [List.append_nil] at hd
      subst hd
      refine Ev.step (f := fun _ => some _) (fun k => ?_) (Ev.now _)
      simp only [laws_heldInt64SS.l0]
      rw [if_neg (by rw [mkInt64SS_len]; omega)]
    | cons x rest ih =>
      intro done hd
      have hl : l.length = done.length + (rest.length + 1) := by rw [← hd, List.length_append, List.length_cons]
      have hx : okInt64S x := hrow x (by rw [← hd]; simp)
      have hc : cntInt64SS l = cntInt64SS done + (x.length + cntInt64SS rest) := by rw [← hd, cntInt64SS_append]; rfl
      have hb1 := cntInt64SS_bd0 done (fun y hy => hrow y (by rw [← hd]; exact List.mem_append_left _ hy))
      have hb2 := cntInt64SS_bd0 rest (fun y hy => hrow y (by rw [← hd]; simp [hy]))
      have hg : (mkInt64SS l k0).getD done.length [] = mkInt64S x (k0 + cntInt64SS done) := by
        rw [← hd, mkInt64SS_append, List.getD_eq_getElem?_getD, List.getElem?_append_right (by rw [mkInt64SS_len]; exact Nat.le_refl _), mkInt64SS_len, Nat.sub_self]
        rfl
      have ihx := ih (done ++ [x]) (by rw [List.append_assoc]; exact hd)
      refine Ev.step (f := fun k => (laws_heldInt64S.f k (mkInt64S x (k0 + cntInt64SS done)) (k0 + cntInt64SS done)).bind fun t => if t < 0 then some (-1) else laws_heldInt64SS.l0 k (mkInt64SS l k0) t ((done.length + 1 : Nat) : Int)) (fun k => ?_) (Ev.bind (heldInt64S_ev x _ hx (by omega) (by omega)) ?_)
      · simp only [laws_heldInt64SS.l0]
        rw [if_pos (by rw [mkInt64SS_len]; omega), if_pos (by omega), w64 (by omega) (by omega)]
        unfold rd_L1
        rw [Int.toNat_natCast, hg]
        rfl
      · have e : k0 + cntInt64SS done + cntInt64S x = k0 + cntInt64SS (done ++ [x]) := by rw [cntInt64SS_append]; simp only [cntInt64SS, cntInt64S]; omega
        have hn : ¬ k0 + cntInt64SS done + cntInt64S x < 0 := by unfold cntInt64S; omega
        simp only [hn, if_false]
        rw [e]
        simpa using ihx
  simpa [cntInt64SS] using key l [] rfl

def rowOk (l : List (List Int)) (row : List Int) : Bool := decide (1 ≤ row.length) && (decide (row.length ≤ 16) && (decide (row.length = (l.getD 0 []).length) && row.all (inB (-5000) 20000)))
def imgOk (l : List (List Int)) : Bool := decide (1 ≤ l.length) && (decide (l.length ≤ 16) && l.all (rowOk l))

theorem specCell_eq (x : Int) : spec_l28Cell.f x = some (inB (-5000) 20000 x) := by
  unfold spec_l28Cell.f spec_l00In.f inB
  by_cases h : x ≥ -5000
  · rw [if_pos h, decide_eq_true (show -5000 ≤ x from h)]; rfl
  · rw [if_neg h, decide_eq_false (show ¬ -5000 ≤ x from h)]; rfl
theorem specOk_row (l : List (List Int)) (hl : l.length ≤ 16) (i : Nat) (hi : i < l.length) (h16 : (l.getD i []).length ≤ 16) (r : Bool) (hr : Ev (fun k => spec_l28Ok.l0 k l ((i + 1 : Nat) : Int)) r) :
    Ev (fun k => spec_l28Ok.l1 k l i 0) (if (l.getD i []).all (inB (-5000) 20000) = true then r else false) := by
  have ur : rd_L1 l i = l.getD i [] := by unfold rd_L1; rw [Int.toNat_natCast]
  refine ev_all (fun k j => spec_l28Ok.l1 k l i j) (l.getD i []) 0 (inB (-5000) 20000) false r (fun j hj hp s hs => ?_) (fun j hj hp => ?_) ?_
  · refine Ev.step (fun k => ?_) hs
    simp only [spec_l28Ok.l1]
    rw [if_pos (by omega), if_pos (by omega), ur, if_pos (by omega), if_pos (by omega), rd_nat, specCell_eq, hp]
    simp only [Option.bind_some, if_true]
    rw [w64 (by omega) (by omega)]
    rfl
  · refine Ev.step (f := fun _ => some false) (fun k => ?_) (Ev.now _)
    simp only [spec_l28Ok.l1]
    rw [if_pos (by omega), if_pos (by omega), ur, if_pos (by omega), if_pos (by omega), rd_nat, specCell_eq, hp]
    rfl
  · refine Ev.step (fun k => ?_) hr
    simp only [spec_l28Ok.l1]
    rw [if_pos (by omega), if_pos (by omega), ur, if_neg (by omega), w64 (by omega) (by omega)]
    rfl
theorem specOk_ev (l : List (List Int)) : Ev (fun k => spec_l28Ok.f k l) (imgOk l) := by
  unfold spec_l28Ok.f imgOk
  by_cases h1 : l.length < 1
  · simp only [show (l.length : Int) < 1 by omega, if_true]
    rw [decide_eq_false (by omega), Bool.false_and]
    exact Ev.step (f := fun _ => some false) (fun k => by simp [spec_l28Ok.j0]) (Ev.now _)
  · simp only [show ¬ (l.length : Int) < 1 by omega, if_false]
    rw [decide_eq_true (show 1 ≤ l.length by omega), Bool.true_and]
    by_cases h16 : l.length > 16
    · rw [decide_eq_false (show ¬ l.length ≤ 16 by omega), Bool.false_and]
      exact Ev.step (f := fun _ => some false) (fun k => by simp only [spec_l28Ok.j0]; rw [if_pos (decide_eq_true (by omega))]) (Ev.now _)
    · rw [decide_eq_true (show l.length ≤ 16 by omega), Bool.true_and]
      refine Ev.step (f := fun k => spec_l28Ok.l0 k l 0) (fun k => by simp only [spec_l28Ok.j0]; rw [if_neg (by simp; omega)]) ?_
      have key := ev_all (fun k i => spec_l28Ok.l0 k l i) l [] (rowOk l) false true (fun i hi hp s hs => ?_) (fun i hi hp => ?_) ?_
      · revert key
        cases l.all (rowOk l) <;> exact id
      · have ur : rd_L1 l i = l.getD i [] := by unfold rd_L1; rw [Int.toNat_natCast]
        have u0 : rd_L1 l 0 = l.getD 0 [] := rfl
        simp only [rowOk, Bool.and_eq_true, decide_eq_true_eq] at hp
        obtain ⟨p1, p2, p3, p4⟩ := hp
        refine Ev.step (f := fun k => spec_l28Ok.j2 k l i false) (fun k => ?_) (Ev.step (f := fun k => spec_l28Ok.l1 k l i 0) (fun k => by simp [spec_l28Ok.j2]) ?_)
        · simp only [spec_l28Ok.l0]
          rw [if_pos (by omega), if_pos (by omega), ur, u0, if_neg (by omega), if_neg (by omega), if_pos (by omega), p3]
          simp
        · have := specOk_row l (by omega) i hi p2 s hs
          rw [p4, if_pos rfl] at this
          exact this
      · have ur : rd_L1 l i = l.getD i [] := by unfold rd_L1; rw [Int.toNat_natCast]
        have u0 : rd_L1 l 0 = l.getD 0 [] := rfl
        have fin : Ev (fun k => spec_l28Ok.j2 k l i true) false := Ev.step (f := fun _ => some false) (fun k => by simp [spec_l28Ok.j2]) (Ev.now _)
        by_cases g1 : (l.getD i []).length < 1
        · refine Ev.step (fun k => ?_) fin
          simp only [spec_l28Ok.l0]
          rw [if_pos (by omega), if_pos (by omega), ur, if_pos (by omega)]
        · by_cases g2 : (l.getD i []).length > 16
          · refine Ev.step (fun k => ?_) fin
            simp only [spec_l28Ok.l0]
            rw [if_pos (by omega), if_pos (by omega), ur, if_neg (by omega), if_pos (by omega)]
          · by_cases g3 : (l.getD i []).length = (l.getD 0 []).length
            · have g4 : (l.getD i []).all (inB (-5000) 20000) = false := by
                simp only [rowOk] at hp
                rw [decide_eq_true (by omega), decide_eq_true (by omega), decide_eq_true g3] at hp
                simpa using hp
              refine Ev.step (f := fun k => spec_l28Ok.j2 k l i false) (fun k => ?_) (Ev.step (f := fun k => spec_l28Ok.l1 k l i 0) (fun k => by simp [spec_l28Ok.j2]) ?_)
              · simp only [spec_l28Ok.l0]
                rw [if_pos (by omega), if_pos (by omega), ur, u0, if_neg (by omega), if_neg (by omega), if_pos (by omega), g3]
                simp
              · -- some cell is out of bounds: whatever follows is not come to
                obtain ⟨x, hx, hxb⟩ := List.all_eq_false.1 g4
                have : ∀ (m j : Nat), j + m = (l.getD i []).length → (∃ q, j ≤ q ∧ q < (l.getD i []).length ∧ inB (-5000) 20000 ((l.getD i []).getD q 0) = false) → Ev (fun k => spec_l28Ok.l1 k l i j) false := by
                  intro m
                  induction m with
                  | zero => rintro j hj ⟨q, q1, q2, q3⟩; omega
                  | succ m ih =>
                    rintro j hj ⟨q, q1, q2, q3⟩
                    cases hc : inB (-5000) 20000 ((l.getD i []).getD j 0) with
                    | true =>
                      have : q ≠ j := by rintro rfl; rw [hc] at q3; cases q3
                      refine Ev.step (fun k => ?_) (ih (j + 1) (by omega) ⟨q, by omega, q2, q3⟩)
                      simp only [spec_l28Ok.l1]
                      rw [if_pos (by omega), if_pos (by omega), ur, if_pos (by omega), if_pos (by omega), rd_nat, specCell_eq, hc]
                      simp only [Option.bind_some, if_true]
                      rw [w64 (by omega) (by omega)]
                      rfl
                    | false =>
                      refine Ev.step (f := fun _ => some false) (fun k => ?_) (Ev.now _)
                      simp only [spec_l28Ok.l1]
                      rw [if_pos (by omega), if_pos (by omega), ur, if_pos (by omega), if_pos (by omega), rd_nat, specCell_eq, hc]
                      rfl
                obtain ⟨q, hq, rfl⟩ := List.mem_iff_getElem.1 hx
                exact this (l.getD i []).length 0 (by omega) ⟨q, Nat.zero_le _, hq, by rw [getD_lt 0 hq]; simpa using hxb⟩
            · refine Ev.step (f := fun k => spec_l28Ok.j2 k l i true) (fun k => ?_) fin
              simp only [spec_l28Ok.l0]
              rw [if_pos (by omega), if_pos (by omega), ur, u0, if_neg (by omega), if_neg (by omega), if_pos (by omega)]
              congr 1
              exact bne_iff_ne.mpr (by omega)
      · refine Ev.step (f := fun _ => some true) (fun k => ?_) (Ev.now _)
        simp only [spec_l28Ok.l0]
        rw [if_neg (by omega)]

theorem implOk_ev (l : List (List Int)) (hlen : ∀ x ∈ l, x.length ≤ 1048576) : Ev (fun k => impl_ValidImage.f k l) (imgOk l) := by
  unfold impl_ValidImage.f imgOk
  by_cases h1 : l.length < 1
  · simp only [show (l.length : Int) < 1 by omega, if_true]
    rw [decide_eq_false (by omega), Bool.false_and]
    exact Ev.step (f := fun _ => some false) (fun k => by simp [impl_ValidImage.j0]) (Ev.now _)
  · simp only [show ¬ (l.length : Int) < 1 by omega, if_false]
    rw [decide_eq_true (show 1 ≤ l.length by omega), Bool.true_and]
    by_cases h16 : l.length > 16
    · rw [decide_eq_false (show ¬ l.length ≤ 16 by omega), Bool.false_and]
      exact Ev.step (f := fun _ => some false) (fun k => by simp only [impl_ValidImage.j0]; rw [if_pos (decide_eq_true (by omega))]) (Ev.now _)
    · rw [decide_eq_true (show l.length ≤ 16 by omega), Bool.true_and]
      refine Ev.step (f := fun k => impl_ValidImage.l0 k l l l.length 0) (fun k => by simp only [impl_ValidImage.j0]; rw [if_neg (by simp; omega)]) ?_
      have key := ev_all (fun k i => impl_ValidImage.l0 k l l l.length i) l [] (rowOk l) false true (fun i hi hp s hs => ?_) (fun i hi hp => ?_) ?_
      · revert key
        cases l.all (rowOk l) <;> exact id
      · have ur : rd_L1 l i = l.getD i [] := by unfold rd_L1; rw [Int.toNat_natCast]
        have u0 : rd_L1 l 0 = l.getD 0 [] := rfl
        have hll := hlen _ (getD_mem [] hi)
        simp only [rowOk, Bool.and_eq_true, decide_eq_true_eq] at hp
        obtain ⟨p1, p2, p3, p4⟩ := hp
        refine Ev.step (fun k => ?_) hs
        simp only [impl_ValidImage.l0]
        rw [if_pos (by omega), if_pos (by omega), if_pos (by omega), ur, u0, if_neg (by omega), if_neg (by omega), if_pos (by omega), if_pos (by omega)]
        unfold impl_allWithin.f
        rw [if_pos (by omega), p4]
        simp only [Option.bind_some, if_true]
        rw [w64 (by omega) (by omega)]
        rfl
      · have ur : rd_L1 l i = l.getD i [] := by unfold rd_L1; rw [Int.toNat_natCast]
        have u0 : rd_L1 l 0 = l.getD 0 [] := rfl
        have hll := hlen _ (getD_mem [] hi)
        refine Ev.step (f := fun _ => some false) (fun k => ?_) (Ev.now _)
        simp only [impl_ValidImage.l0]
        rw [if_pos (by omega), if_pos (by omega), if_pos (by omega), ur, u0]
        by_cases g1 : (l.getD i []).length < 1
        · rw [if_pos (by omega)]
        · rw [if_neg (by omega)]
          by_cases g2 : (l.getD i []).length > 16
          · rw [if_pos (by omega)]
          · rw [if_neg (by omega), if_pos (by omega)]
            by_cases g3 : (l.getD i []).length = (l.getD 0 []).length
            · have g4 : (l.getD i []).all (inB (-5000) 20000) = false := by
                simp only [rowOk] at hp
                rw [decide_eq_true (by omega), decide_eq_true (by omega), decide_eq_true g3] at hp
                simpa using hp
              rw [if_pos (by omega)]
              unfold impl_allWithin.f
              rw [if_pos (by omega), g4]
              rfl
            · rw [if_neg (by omega)]
      · refine Ev.step (f := fun _ => some true) (fun k => ?_) (Ev.now _)
        simp only [impl_ValidImage.l0]
        rw [if_neg (by omega)]

theorem imgOk_facts {l : List (List Int)} (h : imgOk l = true) : 1 ≤ l.length ∧ l.length ≤ 16 ∧ ∀ i, i < l.length → (l.getD i []).length = (l.getD 0 []).length ∧ 1 ≤ (l.getD i []).length ∧ (l.getD i []).length ≤ 16 ∧ ∀ j, j < (l.getD i []).length → -5000 ≤ (l.getD i []).getD j 0 ∧ (l.getD i []).getD j 0 ≤ 20000 := by
  simp only [imgOk, Bool.and_eq_true, decide_eq_true_eq, List.all_eq_true] at h
  refine ⟨h.1, h.2.1, fun i hi => ?_⟩
  have hr := h.2.2 _ (getD_mem [] hi)
  simp only [rowOk, Bool.and_eq_true, decide_eq_true_eq, List.all_eq_true] at hr
  refine ⟨hr.2.2.1, hr.1, hr.2.1, fun j hj => ?_⟩
  have := hr.2.2.2 _ (getD_mem 0 hj)
  simpa [inB] using this
theorem imgOk_rows {l : List (List Int)} (h : imgOk l = true) : ∀ x ∈ l, x.length = (l.getD 0 []).length ∧ 1 ≤ x.length ∧ x.length ≤ 16 ∧ ∀ y ∈ x, -5000 ≤ y ∧ y ≤ 20000 := by
  simp only [imgOk, Bool.and_eq_true, decide_eq_true_eq, List.all_eq_true] at h
  intro x hx
  have hr := h.2.2 x hx
  simp only [rowOk, Bool.and_eq_true, decide_eq_true_eq, List.all_eq_true] at hr
  exact ⟨hr.2.2.1, hr.1, hr.2.1, fun y hy => by simpa [inB] using hr.2.2.2 y hy⟩
theorem rdL (l : List (List Int)) (i : Nat) : rd_L1 l i = l.getD i [] := by unfold rd_L1; rw [Int.toNat_natCast]
theorem flat_len : ∀ (l : List (List Int)) (c : Nat), (∀ x ∈ l, x.length = c) → l.flatten.length = l.length * c
  | [], c, _ => by simp
  | x :: xs, c, h => by
    rw [List.flatten_cons, List.length_append, flat_len xs c (fun y hy => h y (List.mem_cons_of_mem _ hy)), h x List.mem_cons_self, List.length_cons, Nat.add_mul]
    omega
theorem imgOk_flat {l : List (List Int)} (h : imgOk l = true) : l.flatten.length = l.length * (l.getD 0 []).length ∧ 1 ≤ l.flatten.length ∧ l.flatten.length ≤ 256 ∧ ∀ y ∈ l.flatten, -5000 ≤ y ∧ y ≤ 20000 := by
  obtain ⟨h1, h2, hf⟩ := imgOk_facts h
  have hr := imgOk_rows h
  have e := flat_len l _ (fun x hx => (hr x hx).1)
  have f0 := hf 0 (by omega)
  have a1 : 1 * 1 ≤ l.length * (l.getD 0 []).length := Nat.mul_le_mul h1 f0.2.1
  have a2 : l.length * (l.getD 0 []).length ≤ 16 * 16 := Nat.mul_le_mul h2 f0.2.2.1
  refine ⟨e, by omega, by omega, fun y hy => ?_⟩
  obtain ⟨x, hx, hyx⟩ := List.mem_flatten.1 hy
  exact (hr x hx).2.2.2 y hyx

theorem foldl_take_succ {α σ : Type} (g : σ → α → σ) (xs : List α) (d : α) (s0 : σ) {i : Nat} (h : i < xs.length) : (xs.take (i + 1)).foldl g s0 = g ((xs.take i).foldl g s0) (xs.getD i d) := by
  rw [take_succ_getD xs d h, List.foldl_append]; rfl
/-- A loop that folds a list. -/
theorem ev_fold {α σ ρ : Type} (L : Nat → σ → Int → Option ρ) (xs : List α) (d : α) (g : σ → α → σ) (I : Nat → σ → Prop) (r : ρ) (s0 : σ) (h0 : I 0 s0)
    (step : ∀ i s, i < xs.length → I i s → I (i + 1) (g s (xs.getD i d)) ∧ (Ev (fun k => L k (g s (xs.getD i d)) ((i + 1 : Nat) : Int)) r → Ev (fun k => L k s (i : Int)) r))
    (fin : I xs.length (xs.foldl g s0) → Ev (fun k => L k (xs.foldl g s0) (xs.length : Int)) r) : Ev (fun k => L k s0 0) r := by
  have key : ∀ (m i : Nat), i + m = xs.length → I i ((xs.take i).foldl g s0) → Ev (fun k => L k ((xs.take i).foldl g s0) (i : Int)) r := by
    intro m
    induction m with
    | zero =>
      intro i hi hI
      have : i = xs.length := by omega
      subst this
      rw [List.take_length] at hI ⊢
      exact fin hI
    | succ m ih =>
      intro i hi hI
      obtain ⟨h1, h2⟩ := step i _ (by omega) hI
      have := ih (i + 1) (by omega)
      rw [foldl_take_succ g xs d s0 (by omega)] at this
      exact h2 (this h1)
  exact key xs.length 0 (by omega) h0

/-- The nearest quotient by a positive number, halves away from 0. -/
def rdiv (a b : Int) : Int := if a < 0 then -((b - 2 * a) / (2 * b)) else (2 * a + b) / (2 * b)
theorem rdiv_le {a b : Int} (hb : 0 < b) {m : Int} (h0 : -m ≤ a) (h1 : a ≤ m) : -m ≤ rdiv a b ∧ rdiv a b ≤ m := by
  unfold rdiv
  have key : ∀ c : Int, 0 ≤ c → 0 ≤ (2 * c + b) / (2 * b) ∧ (2 * c + b) / (2 * b) ≤ c ∨ c = 0 := by
    intro c hc
    by_cases h : c = 0
    · exact .inr h
    · refine .inl ⟨Int.ediv_nonneg (by omega) (by omega), ?_⟩
      have : (2 * c + b) / (2 * b) < c + 1 := Int.ediv_lt_of_lt_mul (by omega) (by
        have h2 : c * 1 ≤ c * b := Int.mul_le_mul_of_nonneg_left (by omega) hc
        have e : (c + 1) * (2 * b) = 2 * (c * b) + 2 * b := by rw [Int.add_mul, Int.one_mul]; congr 1; rw [← Int.mul_assoc, Int.mul_comm c 2, Int.mul_assoc]
        rw [e]; omega)
      omega
  have z : (2 * 0 + b) / (2 * b) = 0 := Int.ediv_eq_zero_of_lt (by omega) (by omega)
  split
  · have e : b - 2 * a = 2 * (-a) + b := by omega
    rw [e]
    rcases key (-a) (by omega) with h | h
    · omega
    · omega
  · rcases key a (by omega) with h | h
    · omega
    · rw [h, z]; omega

theorem specDiv_eq (a b : Int) (hb : 0 < b) (hb1 : b ≤ 1152921504606846976) (h0 : -1152921504606846976 ≤ a) (h1 : a ≤ 1152921504606846976) : spec_l01Div.f a b = some (rdiv a b) := by
  unfold spec_l01Div.f rdiv
  rw [if_neg (by omega)]
  have q : ∀ c : Int, 0 ≤ c → c ≤ 4611686018427387904 → 0 ≤ c / (2 * b) ∧ c / (2 * b) ≤ 4611686018427387904 := fun c hc hc' =>
    ⟨Int.ediv_nonneg hc (by omega), Int.le_trans (Int.ediv_le_self _ hc) hc'⟩
  by_cases h : a < 0
  · rw [if_pos h, if_pos h, w64 (x := 2 * b) (by omega) (by omega), w64 (x := 2 * a) (by omega) (by omega), w64 (x := b - 2 * a) (by omega) (by omega), if_neg (by omega),
      Int.tdiv_eq_ediv_of_nonneg (by omega)]
    have := q (b - 2 * a) (by omega) (by omega)
    rw [w64 (x := (b - 2 * a) / (2 * b)) (by omega) (by omega), w64 (by omega) (by omega)]
  · rw [if_neg h, if_neg h, w64 (x := 2 * b) (by omega) (by omega), w64 (x := 2 * a) (by omega) (by omega), w64 (x := 2 * a + b) (by omega) (by omega), if_neg (by omega),
      Int.tdiv_eq_ediv_of_nonneg (by omega)]
    have := q (2 * a + b) (by omega) (by omega)
    rw [w64 (by omega) (by omega)]

theorem half_up (b q r : Int) (hb : 0 < b) (h0 : 0 ≤ r) (h1 : r < b) : (2 * (b * q + r) + b) / (2 * b) = if r ≥ b - r then q + 1 else q := by
  have e : 2 * (b * q + r) + b = (2 * r + b) + (2 * b) * q := by rw [Int.mul_add, Int.mul_assoc]; omega
  rw [e, Int.add_mul_ediv_left _ _ (by omega)]
  split
  · have : (2 * r + b) / (2 * b) = 1 := by
      have a1 : (2 * r + b) / (2 * b) < 2 := Int.ediv_lt_of_lt_mul (by omega) (by omega)
      have a2 : 1 ≤ (2 * r + b) / (2 * b) := Int.le_ediv_of_mul_le (by omega) (by omega)
      omega
    omega
  · have : (2 * r + b) / (2 * b) = 0 := Int.ediv_eq_zero_of_lt (by omega) (by omega)
    omega
theorem implDiv_eq (a b : Int) (hb : 0 < b) (hb1 : b ≤ 1152921504606846976) (h0 : -1152921504606846976 ≤ a) (h1 : a ≤ 1152921504606846976) : impl_divRound.f a b = some (rdiv a b) := by
  have mxab : ∀ c : Int, 0 ≤ c → c ≤ 4611686018427387904 → impl_abs.f c = some c ∧ impl_abs.f (-c) = some c := by
    intro c hc hc'
    unfold impl_abs.f mx
    refine ⟨?_, ?_⟩
    · rw [w64 (by omega) (by omega), if_neg (by omega)]
    · rw [Int.neg_neg, w64 (by omega) (by omega)]
      split
      · rfl
      · congr 1; omega
  unfold impl_divRound.f
  rw [if_neg (by omega)]
  by_cases h : a < 0
  · obtain ⟨c, rfl⟩ : ∃ c : Int, a = -c := ⟨-a, by omega⟩
    have hr0 : 0 ≤ c % b := Int.emod_nonneg _ (by omega)
    have hr1 : c % b < b := Int.emod_lt_of_pos _ hb
    have hq0 : 0 ≤ c / b := Int.ediv_nonneg (by omega) (by omega)
    have hq1 : c / b ≤ c := Int.ediv_le_self _ (by omega)
    have hm : Int.tmod (-c) b = -(c % b) := by rw [Int.neg_tmod, Int.tmod_eq_emod_of_nonneg (by omega)]
    have hd : Int.tdiv (-c) b = -(c / b) := by rw [Int.neg_tdiv, Int.tdiv_eq_ediv_of_nonneg (by omega)]
    have hcb : 2 * c + b = 2 * (b * (c / b) + c % b) + b := by have := Int.mul_ediv_add_emod c b; omega
    rw [hm, hd, (mxab _ hr0 (by omega)).2, (mxab b (by omega) (by omega)).1]
    simp only [Option.bind_some]
    rw [w64 (x := b - c % b) (by omega) (by omega), w64 (x := -(c / b)) (by omega) (by omega)]
    unfold rdiv
    rw [if_pos h, show b - 2 * (-c) = 2 * c + b by omega, hcb, half_up b (c / b) (c % b) hb hr0 hr1]
    split
    · rw [if_neg (by simp only [decide_eq_true h, decide_eq_false (show ¬ b < 0 by omega)]; decide), w64 (by omega) (by omega)]
      congr 1; omega
    · rfl
  · have hr0 : 0 ≤ a % b := Int.emod_nonneg _ (by omega)
    have hr1 : a % b < b := Int.emod_lt_of_pos _ hb
    have hq0 : 0 ≤ a / b := Int.ediv_nonneg (by omega) (by omega)
    have hq1 : a / b ≤ a := Int.ediv_le_self _ (by omega)
    have hcb : 2 * a + b = 2 * (b * (a / b) + a % b) + b := by have := Int.mul_ediv_add_emod a b; omega
    rw [Int.tmod_eq_emod_of_nonneg (by omega), Int.tdiv_eq_ediv_of_nonneg (by omega), (mxab _ hr0 (by omega)).1, (mxab b (by omega) (by omega)).1]
    simp only [Option.bind_some]
    rw [w64 (x := b - a % b) (by omega) (by omega), w64 (x := a / b) (by omega) (by omega)]
    unfold rdiv
    rw [if_neg h, hcb, half_up b (a / b) (a % b) hb hr0 hr1]
    split
    · rw [if_pos (by simp only [decide_eq_false h, decide_eq_false (show ¬ b < 0 by omega)]; decide), w64 (by omega) (by omega)]
    · rfl

def valAt (l : List (List Int)) (x : S44) : Int := (l.getD x.f0.toNat []).getD x.f1.toNat 0
def nSum (l : List (List Int)) (r c : Int) (i : Nat) : Int := (nearL l r c i).foldl (fun s x => s + valAt l x) 0
def nCnt (l : List (List Int)) (r c : Int) (i : Nat) : Int := (nearL l r c i).length
def smCell (l : List (List Int)) (r c : Nat) : Int := rdiv ((l.getD r []).getD c 0 + nSum l r c 4) (1 + nCnt l r c 4)
def smRow (l : List (List Int)) (r : Nat) : List Int := (List.range (l.getD r []).length).map (smCell l r)
def smooth (l : List (List Int)) : List (List Int) × Int := if imgOk l = true then ((List.range l.length).map (smRow l), 0) else ([], 1)
theorem nearB_iff {l : List (List Int)} {y z : Int} : nearB l y z = true ↔ 0 ≤ y ∧ y < (l.length : Int) ∧ 0 ≤ z ∧ z < ((l.getD 0 []).length : Int) := by
  simp [nearB]
theorem near_val {l : List (List Int)} (h : imgOk l = true) {x : S44} (hx : nearB l x.f0 x.f1 = true) : x.f0.toNat < l.length ∧ x.f1.toNat < (l.getD x.f0.toNat []).length ∧ -5000 ≤ valAt l x ∧ valAt l x ≤ 20000 := by
  obtain ⟨h1, h2, hf⟩ := imgOk_facts h
  obtain ⟨a1, a2, a3, a4⟩ := nearB_iff.1 hx
  have g := hf x.f0.toNat (by omega)
  have g2 := g.2.2.2 x.f1.toNat (by omega)
  exact ⟨by omega, by omega, g2.1, g2.2⟩
theorem nSum_succ (l : List (List Int)) (r c : Int) (i : Nat) : nSum l r c (i + 1) = nSum l r c i + (if nearB l (r + (besT i).1) (c + (besT i).2) = true then valAt l ⟨r + (besT i).1, c + (besT i).2⟩ else 0) := by
  unfold nSum
  rw [nearL_succ, List.foldl_append]
  split
  · rfl
  · simp
theorem nCnt_succ (l : List (List Int)) (r c : Int) (i : Nat) : nCnt l r c (i + 1) = nCnt l r c i + (if nearB l (r + (besT i).1) (c + (besT i).2) = true then 1 else 0) := by
  unfold nCnt
  rw [nearL_succ, List.length_append]
  split
  · simp
  · simp
theorem nBound {l : List (List Int)} (h : imgOk l = true) (r c : Int) : ∀ i : Nat, -(i * 20000) ≤ nSum l r c i ∧ nSum l r c i ≤ i * 20000 ∧ 0 ≤ nCnt l r c i ∧ nCnt l r c i ≤ i
  | 0 => by simp [nSum, nCnt, nearL]
  | i + 1 => by
    have ih := nBound h r c i
    rw [nSum_succ, nCnt_succ]
    split
    · rename_i hx
      have := near_val h (x := ⟨r + (besT i).1, c + (besT i).2⟩) hx
      omega
    · omega
def posL (r c : Int) : List (List Int) := [[r - 1, c], [r, c - 1], [r, c + 1], [r + 1, c]]
theorem posL_at (r c : Int) : ∀ i : Nat, i < 4 → (posL r c).getD i [] = [r + (besT i).1, c + (besT i).2] := by
  intro i hi
  match i, hi with
  | 0, _ => show [r - 1, c] = [r + -1, c + 0]; congr 1; congr 1; omega
  | 1, _ => show [r, c - 1] = [r + 0, c + -1]; congr 1; omega
  | 2, _ => show [r, c + 1] = [r + 0, c + 1]; congr 1; omega
  | 3, _ => show [r + 1, c] = [r + 1, c + 0]; congr 1; congr 1; omega
theorem rdL2 (l : List (List Int)) (i : Nat) : rd_L2 l i = l.getD i [] := by unfold rd_L2; rw [Int.toNat_natCast]
theorem rdLi (l : List (List Int)) (i : Int) : rd_L1 l i = l.getD i.toNat [] := rfl
theorem besT_b : ∀ i : Nat, -1 ≤ (besT i).1 ∧ (besT i).1 ≤ 1 ∧ -1 ≤ (besT i).2 ∧ (besT i).2 ≤ 1 := by
  intro i
  match i with
  | 0 => decide
  | 1 => decide
  | 2 => decide
  | n + 3 => exact ⟨by show (-1 : Int) ≤ 1; decide, by show (1 : Int) ≤ 1; decide, by show (-1 : Int) ≤ 0; decide, by show (0 : Int) ≤ 1; decide⟩
theorem spec_sum (l : List (List Int)) (h : imgOk l = true) (acc : List (List Int)) (r c : Nat) (hr : r < l.length) (hc : c < (l.getD r []).length) (row : List Int) (res : List (List Int) × Int)
    (hrow : row.length ≤ 16)
    (fin : Ev (fun k => spec_SmoothImage.l1 k l acc r (row ++ [smCell l r c]) ((c + 1 : Nat) : Int)) res) :
    Ev (fun k => spec_SmoothImage.l2 k l acc r row c ((l.getD r []).getD c 0) 1 (posL r c) 0) res := by
  obtain ⟨h1, h2, hf⟩ := imgOk_facts h
  have g := hf r hr
  have gc := g.2.2.2 c hc
  have hb := nBound h r c
  have key : ∀ m i : Nat, i + m = 4 → Ev (fun k => spec_SmoothImage.l2 k l acc r row c ((l.getD r []).getD c 0 + nSum l r c i) (1 + nCnt l r c i) (posL r c) i) res := by
    intro m
    induction m with
    | zero =>
      intro i hi
      have : i = 4 := by omega
      subst this
      have hb4 := hb 4
      refine Ev.step (fun k => ?_) fin
      simp only [spec_SmoothImage.l2]
      rw [if_neg (by omega), specDiv_eq _ _ (by omega) (by omega) (by omega) (by omega)]
      simp only [Option.bind_some]
      rw [if_pos (by omega), w64 (by omega) (by omega)]
      rfl
    | succ m ih =>
      intro i hi
      have ih := ih (i + 1) (by omega)
      have hbi := hb i
      have hbt := besT_b i
      rw [nSum_succ, nCnt_succ] at ih
      refine Ev.step (fun k => ?_) ih
      simp only [spec_SmoothImage.l2]
      have e : rd_L2 (posL r c) i = [(r : Int) + (besT i).1, c + (besT i).2] := by rw [rdL2, posL_at _ _ _ (by omega)]
      rw [if_pos (by omega), if_pos (by omega), if_pos (by simp [posL]; omega), e]
      simp only [List.length_cons, List.length_nil]
      rw [if_pos (by decide), if_pos (by decide)]
      have e0 : rd [(r : Int) + (besT i).1, c + (besT i).2] 0 = r + (besT i).1 := rfl
      have e1 : rd [(r : Int) + (besT i).1, c + (besT i).2] 1 = c + (besT i).2 := rfl
      rw [e0, e1, w64 (x := (i : Int) + 1) (by omega) (by omega), show rd_L1 l 0 = l.getD 0 [] from rfl]
      by_cases hx : nearB l (r + (besT i).1) (c + (besT i).2) = true
      · rw [if_pos hx, if_pos hx]
        have hv := near_val h (x := ⟨(r : Int) + (besT i).1, c + (besT i).2⟩) hx
        obtain ⟨a1, a2, a3, a4⟩ := nearB_iff.1 hx
        have hv2 := hv.2.1
        simp only at hv2
        rw [if_pos a1, if_pos a2, if_pos a3, if_pos (by omega), if_pos a4, if_pos a1, if_pos a3, rdLi, if_pos (by omega)]
        have ev : rd (l.getD ((r : Int) + (besT i).1).toNat []) (c + (besT i).2) = valAt l ⟨(r : Int) + (besT i).1, c + (besT i).2⟩ := rfl
        rw [ev, w64 (by omega) (by omega), w64 (by omega) (by omega)]
        simp only [Int.add_assoc]
        rfl
      · rw [if_neg hx, if_neg hx, Int.add_zero, Int.add_zero]
        rw [nearB_iff] at hx
        by_cases a1 : 0 ≤ (r : Int) + (besT i).1
        · rw [if_pos a1]
          by_cases a2 : (r : Int) + (besT i).1 < (l.length : Int)
          · rw [if_pos a2]
            by_cases a3 : 0 ≤ (c : Int) + (besT i).2
            · rw [if_pos a3, if_pos (by omega), if_neg (by omega)]
              rfl
            · rw [if_neg a3]
              rfl
          · rw [if_neg a2]
            rfl
        · rw [if_neg a1]
          rfl
  have k0 := key 4 0 rfl
  have z1 : nSum l r c 0 = 0 := rfl
  have z2 : nCnt l r c 0 = 0 := rfl
  rw [z1, z2, Int.add_zero, Int.add_zero] at k0
  exact k0
theorem spec_build (l : List (List Int)) (h : imgOk l = true) : Ev (fun k => spec_SmoothImage.l0 k l [] 0) ((List.range l.length).map (smRow l), 0) := by
  obtain ⟨h1, h2, hf⟩ := imgOk_facts h
  refine ev_build (fun k acc i => spec_SmoothImage.l0 k l acc i) l.length (smRow l) _ (fun i acc hi hacc _ hs => ?_) ?_
  · have g := hf i hi
    refine Ev.step (f := fun k => spec_SmoothImage.l1 k l acc i [] 0) (fun k => by simp only [spec_SmoothImage.l0]; rw [if_pos (by omega)]) ?_
    refine ev_build (fun k row j => spec_SmoothImage.l1 k l acc i row j) (l.getD i []).length (smCell l i) _ (fun j row hj hrow _ hs2 => ?_) ?_
    · refine Ev.step (fun k => ?_) (spec_sum l h acc i j hi hj row _ (by omega) hs2)
      simp only [spec_SmoothImage.l1]
      rw [if_pos (by omega), if_pos (by omega), rdL, if_pos (by omega), if_pos (by omega), rd_nat, w64 (by omega) (by omega), w64 (by omega) (by omega), w64 (by omega) (by omega), w64 (by omega) (by omega)]
      rfl
    · refine Ev.step (fun k => ?_) hs
      simp only [spec_SmoothImage.l1]
      rw [if_pos (by omega), if_pos (by omega), rdL, if_neg (by omega), if_pos (by omega), w64 (by omega) (by omega)]
      rfl
  · refine Ev.step (f := fun _ => some ((List.range l.length).map (smRow l), 0)) (fun k => ?_) (Ev.now _)
    simp only [spec_SmoothImage.l0]
    rw [if_neg (by omega)]
theorem set_self (l : List Int) (i : Nat) (d : Int) (h : i < l.length) : l.set i (l.getD i d) = l := by
  rw [getD_lt d h, List.set_getElem_self]
theorem getD_set (l : List Int) (i : Nat) (d v : Int) (h : i < l.length) : (l.set i v).getD i d = v := by
  rw [getD_lt d (by simpa using h), List.getElem_set_self]
theorem rdT (xs : List S44) (i : Nat) : rd_T44 xs i = xs.getD i z44 := by unfold rd_T44; rw [Int.toNat_natCast]
theorem mem_near {l : List (List Int)} {r c : Int} {i : Nat} {x : S44} (h : x ∈ nearL l r c i) : nearB l x.f0 x.f1 = true := by
  unfold nearL at h
  exact (List.mem_filter.1 h).2
theorem impl_sum (l : List (List Int)) (h : imgOk l = true) (acc : List (List Int)) (r c : Nat) (hr : r < l.length) (hc : c < (l.getD r []).length) (row : List Int) (res : List (List Int) × Int)
    (hrow : row.length = (l.getD r []).length) (hcell : row.getD c 0 = (l.getD r []).getD c 0)
    (fin : Ev (fun k => impl_SmoothImage.l1 k l acc r (row.set c (smCell l r c)) l.length r (l.getD r []).length ((c + 1 : Nat) : Int)) res) :
    Ev (fun k => impl_SmoothImage.l2 k l acc r row c (nearL l r c 4) l.length r (l.getD r []).length c (nearL l r c 4) (nearL l r c 4).length 0) res := by
  obtain ⟨h1, h2, hf⟩ := imgOk_facts h
  have g := hf r hr
  have gc := g.2.2.2 c hc
  have hb := nBound h r c 4
  have hlen := nearL_len l r c 4
  have hcr : c < row.length := by omega
  have key := ev_fold (fun k s i => impl_SmoothImage.l2 k l acc r (row.set c s) c (nearL l r c 4) l.length r (l.getD r []).length c (nearL l r c 4) (nearL l r c 4).length i) (nearL l r c 4) z44 (fun s x => s + valAt l x) (fun i s => -(i * 20000) - 20000 ≤ s ∧ s ≤ i * 20000 + 20000) res ((l.getD r []).getD c 0) (by omega) (fun i s hi hI => ⟨?_, fun hs => ?_⟩) (fun hI => ?_)
  · rw [← hcell, set_self row c 0 hcr] at key
    exact key
  · have := near_val h (mem_near (getD_mem z44 hi))
    omega
  · have hm := mem_near (getD_mem z44 hi)
    have hv := near_val h hm
    obtain ⟨a1, a2, a3, a4⟩ := nearB_iff.1 hm
    refine Ev.step (fun k => ?_) hs
    simp only [impl_SmoothImage.l2]
    rw [rdT]
    rw [if_pos (by omega), if_pos (by omega), if_pos (by omega), if_pos (by omega), if_pos (by rw [List.length_set]; omega), if_pos a1, if_pos a2, if_pos a3, rdLi, if_pos (by omega), rd_nat, getD_set _ _ _ _ hcr, Int.toNat_natCast, List.set_set]
    have ev : rd (l.getD ((nearL l r c 4).getD i z44).f0.toNat []) ((nearL l r c 4).getD i z44).f1 = valAt l ((nearL l r c 4).getD i z44) := rfl
    rw [ev, w64 (by omega) (by omega), w64 (by omega) (by omega)]
    rfl
  · refine Ev.step (fun k => ?_) fin
    simp only [impl_SmoothImage.l2]
    have e : (nearL l r c 4).foldl (fun s x => s + valAt l x) ((l.getD r []).getD c 0) = (l.getD r []).getD c 0 + nSum l r c 4 := by
      unfold nSum
      have gen : ∀ (xs : List S44) (s t : Int), xs.foldl (fun s x => s + valAt l x) (s + t) = s + xs.foldl (fun s x => s + valAt l x) t := by
        intro xs
        induction xs with
        | nil => intro s t; rfl
        | cons x xs ih => intro s t; rw [List.foldl_cons, List.foldl_cons, Int.add_assoc]; exact ih s _
      have := gen (nearL l r c 4) ((l.getD r []).getD c 0) 0
      rwa [Int.add_zero] at this
    rw [e] at hI ⊢
    rw [if_neg (by omega), if_pos (by omega), if_pos (by rw [List.length_set]; omega), rd_nat, getD_set _ _ _ _ hcr, w64 (x := ((nearL l r c 4).length : Int) + 1) (by omega) (by omega), implDiv_eq _ _ (by omega) (by omega) (by omega) (by omega)]
    simp only [Option.bind_some]
    rw [Int.toNat_natCast, List.set_set, w64 (by omega) (by omega)]
    unfold smCell nCnt
    rw [Int.add_comm 1 ((nearL l r c 4).length : Int)]
    rfl
theorem impl_build (l : List (List Int)) (h : imgOk l = true) : Ev (fun k => impl_SmoothImage.l0 k l [] l.length 0) ((List.range l.length).map (smRow l), 0) := by
  obtain ⟨h1, h2, hf⟩ := imgOk_facts h
  refine ev_build (fun k acc i => impl_SmoothImage.l0 k l acc l.length i) l.length (smRow l) _ (fun i acc hi hacc _ hs => ?_) ?_
  · have g := hf i hi
    refine Ev.step (f := fun k => impl_SmoothImage.l1 k l acc i (l.getD i []) l.length i (l.getD i []).length 0) (fun k => ?_) ?_
    · simp only [impl_SmoothImage.l0]
      rw [if_pos (by omega), if_pos (by omega), if_pos (by omega), rdL]
      unfold slices_Clone_int64_int64.f
      rw [if_pos (by omega)]
      rfl
    · refine ev_fill (fun k row j => impl_SmoothImage.l1 k l acc i row l.length i (l.getD i []).length j) (l.getD i []) 0 (smCell l i) _ (fun j row hj hrow hget hs2 => ?_) ?_
      · refine Ev.step (fun k => ?_) (impl_sum l h acc i j hi hj row _ hrow hget hs2)
        simp only [impl_SmoothImage.l1]
        unfold impl_besides.f
        rw [if_pos (by omega), if_pos (by omega)]
        rfl
      · refine Ev.step (fun k => ?_) hs
        simp only [impl_SmoothImage.l1]
        rw [if_neg (by omega), if_pos (by omega), w64 (by omega) (by omega)]
        rfl
  · refine Ev.step (f := fun _ => some ((List.range l.length).map (smRow l), 0)) (fun k => ?_) (Ev.now _)
    simp only [impl_SmoothImage.l0]
    rw [if_neg (by omega)]
theorem spec_ev (l : List (List Int)) : Ev (fun k => spec_SmoothImage.f k l) (smooth l) := by
  unfold spec_SmoothImage.f
  refine Ev.bind (specOk_ev l) ?_
  cases h : imgOk l with
  | false =>
    simp only [Bool.false_eq_true, if_false]
    unfold smooth
    rw [h]
    exact Ev.now _
  | true =>
    simp only [if_true]
    unfold smooth
    rw [if_pos h]
    exact spec_build l h
theorem impl_ev (l : List (List Int)) (o : ∀ x ∈ l, x.length ≤ 1048576) : Ev (fun k => impl_SmoothImage.f k l) (smooth l) := by
  unfold impl_SmoothImage.f
  refine Ev.bind (implOk_ev l o) ?_
  cases h : imgOk l with
  | false =>
    simp only [Bool.false_eq_true, if_false]
    unfold smooth
    rw [h]
    exact Ev.now _
  | true =>
    simp only [if_true]
    unfold smooth
    rw [if_pos h]
    exact impl_build l h
theorem smooth_ok (l : List (List Int)) : okInt64SS (smooth l).1 := by
  unfold smooth
  split
  · rename_i h
    obtain ⟨a1, a2, af⟩ := imgOk_facts h
    refine ⟨by simp; omega, fun x hx => ?_⟩
    obtain ⟨i, hi, rfl⟩ := List.mem_map.1 hx
    have := af i (by simpa using hi)
    simp [smRow]
    simp at this
    omega
  · exact ⟨by simp, fun x hx => by cases hx⟩
theorem core : ∀ (l0 : List (List Int)) (w0 : l0.length ≤ maxLen ∧ ∀ x0 ∈ l0, x0.length ≤ maxLen ∧ ∀ x1 ∈ x0, (Lit.int .i64 x1).wf = true) (o0 : okInt64SS l0), ∃ (r1 : List (List Int)) (r2 : Int), Ev (fun k => spec_SmoothImage.f k l0) (r1, r2) ∧ Ev (fun k => impl_SmoothImage.f k l0) (r1, r2) ∧ okInt64SS r1 := by
  intro l0 w0 o0
  exact ⟨(smooth l0).1, (smooth l0).2, spec_ev l0, impl_ev l0 o0.2, smooth_ok l0⟩

end Go.Proofs.Ytfnheijpgldlcab.Pure
