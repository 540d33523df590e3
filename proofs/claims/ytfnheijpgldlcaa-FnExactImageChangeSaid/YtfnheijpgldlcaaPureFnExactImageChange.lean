/- The program's ImageChange returns what the reference's returns, for all arguments. No condition beyond the statement's own. -/
import Derived.Test.YtfnheijpgldlcaaPFnExactImageChangex0
import Derived.Test.YtfnheijpgldlcaaPFnExactImageChangex1
import Derived.Test.YtfnheijpgldlcaaPFnExactImageChangex2
import Derived.Test.YtfnheijpgldlcaaPFnExactImageChangex3
import Derived.Test.YtfnheijpgldlcaaPFnExactImageChangex4
import Derived.Test.YtfnheijpgldlcaaPFnExactImageChangex5
namespace Go.Proofs.Ytfnheijpgldlcaa.Pure
open Go.RowKit Go.Proofs.Ytfnheijpgldlcaa.PFnExactImageChange Go.Proofs.YtfnheijpgldlcaaW.PrintWords Go.Proofs.YtfnheijpgldlcaaW.PrintLast Go.Proofs.YtfnheijpgldlcaaW.PrintMore
set_option linter.unusedVariables false
set_option linter.unusedSimpArgs false

theorem w64 {x : Int} (h0 : -9223372036854775808 ≤ x) (h1 : x ≤ 9223372036854775807) : wrap64 x = x := by unfold wrap64; omega
theorem rd_nat (l : List Int) (i : Nat) : rd l (i : Int) = l.getD i 0 := by unfold rd; rw [Int.toNat_natCast]
theorem getD_mem {α : Type} {l : List α} {i : Nat} (d : α) (h : i < l.length) : l.getD i d ∈ l := by
  rw [List.getD_eq_getElem?_getD, List.getElem?_eq_getElem h]; exact List.getElem_mem _
theorem getD_lt {α : Type} {l : List α} {i : Nat} (d : α) (h : i < l.length) : l.getD i d = l[i] := by
  rw [List.getD_eq_getElem?_getD, List.getElem?_eq_getElem h]; rfl
theorem take_succ_getD {α : Type} (l : List α) (d : α) {i : Nat} (h : i < l.length) : l.take (i + 1) = l.take i ++ [l.getD i d] := by
  rw [List.take_succ_eq_append_getElem h, getD_lt d h]
/-- A loop that copies a list, element by element. -/
theorem ev_copy {α : Type} (L : Nat → List α → List α → Int → Option (List α)) (xs : List α) (d d' : α)
    (step : ∀ ys i, i < xs.length → ys.length = xs.length → ∀ r, Ev (fun k => L k xs (ys.set i (xs.getD i d)) ((i + 1 : Nat) : Int)) r → Ev (fun k => L k xs ys (i : Int)) r)
    (fin : ∀ ys, Ev (fun k => L k xs ys (xs.length : Int)) ys) : Ev (fun k => L k xs (List.replicate xs.length d') 0) xs := by
  have key : ∀ (m i : Nat) (ys : List α), i + m = xs.length → ys.length = xs.length → (∀ j, j < i → ys[j]? = xs[j]?) → Ev (fun k => L k xs ys (i : Int)) xs := by
    intro m
    induction m with
    | zero =>
      intro i ys hi hl hj
      have e : ys = xs := List.ext_getElem? (fun j => by
        by_cases h : j < xs.length
        · exact hj j (by omega)
        · rw [List.getElem?_eq_none (by omega), List.getElem?_eq_none (by omega)])
      have : i = xs.length := by omega
      subst this
      rw [e]
      exact fin xs
    | succ m ih =>
      intro i ys hi hl hj
      refine step ys i (by omega) hl xs (ih (i + 1) _ (by omega) (by rw [List.length_set]; exact hl) (fun j hjj => ?_))
      by_cases h : j = i
      · subst h
        rw [List.getElem?_set_self (by omega), getD_lt d (by omega), List.getElem?_eq_getElem (by omega)]
      · rw [List.getElem?_set_ne (by omega)]
        exact hj j (by omega)
  exact key xs.length 0 _ (by omega) (List.length_replicate ..) (fun j hj => absurd hj (Nat.not_lt_zero _))
/-- A loop that compares two lists. -/
theorem ev_eq {α : Type} (L : Nat → List α → List α → Int → Option Bool) (xs : List α) 
    (step : ∀ i, i < xs.length → Ev (fun k => L k xs xs ((i + 1 : Nat) : Int)) true → Ev (fun k => L k xs xs (i : Int)) true)
    (fin : Ev (fun k => L k xs xs (xs.length : Int)) true) : Ev (fun k => L k xs xs 0) true := by
  have key : ∀ (m i : Nat), i + m = xs.length → Ev (fun k => L k xs xs (i : Int)) true := by
    intro m
    induction m with
    | zero =>
      intro i hi
      have : i = xs.length := by omega
      subst this
      exact fin
    | succ m ih => intro i hi; exact step i (by omega) (ih (i + 1) (by omega))
  exact key xs.length 0 (by omega)

/-- A loop that looks at all elements: on, or out with b; at the end c. -/
theorem ev_all {α ρ : Type} (L : Nat → Int → Option ρ) (xs : List α) (d : α) (p : α → Bool) (b c : ρ)
    (step : ∀ i, i < xs.length → p (xs.getD i d) = true → ∀ r, Ev (fun k => L k ((i + 1 : Nat) : Int)) r → Ev (fun k => L k (i : Int)) r)
    (bad : ∀ i, i < xs.length → p (xs.getD i d) = false → Ev (fun k => L k (i : Int)) b)
    (fin : Ev (fun k => L k (xs.length : Int)) c) : Ev (fun k => L k 0) (if xs.all p = true then c else b) := by
  have key : ∀ (m i : Nat), i + m = xs.length → Ev (fun k => L k (i : Int)) (if (xs.drop i).all p = true then c else b) := by
    intro m
    induction m with
    | zero =>
      intro i hi
      have : i = xs.length := by omega
      subst this
      rw [List.drop_length]
      exact fin
    | succ m ih =>
      intro i hi
      have hlt : i < xs.length := by omega
      rw [List.drop_eq_getElem_cons hlt, List.all_cons, ← getD_lt d hlt]
      cases hp : p (xs.getD i d) with
      | true => rw [Bool.true_and]; exact step i hlt hp _ (ih (i + 1) (by omega))
      | false => rw [Bool.false_and, if_neg (by decide)]; exact bad i hlt hp
  exact key xs.length 0 (by omega)
/-- The loop that counts what is read. -/
theorem ev_sz {α : Type} (L : Nat → Int → Int → Option Int) (xs : List α) (d : α) (B : α → Prop)
    (step : ∀ i a, i < xs.length → 0 ≤ a → a ≤ 1048576 → Ev (fun k => L k a (i : Int)) (-1) ∨ (∃ a', 0 ≤ a' ∧ a' ≤ a ∧ B (xs.getD i d) ∧ ∀ r, Ev (fun k => L k a' ((i + 1 : Nat) : Int)) r → Ev (fun k => L k a (i : Int)) r))
    (fin : ∀ a, Ev (fun k => L k a (xs.length : Int)) a) : ∀ a, 0 ≤ a → a ≤ 1048576 → ∃ r, Ev (fun k => L k a 0) r ∧ (r < 0 ∨ (0 ≤ r ∧ r ≤ a ∧ ∀ x ∈ xs, B x)) := by
  have key : ∀ (m i : Nat) (a : Int), i + m = xs.length → 0 ≤ a → a ≤ 1048576 → ∃ r, Ev (fun k => L k a (i : Int)) r ∧ (r < 0 ∨ (0 ≤ r ∧ r ≤ a ∧ ∀ j, i ≤ j → j < xs.length → B (xs.getD j d))) := by
    intro m
    induction m with
    | zero =>
      intro i a hi h0 h1
      have : i = xs.length := by omega
      subst this
      exact ⟨a, fin a, .inr ⟨h0, Int.le_refl _, fun j h2 h3 => by omega⟩⟩
    | succ m ih =>
      intro i a hi h0 h1
      rcases step i a (by omega) h0 h1 with h | ⟨a', h2, h3, hB, h⟩
      · exact ⟨-1, h, .inl (by decide)⟩
      · obtain ⟨r, hr, hq⟩ := ih (i + 1) a' (by omega) h2 (by omega)
        refine ⟨r, h r hr, ?_⟩
        rcases hq with hq | ⟨q0, q1, q2⟩
        · exact .inl hq
        · refine .inr ⟨q0, by omega, fun j h4 h5 => ?_⟩
          by_cases e : j = i
          · subst e; exact hB
          · exact q2 j (by omega) h5
  intro a h0 h1
  obtain ⟨r, hr, hq⟩ := key xs.length 0 a (by omega) h0 h1
  refine ⟨r, hr, hq.imp_right fun ⟨q0, q1, q2⟩ => ⟨q0, q1, fun x hx => ?_⟩⟩
  obtain ⟨j, hj, rfl⟩ := List.mem_iff_getElem.1 hx
  rw [← getD_lt d hj]
  exact q2 j (Nat.zero_le _) hj

theorem szInt64S_eq (l : List Int) (a : Int) (hl : l.length ≤ maxLen) (h0 : 0 ≤ a) (h1 : a ≤ 1048576) : ∃ r, laws_szInt64S.f l a = some r ∧ (r < 0 ∨ (0 ≤ r ∧ r ≤ a ∧ (l.length : Int) ≤ a)) := by
  unfold maxLen at hl
  unfold laws_szInt64S.f
  rw [w64 (by omega) (by omega)]
  split
  · exact ⟨_, rfl, .inl (by decide)⟩
  · exact ⟨_, rfl, .inr ⟨by omega, by omega, by omega⟩⟩
theorem szInt64SS_ev3 (l : List (List Int)) (a : Int) (hl : l.length ≤ maxLen) (hl2 : ∀ x ∈ l, x.length ≤ maxLen) (h0 : 0 ≤ a) (h1 : a ≤ 1048576) :
    ∃ r, Ev (fun k => laws_szInt64SS.f k l a) r ∧ (r < 0 ∨ (0 ≤ r ∧ r ≤ a ∧ l.length ≤ 1048576 ∧ ∀ x ∈ l, x.length ≤ 1048576)) := by
  unfold maxLen at hl
  unfold laws_szInt64SS.f
  rw [w64 (by omega) (by omega)]
  by_cases h : a - l.length < 0
  · simp only [h, if_true]
    exact ⟨-1, Ev.now _, .inl (by decide)⟩
  · simp only [h, if_false]
    obtain ⟨r, hr, hq⟩ := ev_sz (fun k a i => laws_szInt64SS.l0 k l a i) l [] (fun x => x.length ≤ 1048576) (fun i a hi h0 h1 => by
      obtain ⟨r, hr, hq⟩ := szInt64S_eq (l.getD i []) a (hl2 _ (getD_mem _ hi)) h0 h1
      have e : ∀ k, laws_szInt64SS.l0 (k + 1) l a i = if r < 0 then some (-1) else laws_szInt64SS.l0 k l r ((i + 1 : Nat) : Int) := fun k => by
        simp only [laws_szInt64SS.l0]
        rw [if_pos (by omega), if_pos (by omega)]
        unfold rd_L1
        rw [Int.toNat_natCast, hr]
        simp only [Option.bind_some]
        rw [w64 (by omega) (by omega)]
        rfl
      rcases hq with hq | ⟨q0, q1, q2⟩
      · exact .inl (Ev.step (f := fun _ => some (-1)) (fun k => by rw [e, if_pos hq]) (Ev.now _))
      · exact .inr ⟨r, q0, q1, by omega, fun s hs => Ev.step (fun k => by rw [e, if_neg (by omega)]) hs⟩) (fun a => Ev.step (f := fun _ => some a) (fun k => by simp only [laws_szInt64SS.l0]; rw [if_neg (by omega)]) (Ev.now _)) (a - l.length) (by omega) (by omega)
    exact ⟨r, hr, hq.imp_right fun ⟨q0, q1, q2⟩ => ⟨q0, by omega, by omega, q2⟩⟩
theorem szInt64SS_ev (l : List (List Int)) (a : Int) (hl : l.length ≤ maxLen) (hl2 : ∀ x ∈ l, x.length ≤ maxLen) (h0 : 0 ≤ a) (h1 : a ≤ 1048576) :
    ∃ r, Ev (fun k => laws_szInt64SS.f k l a) r ∧ (r < 0 ∨ (l.length ≤ 1048576 ∧ ∀ x ∈ l, x.length ≤ 1048576)) := by
  obtain ⟨r, hr, hq⟩ := szInt64SS_ev3 l a hl hl2 h0 h1
  exact ⟨r, hr, hq.imp_right fun h => h.2.2⟩

def okInt64SS (l : List (List Int)) : Prop := l.length ≤ 1048576 ∧ ∀ x ∈ l, x.length ≤ 1048576

theorem szInt64SS_evo (l : List (List Int)) (a : Int) (hw : l.length ≤ maxLen ∧ ∀ x0 ∈ l, x0.length ≤ maxLen ∧ ∀ x1 ∈ x0, (Lit.int .i64 x1).wf = true) (h0 : 0 ≤ a) (h1 : a ≤ 1048576) :
    ∃ r, Ev (fun k => laws_szInt64SS.f k l a) r ∧ (r < 0 ∨ (0 ≤ r ∧ r ≤ a ∧ okInt64SS l)) := szInt64SS_ev3 l a hw.1 (fun x hx => (hw.2 x hx).1) h0 h1

theorem toInt64S_ev (l : List Int) (h : l.length ≤ 35184372088832) : Ev (fun k => laws_toInt64S.f k l) l := by
  refine Ev.congr (f := fun k => laws_toInt64S.l0 k l (List.replicate l.length 0) 0) (fun k => ?_) ?_
  · unfold laws_toInt64S.f
    rw [if_pos (by omega), if_pos (by omega), Int.toNat_natCast]
  · refine ev_copy laws_toInt64S.l0 l 0 0 (fun ys i hi hl r hr => ?_) (fun ys => ?_)
    · refine Ev.step (fun k => ?_) hr
      simp only [laws_toInt64S.l0]
      rw [if_pos (by omega), if_pos (by omega), if_pos (by omega), w64 (by omega) (by omega), rd_nat, Int.toNat_natCast]
      rfl
    · refine Ev.step (f := fun _ => some ys) (fun k => ?_) (Ev.now _)
      simp only [laws_toInt64S.l0]
      rw [if_neg (by omega)]

theorem toInt64SS_ev (l : List (List Int)) (h : l.length ≤ 1048576) (h2 : ∀ x ∈ l, x.length ≤ 1048576) : Ev (fun k => laws_toInt64SS.f k l) l := by
  refine Ev.congr (f := fun k => laws_toInt64SS.l0 k l (List.replicate l.length []) 0) (fun k => ?_) ?_
  · unfold laws_toInt64SS.f
    rw [if_pos (by omega), if_pos (by omega), Int.toNat_natCast]
  · refine ev_copy laws_toInt64SS.l0 l [] [] (fun ys i hi hl r hr => ?_) (fun ys => ?_)
    · refine Ev.step (f := fun k => (laws_toInt64S.f k (l.getD i [])).bind fun t => laws_toInt64SS.l0 k l (ys.set i t) ((i + 1 : Nat) : Int)) (fun k => ?_) (Ev.bind (toInt64S_ev _ (by have := h2 _ (getD_mem [] hi); omega)) hr)
      simp only [laws_toInt64SS.l0]
      rw [if_pos (by omega), if_pos (by omega)]
      simp only [show (i : Int) < ys.length by omega, if_true]
      rw [w64 (by omega) (by omega)]
      unfold rd_L1
      rw [Int.toNat_natCast]
      rfl
    · refine Ev.step (f := fun _ => some ys) (fun k => ?_) (Ev.now _)
      simp only [laws_toInt64SS.l0]
      rw [if_neg (by omega)]

theorem toInt64SS_evo (l : List (List Int)) (h : okInt64SS l) : Ev (fun k => laws_toInt64SS.f k l) l := toInt64SS_ev l h.1 h.2

theorem eqInt64S_ev (l : List Int) (h : l.length ≤ 9223372036854775806) : Ev (fun k => laws_eqInt64S.f k l l) true := by
  refine Ev.congr (f := fun k => laws_eqInt64S.l0 k l l 0) (fun k => ?_) ?_
  · unfold laws_eqInt64S.f
    rw [if_pos rfl]
  · refine ev_eq laws_eqInt64S.l0 l (fun i hi hr => ?_) ?_
    · refine Ev.step (fun k => ?_) hr
      simp only [laws_eqInt64S.l0]
      rw [if_pos (by omega), if_pos (by omega), if_pos (by omega), if_pos trivial, w64 (by omega) (by omega)]
      rfl
    · refine Ev.step (f := fun _ => some true) (fun k => ?_) (Ev.now _)
      simp only [laws_eqInt64S.l0]
      rw [if_neg (by omega)]

theorem eqInt64SS_ev (l : List (List Int)) (h : l.length ≤ 1048576) (h2 : ∀ x ∈ l, x.length ≤ 1048576) : Ev (fun k => laws_eqInt64SS.f k l l) true := by
  refine Ev.congr (f := fun k => laws_eqInt64SS.l0 k l l 0) (fun k => ?_) ?_
  · unfold laws_eqInt64SS.f
    rw [if_pos rfl]
  · refine ev_eq laws_eqInt64SS.l0 l (fun i hi hr => ?_) ?_
    · refine Ev.step (f := fun k => (laws_eqInt64S.f k (l.getD i []) (l.getD i [])).bind fun t => if t = true then laws_eqInt64SS.l0 k l l ((i + 1 : Nat) : Int) else some false) (fun k => ?_) (Ev.bind (eqInt64S_ev _ (by have := h2 _ (getD_mem [] hi); omega)) hr)
      simp only [laws_eqInt64SS.l0]
      rw [if_pos (by omega), if_pos (by omega), if_pos (by omega), w64 (by omega) (by omega)]
      unfold rd_L1
      rw [Int.toNat_natCast]
      rfl
    · refine Ev.step (f := fun _ => some true) (fun k => ?_) (Ev.now _)
      simp only [laws_eqInt64SS.l0]
      rw [if_neg (by omega)]

theorem eqInt64SS_evo (l : List (List Int)) (h : okInt64SS l) : Ev (fun k => laws_eqInt64SS.f k l l) true := eqInt64SS_ev l h.1 h.2

/-- A loop that appends one element a round. -/
theorem ev_build {β ρ : Type} (L : Nat → List β → Int → Option ρ) (n : Nat) (f : Nat → β) (r : ρ)
    (step : ∀ i acc, i < n → acc.length = i → acc = (List.range i).map f → Ev (fun k => L k (acc ++ [f i]) ((i + 1 : Nat) : Int)) r → Ev (fun k => L k acc (i : Int)) r)
    (fin : Ev (fun k => L k ((List.range n).map f) (n : Int)) r) : Ev (fun k => L k [] 0) r := by
  have key : ∀ (m i : Nat), i + m = n → Ev (fun k => L k ((List.range i).map f) (i : Int)) r := by
    intro m
    induction m with
    | zero =>
      intro i hi
      have : i = n := by omega
      subst this
      exact fin
    | succ m ih =>
      intro i hi
      refine step i _ (by omega) (by simp) rfl ?_
      have := ih (i + 1) (by omega)
      rwa [List.range_succ, List.map_append] at this
  exact key n 0 (by omega)
/-- A loop that stores one element a round. -/
theorem ev_fill {β ρ : Type} (L : Nat → List β → Int → Option ρ) (base : List β) (d : β) (f : Nat → β) (r : ρ)
    (step : ∀ i acc, i < base.length → acc.length = base.length → acc.getD i d = base.getD i d → Ev (fun k => L k (acc.set i (f i)) ((i + 1 : Nat) : Int)) r → Ev (fun k => L k acc (i : Int)) r)
    (fin : Ev (fun k => L k ((List.range base.length).map f) (base.length : Int)) r) : Ev (fun k => L k base 0) r := by
  have key : ∀ (m i : Nat), i + m = base.length → Ev (fun k => L k ((List.range i).map f ++ base.drop i) (i : Int)) r := by
    intro m
    induction m with
    | zero =>
      intro i hi
      have : i = base.length := by omega
      subst this
      rw [List.drop_length, List.append_nil]
      exact fin
    | succ m ih =>
      intro i hi
      have hlt : i < base.length := by omega
      refine step i _ hlt (by simp; omega) ?_ ?_
      · rw [List.getD_eq_getElem?_getD, List.getD_eq_getElem?_getD, List.getElem?_append_right (by simp)]
        simp
      · have := ih (i + 1) (by omega)
        rw [List.range_succ, List.map_append, List.append_assoc] at this
        have e : ((List.range i).map f ++ base.drop i).set i (f i) = (List.range i).map f ++ ([i].map f ++ base.drop (i + 1)) := by
          rw [List.set_append_right _ _ (by simp), List.drop_eq_getElem_cons hlt, List.length_map, List.length_range, Nat.sub_self, List.set_cons_zero]
          rfl
        rw [e]
        exact this
  exact key base.length 0 (by omega)
theorem getD_map_range {β : Type} (n : Nat) (f : Nat → β) (d : β) {i : Nat} (h : i < n) : ((List.range n).map f).getD i d = f i := by
  rw [List.getD_eq_getElem?_getD, List.getElem?_map, List.getElem?_range h]; rfl

def okInt64S (l : List Int) : Prop := l.length ≤ 1048576

def mkInt64S (l : List Int) (k : Int) : List Int := (List.range l.length).map fun i : Nat => k + (i : Int)
def cntInt64S (l : List Int) : Int := l.length
theorem mkInt64S_len (l : List Int) (k : Int) : (mkInt64S l k).length = l.length := by simp [mkInt64S]
theorem cntInt64S_bd (l : List Int) (h : okInt64S l) : 0 ≤ cntInt64S l ∧ cntInt64S l ≤ 2000000000000 := by unfold okInt64S at h; unfold cntInt64S; omega
theorem markInt64S_ev (l : List Int) (k0 : Int) (h : okInt64S l) (h0 : 0 ≤ k0) (h1 : k0 ≤ 1000000000000000) : Ev (fun k => laws_markInt64S.f k l k0) (k0 + cntInt64S l, mkInt64S l k0) := by
  unfold okInt64S at h
  unfold laws_markInt64S.f
  have key := ev_fill (fun k acc i => laws_markInt64S.l0 k acc (k0 + i) i) l 0 (fun i => k0 + (i : Int)) (k0 + cntInt64S l, mkInt64S l k0) (fun i acc hi hl _ hs => ?_) ?_
  · simpa using key
  · refine Ev.step (fun k => ?_) hs
    simp only [laws_markInt64S.l0]
    rw [if_pos (by omega), if_pos (by omega), w64 (by omega) (by omega), w64 (by omega) (by omega), Int.toNat_natCast]
    congr 1
    omega
  · refine Ev.step (f := fun _ => some (k0 + cntInt64S l, mkInt64S l k0)) (fun k => ?_) (Ev.now _)
    simp only [laws_markInt64S.l0]
    rw [if_neg (by simp)]
    rfl
theorem heldInt64S_ev (l : List Int) (k0 : Int) (h : okInt64S l) (h0 : 0 ≤ k0) (h1 : k0 ≤ 1000000000000000) : Ev (fun k => laws_heldInt64S.f k (mkInt64S l k0) k0) (k0 + cntInt64S l) := by
  unfold okInt64S at h
  unfold laws_heldInt64S.f
  have key : ∀ (m i : Nat), i + m = l.length → Ev (fun k => laws_heldInt64S.l0 k (mkInt64S l k0) (k0 + i) i) (k0 + cntInt64S l) := by
    intro m
    induction m with
    | zero =>
      intro i hi
      refine Ev.step (f := fun _ => some (k0 + cntInt64S l)) (fun k => ?_) (Ev.now _)
      simp only [laws_heldInt64S.l0]
      rw [if_neg (by rw [mkInt64S_len]; omega)]
      unfold cntInt64S
      congr 2
      omega
    | succ m ih =>
      intro i hi
      refine Ev.step (fun k => ?_) (ih (i + 1) (by omega))
      simp only [laws_heldInt64S.l0]
      rw [if_pos (by rw [mkInt64S_len]; omega), if_pos (by omega), rd_nat, show (mkInt64S l k0).getD i 0 = k0 + i from getD_map_range _ _ _ (by omega), if_pos rfl, w64 (by omega) (by omega), w64 (by omega) (by omega)]
      congr 1
      omega
  simpa using key l.length 0 (by omega)

def cntInt64SS : List (List Int) → Int
  | [] => 0
  | x :: xs => x.length + cntInt64SS xs
def mkInt64SS : List (List Int) → Int → List (List Int)
  | [], _ => []
  | x :: xs, k => mkInt64S x k :: mkInt64SS xs (k + x.length)
theorem mkInt64SS_len : ∀ (l : List (List Int)) (k : Int), (mkInt64SS l k).length = l.length
  | [], _ => rfl
  | x :: xs, k => by simp [mkInt64SS, mkInt64SS_len xs]
theorem cntInt64SS_bd0 : ∀ (l : List (List Int)), (∀ x ∈ l, x.length ≤ 1048576) → 0 ≤ cntInt64SS l ∧ cntInt64SS l ≤ l.length * 1048576
  | [], _ => by simp [cntInt64SS]
  | x :: xs, h => by
    have h1 := cntInt64SS_bd0 xs (fun y hy => h y (List.mem_cons_of_mem _ hy))
    have h2 := h x List.mem_cons_self
    simp only [cntInt64SS, List.length_cons]
    omega
theorem cntInt64SS_bd (l : List (List Int)) (h : okInt64SS l) : 0 ≤ cntInt64SS l ∧ cntInt64SS l ≤ 2000000000000 := by
  have := cntInt64SS_bd0 l h.2
  have := h.1
  omega
theorem cntInt64SS_append : ∀ (a b : List (List Int)), cntInt64SS (a ++ b) = cntInt64SS a + cntInt64SS b
  | [], b => by simp [cntInt64SS]
  | x :: xs, b => by simp only [List.cons_append, cntInt64SS, cntInt64SS_append xs b]; omega
theorem mkInt64SS_append : ∀ (a b : List (List Int)) (k : Int), mkInt64SS (a ++ b) k = mkInt64SS a k ++ mkInt64SS b (k + cntInt64SS a)
  | [], b, k => by simp [mkInt64SS, cntInt64SS]
  | x :: xs, b, k => by simp only [List.cons_append, mkInt64SS, cntInt64SS, mkInt64SS_append xs b]; congr 2; congr 1; omega
theorem heldInt64SS_ev (l : List (List Int)) (k0 : Int) (h : okInt64SS l) (h0 : 0 ≤ k0) (h1 : k0 ≤ 900000000000000) : Ev (fun k => laws_heldInt64SS.f k (mkInt64SS l k0) k0) (k0 + cntInt64SS l) := by
  have hb := cntInt64SS_bd l h
  obtain ⟨hlen, hrow⟩ := h
  unfold laws_heldInt64SS.f
  have key : ∀ (rest done : List (List Int)), done ++ rest = l → Ev (fun k => laws_heldInt64SS.l0 k (mkInt64SS l k0) (k0 + cntInt64SS done) done.length) (k0 + cntInt64SS l) := by
    intro rest
    induction rest with
    | nil =>
      intro done hd
      rw [List.append_nil] at hd
      subst hd
      refine Ev.step (f := fun _ => some _) (fun k => ?_) (Ev.now _)
      simp only [laws_heldInt64SS.l0]
      rw [if_neg (by rw [mkInt64SS_len]; omega)]
    | cons x rest ih =>
      intro done hd
      have hl : l.length = done.length + (rest.length + 1) := by rw [← hd, List.length_append, List.length_cons]
      have hx : okInt64S x := hrow x (by rw [← hd]; simp)
      have hc : cntInt64SS l = cntInt64SS done + (x.length + cntInt64SS rest) := by rw [← hd, cntInt64SS_append]; rfl
      have hb1 := cntInt64SS_bd0 done (fun y hy => hrow y (by rw [← hd]; exact List.mem_append_left _ hy))
      have hb2 := cntInt64SS_bd0 rest (fun y hy => hrow y (by rw [← hd]; simp [hy]))
      have hg : (mkInt64SS l k0).getD done.length [] = mkInt64S x (k0 + cntInt64SS done) := by
        rw [← hd, mkInt64SS_append, List.getD_eq_getElem?_getD, List.getElem?_append_right (by rw [mkInt64SS_len]; exact Nat.le_refl _), mkInt64SS_len, Nat.sub_self]
        rfl
      have ihx := ih (done ++ [x]) (by rw [List.append_assoc]; exact hd)
      refine Ev.step (f := fun k => (laws_heldInt64S.f k (mkInt64S x (k0 + cntInt64SS done)) (k0 + cntInt64SS done)).bind fun t => if t < 0 then some (-1) else laws_heldInt64SS.l0 k (mkInt64SS l k0) t ((done.length + 1 : Nat) : Int)) (fun k => ?_) (Ev.bind (heldInt64S_ev x _ hx (by omega) (by omega)) ?_)
      · simp only [laws_heldInt64SS.l0]
        rw [if_pos (by rw [mkInt64SS_len]; omega), if_pos (by omega), w64 (by omega) (by omega)]
        unfold rd_L1
        rw [Int.toNat_natCast, hg]
        rfl
      · have e : k0 + cntInt64SS done + cntInt64S x = k0 + cntInt64SS (done ++ [x]) := by rw [cntInt64SS_append]; simp only [cntInt64SS, cntInt64S]; omega
        have hn : ¬ k0 + cntInt64SS done + cntInt64S x < 0 := by unfold cntInt64S; omega
        simp only [hn, if_false]
        rw [e]
        simpa using ihx
  simpa [cntInt64SS] using key l [] rfl

def rowOk (l : List (List Int)) (row : List Int) : Bool := decide (1 ≤ row.length) && (decide (row.length ≤ 16) && (decide (row.length = (l.getD 0 []).length) && row.all (inB (-5000) 20000)))
def imgOk (l : List (List Int)) : Bool := decide (1 ≤ l.length) && (decide (l.length ≤ 16) && l.all (rowOk l))

theorem specCell_eq (x : Int) : spec_l28Cell.f x = some (inB (-5000) 20000 x) := by
  unfold spec_l28Cell.f spec_l00In.f inB
  by_cases h : x ≥ -5000
  · rw [if_pos h, decide_eq_true (show -5000 ≤ x from h)]; rfl
  · rw [if_neg h, decide_eq_false (show ¬ -5000 ≤ x from h)]; rfl
theorem specOk_row (l : List (List Int)) (hl : l.length ≤ 16) (i : Nat) (hi : i < l.length) (h16 : (l.getD i []).length ≤ 16) (r : Bool) (hr : Ev (fun k => spec_l28Ok.l0 k l ((i + 1 : Nat) : Int)) r) :
    Ev (fun k => spec_l28Ok.l1 k l i 0) (if (l.getD i []).all (inB (-5000) 20000) = true then r else false) := by
  have ur : rd_L1 l i = l.getD i [] := by unfold rd_L1; rw [Int.toNat_natCast]
  refine ev_all (fun k j => spec_l28Ok.l1 k l i j) (l.getD i []) 0 (inB (-5000) 20000) false r (fun j hj hp s hs => ?_) (fun j hj hp => ?_) ?_
  · refine Ev.step (fun k => ?_) hs
    simp only [spec_l28Ok.l1]
    rw [if_pos (by omega), if_pos (by omega), ur, if_pos (by omega), if_pos (by omega), rd_nat, specCell_eq, hp]
    simp only [Option.bind_some, if_true]
    rw [w64 (by omega) (by omega)]
    rfl
  · refine Ev.step (f := fun _ => some false) (fun k => ?_) (Ev.now _)
    simp only [spec_l28Ok.l1]
    rw [if_pos (by omega), if_pos (by omega), ur, if_pos (by omega), if_pos (by omega), rd_nat, specCell_eq, hp]
    rfl
  · refine Ev.step (fun k => ?_) hr
    simp only [spec_l28Ok.l1]
    rw [if_pos (by omega), if_pos (by omega), ur, if_neg (by omega), w64 (by omega) (by omega)]
    rfl
theorem specOk_ev (l : List (List Int)) : Ev (fun k => spec_l28Ok.f k l) (imgOk l) := by
  unfold spec_l28Ok.f imgOk
  by_cases h1 : l.length < 1
  · simp only [show (l.length : Int) < 1 by omega, if_true]
    rw [decide_eq_false (by omega), Bool.false_and]
    exact Ev.step (f := fun _ => some false) (fun k => by simp [spec_l28Ok.j0]) (Ev.now _)
  · simp only [show ¬ (l.length : Int) < 1 by omega, if_false]
    rw [decide_eq_true (show 1 ≤ l.length by omega), Bool.true_and]
    by_cases h16 : l.length > 16
    · rw [decide_eq_false (show ¬ l.length ≤ 16 by omega), Bool.false_and]
      exact Ev.step (f := fun _ => some false) (fun k => by simp only [spec_l28Ok.j0]; rw [if_pos (decide_eq_true (by omega))]) (Ev.now _)
    · rw [decide_eq_true (show l.length ≤ 16 by omega), Bool.true_and]
      refine Ev.step (f := fun k => spec_l28Ok.l0 k l 0) (fun k => by simp only [spec_l28Ok.j0]; rw [if_neg (by simp; omega)]) ?_
      have key := ev_all (fun k i => spec_l28Ok.l0 k l i) l [] (rowOk l) false true (fun i hi hp s hs => ?_) (fun i hi hp => ?_) ?_
      · revert key
        cases l.all (rowOk l) <;> exact id
      · have ur : rd_L1 l i = l.getD i [] := by unfold rd_L1; rw [Int.toNat_natCast]
        have u0 : rd_L1 l 0 = l.getD 0 [] := rfl
        simp only [rowOk, Bool.and_eq_true, decide_eq_true_eq] at hp
        obtain ⟨p1, p2, p3, p4⟩ := hp
        refine Ev.step (f := fun k => spec_l28Ok.j2 k l i false) (fun k => ?_) (Ev.step (f := fun k => spec_l28Ok.l1 k l i 0) (fun k => by simp [spec_l28Ok.j2]) ?_)
        · simp only [spec_l28Ok.l0]
          rw [if_pos (by omega), if_pos (by omega), ur, u0, if_neg (by omega), if_neg (by omega), if_pos (by omega), p3]
          simp
        · have := specOk_row l (by omega) i hi p2 s hs
          rw [p4, if_pos rfl] at this
          exact this
      · have ur : rd_L1 l i = l.getD i [] := by unfold rd_L1; rw [Int.toNat_natCast]
        have u0 : rd_L1 l 0 = l.getD 0 [] := rfl
        have fin : Ev (fun k => spec_l28Ok.j2 k l i true) false := Ev.step (f := fun _ => some false) (fun k => by simp [spec_l28Ok.j2]) (Ev.now _)
        by_cases g1 : (l.getD i []).length < 1
        · refine Ev.step (fun k => ?_) fin
          simp only [spec_l28Ok.l0]
          rw [if_pos (by omega), if_pos (by omega), ur, if_pos (by omega)]
        · by_cases g2 : (l.getD i []).length > 16
          · refine Ev.step (fun k => ?_) fin
            simp only [spec_l28Ok.l0]
            rw [if_pos (by omega), if_pos (by omega), ur, if_neg (by omega), if_pos (by omega)]
          · by_cases g3 : (l.getD i []).length = (l.getD 0 []).length
            · have g4 : (l.getD i []).all (inB (-5000) 20000) = false := by
                simp only [rowOk] at hp
                rw [decide_eq_true (by omega), decide_eq_true (by omega), decide_eq_true g3] at hp
                simpa using hp
              refine Ev.step (f := fun k => spec_l28Ok.j2 k l i false) (fun k => ?_) (Ev.step (f := fun k => spec_l28Ok.l1 k l i 0) (fun k => by simp [spec_l28Ok.j2]) ?_)
              · simp only [spec_l28Ok.l0]
                rw [if_pos (by omega), if_pos (by omega), ur, u0, if_neg (by omega), if_neg (by omega), if_pos (by omega), g3]
                simp
              · -- some cell is out of bounds: whatever follows is not come to
                obtain ⟨x, hx, hxb⟩ := List.all_eq_false.1 g4
                have : ∀ (m j : Nat), j + m = (l.getD i []).length → (∃ q, j ≤ q ∧ q < (l.getD i []).length ∧ inB (-5000) 20000 ((l.getD i []).getD q 0) = false) → Ev (fun k => spec_l28Ok.l1 k l i j) false := by
                  intro m
                  induction m with
                  | zero => rintro j hj ⟨q, q1, q2, q3⟩; omega
                  | succ m ih =>
                    rintro j hj ⟨q, q1, q2, q3⟩
                    cases hc : inB (-5000) 20000 ((l.getD i []).getD j 0) with
                    | true =>
                      have : q ≠ j := by rintro rfl; rw [hc] at q3; cases q3
                      refine Ev.step (fun k => ?_) (ih (j + 1) (by omega) ⟨q, by omega, q2, q3⟩)
                      simp only [spec_l28Ok.l1]
                      rw [if_pos (by omega), if_pos (by omega), ur, if_pos (by omega), if_pos (by omega), rd_nat, specCell_eq, hc]
                      simp only [Option.bind_some, if_true]
                      rw [w64 (by omega) (by omega)]
                      rfl
                    | false =>
                      refine Ev.step (f := fun _ => some false) (fun k => ?_) (Ev.now _)
                      simp only [spec_l28Ok.l1]
                      rw [if_pos (by omega), if_pos (by omega), ur, if_pos (by omega), if_pos (by omega), rd_nat, specCell_eq, hc]
                      rfl
                obtain ⟨q, hq, rfl⟩ := List.mem_iff_getElem.1 hx
                exact this (l.getD i []).length 0 (by omega) ⟨q, Nat.zero_le _, hq, by rw [getD_lt 0 hq]; simpa using hxb⟩
            · refine Ev.step (f := fun k => spec_l28Ok.j2 k l i true) (fun k => ?_) fin
              simp only [spec_l28Ok.l0]
              rw [if_pos (by omega), if_pos (by omega), ur, u0, if_neg (by omega), if_neg (by omega), if_pos (by omega)]
              congr 1
              exact bne_iff_ne.mpr (by omega)
      · refine Ev.step (f := fun _ => some true) (fun k => ?_) (Ev.now _)
        simp only [spec_l28Ok.l0]
        rw [if_neg (by omega)]

theorem implOk_ev (l : List (List Int)) (hlen : ∀ x ∈ l, x.length ≤ 1048576) : Ev (fun k => impl_ValidImage.f k l) (imgOk l) := by
  unfold impl_ValidImage.f imgOk
  by_cases h1 : l.length < 1
  · simp only [show (l.length : Int) < 1 by omega, if_true]
    rw [decide_eq_false (by omega), Bool.false_and]
    exact Ev.step (f := fun _ => some false) (fun k => by simp [impl_ValidImage.j0]) (Ev.now _)
  · simp only [show ¬ (l.length : Int) < 1 by omega, if_false]
    rw [decide_eq_true (show 1 ≤ l.length by omega), Bool.true_and]
    by_cases h16 : l.length > 16
    · rw [decide_eq_false (show ¬ l.length ≤ 16 by omega), Bool.false_and]
      exact Ev.step (f := fun _ => some false) (fun k => by simp only [impl_ValidImage.j0]; rw [if_pos (decide_eq_true (by omega))]) (Ev.now _)
    · rw [decide_eq_true (show l.length ≤ 16 by omega), Bool.true_and]
      refine Ev.step (f := fun k => impl_ValidImage.l0 k l l l.length 0) (fun k => by simp only [impl_ValidImage.j0]; rw [if_neg (by simp; omega)]) ?_
      have key := ev_all (fun k i => impl_ValidImage.l0 k l l l.length i) l [] (rowOk l) false true (fun i hi hp s hs => ?_) (fun i hi hp => ?_) ?_
      · revert key
        cases l.all (rowOk l) <;> exact id
      · have ur : rd_L1 l i = l.getD i [] := by unfold rd_L1; rw [Int.toNat_natCast]
        have u0 : rd_L1 l 0 = l.getD 0 [] := rfl
        have hll := hlen _ (getD_mem [] hi)
        simp only [rowOk, Bool.and_eq_true, decide_eq_true_eq] at hp
        obtain ⟨p1, p2, p3, p4⟩ := hp
        refine Ev.step (fun k => ?_) hs
        simp only [impl_ValidImage.l0]
        rw [if_pos (by omega), if_pos (by omega), if_pos (by omega), ur, u0, if_neg (by omega), if_neg (by omega), if_pos (by omega), if_pos (by omega)]
        unfold impl_allWithin.f
        rw [if_pos (by omega), p4]
        simp only [Option.bind_some, if_true]
        rw [w64 (by omega) (by omega)]
        rfl
      · have ur : rd_L1 l i = l.getD i [] := by unfold rd_L1; rw [Int.toNat_natCast]
        have u0 : rd_L1 l 0 = l.getD 0 [] := rfl
        have hll := hlen _ (getD_mem [] hi)
        refine Ev.step (f := fun _ => some false) (fun k => ?_) (Ev.now _)
        simp only [impl_ValidImage.l0]
        rw [if_pos (by omega), if_pos (by omega), if_pos (by omega), ur, u0]
        by_cases g1 : (l.getD i []).length < 1
        · rw [if_pos (by omega)]
        · rw [if_neg (by omega)]
          by_cases g2 : (l.getD i []).length > 16
          · rw [if_pos (by omega)]
          · rw [if_neg (by omega), if_pos (by omega)]
            by_cases g3 : (l.getD i []).length = (l.getD 0 []).length
            · have g4 : (l.getD i []).all (inB (-5000) 20000) = false := by
                simp only [rowOk] at hp
                rw [decide_eq_true (by omega), decide_eq_true (by omega), decide_eq_true g3] at hp
                simpa using hp
              rw [if_pos (by omega)]
              unfold impl_allWithin.f
              rw [if_pos (by omega), g4]
              rfl
            · rw [if_neg (by omega)]
      · refine Ev.step (f := fun _ => some true) (fun k => ?_) (Ev.now _)
        simp only [impl_ValidImage.l0]
        rw [if_neg (by omega)]

def chRow (a b : List (List Int)) (i : Nat) : List Int := (List.range (a.getD i []).length).map fun j => (b.getD i []).getD j 0 - (a.getD i []).getD j 0
def change (a b : List (List Int)) : List (List Int) × Int :=
  if imgOk a = true ∧ imgOk b = true then (if a.length = b.length ∧ (a.getD 0 []).length = (b.getD 0 []).length then ((List.range a.length).map (chRow a b), 0) else ([], 7)) else ([], 1)
theorem imgOk_facts {l : List (List Int)} (h : imgOk l = true) : 1 ≤ l.length ∧ l.length ≤ 16 ∧ ∀ i, i < l.length → (l.getD i []).length = (l.getD 0 []).length ∧ 1 ≤ (l.getD i []).length ∧ (l.getD i []).length ≤ 16 ∧ ∀ j, j < (l.getD i []).length → -5000 ≤ (l.getD i []).getD j 0 ∧ (l.getD i []).getD j 0 ≤ 20000 := by
  simp only [imgOk, Bool.and_eq_true, decide_eq_true_eq, List.all_eq_true] at h
  refine ⟨h.1, h.2.1, fun i hi => ?_⟩
  have hr := h.2.2 _ (getD_mem [] hi)
  simp only [rowOk, Bool.and_eq_true, decide_eq_true_eq, List.all_eq_true] at hr
  refine ⟨hr.2.2.1, hr.1, hr.2.1, fun j hj => ?_⟩
  have := hr.2.2.2 _ (getD_mem 0 hj)
  simpa [inB] using this
theorem rdL (l : List (List Int)) (i : Nat) : rd_L1 l i = l.getD i [] := by unfold rd_L1; rw [Int.toNat_natCast]
theorem spec_build (a b : List (List Int)) (ha : imgOk a = true) (hb : imgOk b = true) (hl : a.length = b.length) (hc : (a.getD 0 []).length = (b.getD 0 []).length) :
    Ev (fun k => spec_ImageChange.l0 k a b [] 0) ((List.range a.length).map (chRow a b), 0) := by
  obtain ⟨a1, a2, af⟩ := imgOk_facts ha
  obtain ⟨b1, b2, bf⟩ := imgOk_facts hb
  refine ev_build (fun k acc i => spec_ImageChange.l0 k a b acc i) a.length (chRow a b) _ (fun i acc hi hacc _ hs => ?_) ?_
  · have fa := af i hi
    have fb := bf i (by omega)
    refine Ev.step (f := fun k => spec_ImageChange.l1 k a b acc i [] 0) (fun k => by simp only [spec_ImageChange.l0]; rw [if_pos (by omega)]) ?_
    refine ev_build (fun k row j => spec_ImageChange.l1 k a b acc i row j) (a.getD i []).length (fun j => (b.getD i []).getD j 0 - (a.getD i []).getD j 0) _ (fun j row hj hrow _ hs2 => ?_) ?_
    · have ga := fa.2.2.2 j hj
      have gb := fb.2.2.2 j (by omega)
      refine Ev.step (fun k => ?_) hs2
      simp only [spec_ImageChange.l1]
      rw [if_pos (by omega), if_pos (by omega), rdL, rdL, if_pos (by omega), if_pos (by omega), if_pos (by omega), if_pos (by omega), if_pos (by omega), rd_nat, rd_nat, w64 (by omega) (by omega), w64 (by omega) (by omega)]
      rfl
    · refine Ev.step (fun k => ?_) hs
      simp only [spec_ImageChange.l1]
      rw [if_pos (by omega), if_pos (by omega), rdL, if_neg (by omega), if_pos (by omega), w64 (by omega) (by omega)]
      rfl
  · refine Ev.step (f := fun _ => some ((List.range a.length).map (chRow a b), 0)) (fun k => ?_) (Ev.now _)
    simp only [spec_ImageChange.l0]
    rw [if_neg (by omega)]
theorem impl_build (a b : List (List Int)) (ha : imgOk a = true) (hb : imgOk b = true) (hl : a.length = b.length) (hc : (a.getD 0 []).length = (b.getD 0 []).length) :
    Ev (fun k => impl_ImageChange.l0 k a b [] a.length 0) ((List.range a.length).map (chRow a b), 0) := by
  obtain ⟨a1, a2, af⟩ := imgOk_facts ha
  obtain ⟨b1, b2, bf⟩ := imgOk_facts hb
  refine ev_build (fun k acc i => impl_ImageChange.l0 k a b acc a.length i) a.length (chRow a b) _ (fun i acc hi hacc _ hs => ?_) ?_
  · have fa := af i hi
    have fb := bf i (by omega)
    have hab : (a.getD i []).length = (b.getD i []).length := by omega
    refine Ev.step (f := fun k => impl_ImageChange.l1 k a b acc (b.getD i []) a.length i (a.getD i []) (a.getD i []).length 0) (fun k => ?_) ?_
    · simp only [impl_ImageChange.l0]
      rw [if_pos (by omega), if_pos (by omega), if_pos (by omega), rdL, rdL]
      unfold slices_Clone_int64_int64.f
      rw [if_pos (by omega)]
      simp only [Option.bind_some]
      rw [if_pos (by omega)]
    · refine ev_fill (fun k row j => impl_ImageChange.l1 k a b acc row a.length i (a.getD i []) (a.getD i []).length j) (b.getD i []) 0 (fun j => (b.getD i []).getD j 0 - (a.getD i []).getD j 0) _ (fun j row hj hrow hget hs2 => ?_) ?_
      · have ga := fa.2.2.2 j (by omega)
        have gb := fb.2.2.2 j (by omega)
        refine Ev.step (fun k => ?_) hs2
        simp only [impl_ImageChange.l1]
        rw [if_pos (by omega), if_pos (by omega), if_pos (by omega), if_pos (by omega), rd_nat, rd_nat, hget, w64 (by omega) (by omega), w64 (by omega) (by omega), Int.toNat_natCast]
        rfl
      · refine Ev.step (fun k => ?_) hs
        simp only [impl_ImageChange.l1]
        rw [if_neg (by omega), if_pos (by omega), w64 (by omega) (by omega)]
        unfold chRow
        rw [hab]
        rfl
  · refine Ev.step (f := fun _ => some ((List.range a.length).map (chRow a b), 0)) (fun k => ?_) (Ev.now _)
    simp only [impl_ImageChange.l0]
    rw [if_neg (by omega)]
theorem spec_ev (a b : List (List Int)) : Ev (fun k => spec_ImageChange.f k a b) (change a b) := by
  unfold spec_ImageChange.f change
  refine Ev.bind (specOk_ev a) ?_
  cases ha : imgOk a with
  | false =>
    simp only [Bool.false_eq_true, if_false, false_and]
    exact Ev.step (f := fun _ => some _) (fun k => by simp [spec_ImageChange.j0]) (Ev.now _)
  | true =>
    simp only [if_true, true_and]
    refine Ev.bind (specOk_ev b) ?_
    cases hb : imgOk b with
    | false =>
      simp only [Bool.false_eq_true, if_false, Bool.not_false]
      exact Ev.step (f := fun _ => some _) (fun k => by simp [spec_ImageChange.j0]) (Ev.now _)
    | true =>
      have a1 := (imgOk_facts ha).1
      have b1 := (imgOk_facts hb).1
      simp only [if_true, Bool.not_true]
      by_cases hl : a.length = b.length
      · by_cases hc : (a.getD 0 []).length = (b.getD 0 []).length
        · rw [if_pos ⟨hl, hc⟩]
          refine Ev.step (f := fun k => spec_ImageChange.j1 k a b false) (fun k => ?_) (Ev.step (f := fun k => spec_ImageChange.l0 k a b [] 0) (fun k => by simp [spec_ImageChange.j1]) (spec_build a b ha hb hl hc))
          simp only [spec_ImageChange.j0]
          rw [if_neg (by decide), if_pos (by omega), if_pos (by omega), if_pos (by omega), show rd_L1 a 0 = a.getD 0 [] from rfl, show rd_L1 b 0 = b.getD 0 [] from rfl, hc]
          simp
        · rw [if_neg (fun h => hc h.2)]
          refine Ev.step (f := fun k => spec_ImageChange.j1 k a b true) (fun k => ?_) (Ev.step (f := fun _ => some _) (fun k => by simp [spec_ImageChange.j1]) (Ev.now _))
          simp only [spec_ImageChange.j0]
          rw [if_neg (by decide), if_pos (by omega), if_pos (by omega), if_pos (by omega), show rd_L1 a 0 = a.getD 0 [] from rfl, show rd_L1 b 0 = b.getD 0 [] from rfl]
          congr 1
          exact bne_iff_ne.mpr (by omega)
      · rw [if_neg (fun h => hl h.1)]
        refine Ev.step (f := fun k => spec_ImageChange.j1 k a b true) (fun k => ?_) (Ev.step (f := fun _ => some _) (fun k => by simp [spec_ImageChange.j1]) (Ev.now _))
        simp only [spec_ImageChange.j0]
        rw [if_neg (by decide), if_neg (by omega)]
theorem impl_ev (a b : List (List Int)) (oa : ∀ x ∈ a, x.length ≤ 1048576) (ob : ∀ x ∈ b, x.length ≤ 1048576) : Ev (fun k => impl_ImageChange.f k a b) (change a b) := by
  unfold impl_ImageChange.f change
  refine Ev.bind (implOk_ev a oa) ?_
  cases ha : imgOk a with
  | false =>
    simp only [Bool.false_eq_true, if_false, false_and]
    exact Ev.step (f := fun _ => some _) (fun k => by simp [impl_ImageChange.j0]) (Ev.now _)
  | true =>
    simp only [if_true, true_and]
    refine Ev.bind (implOk_ev b ob) ?_
    cases hb : imgOk b with
    | false =>
      simp only [Bool.false_eq_true, if_false, Bool.not_false]
      exact Ev.step (f := fun _ => some _) (fun k => by simp [impl_ImageChange.j0]) (Ev.now _)
    | true =>
      have a1 := (imgOk_facts ha).1
      have b1 := (imgOk_facts hb).1
      simp only [if_true, Bool.not_true]
      by_cases hl : a.length = b.length
      · by_cases hc : (a.getD 0 []).length = (b.getD 0 []).length
        · rw [if_pos ⟨hl, hc⟩]
          refine Ev.step (fun k => ?_) (impl_build a b ha hb hl hc)
          simp only [impl_ImageChange.j0]
          rw [if_neg (by decide), if_pos (by omega), if_pos (by omega), if_pos (by omega), show rd_L1 a 0 = a.getD 0 [] from rfl, show rd_L1 b 0 = b.getD 0 [] from rfl, if_pos (by omega)]
        · rw [if_neg (fun h => hc h.2)]
          refine Ev.step (f := fun _ => some ([], 7)) (fun k => ?_) (Ev.now _)
          simp only [impl_ImageChange.j0]
          rw [if_neg (by decide), if_pos (by omega), if_pos (by omega), if_pos (by omega), show rd_L1 a 0 = a.getD 0 [] from rfl, show rd_L1 b 0 = b.getD 0 [] from rfl, if_neg (by omega)]
      · rw [if_neg (fun h => hl h.1)]
        refine Ev.step (f := fun _ => some ([], 7)) (fun k => ?_) (Ev.now _)
        simp only [impl_ImageChange.j0]
        rw [if_neg (by decide), if_neg (by omega)]
theorem change_ok (a b : List (List Int)) : okInt64SS (change a b).1 := by
  unfold change
  split
  · rename_i h
    split
    · obtain ⟨a1, a2, af⟩ := imgOk_facts h.1
      refine ⟨by simp; omega, fun x hx => ?_⟩
      obtain ⟨i, hi, rfl⟩ := List.mem_map.1 hx
      have := af i (by simpa using hi)
      simp [chRow]
      simp at this
      omega
    · exact ⟨by simp, fun x hx => by cases hx⟩
  · exact ⟨by simp, fun x hx => by cases hx⟩
theorem core : ∀ (l0 : List (List Int)) (l1 : List (List Int)) (w0 : l0.length ≤ maxLen ∧ ∀ x0 ∈ l0, x0.length ≤ maxLen ∧ ∀ x1 ∈ x0, (Lit.int .i64 x1).wf = true) (o0 : okInt64SS l0) (w1 : l1.length ≤ maxLen ∧ ∀ x0 ∈ l1, x0.length ≤ maxLen ∧ ∀ x1 ∈ x0, (Lit.int .i64 x1).wf = true) (o1 : okInt64SS l1), ∃ (r1 : List (List Int)) (r2 : Int), Ev (fun k => spec_ImageChange.f k l0 l1) (r1, r2) ∧ Ev (fun k => impl_ImageChange.f k l0 l1) (r1, r2) ∧ okInt64SS r1 := by
  intro l0 l1 w0 o0 w1 o1
  exact ⟨(change l0 l1).1, (change l0 l1).2, spec_ev l0 l1, impl_ev l0 l1 o0.2 o1.2, change_ok l0 l1⟩

end Go.Proofs.Ytfnheijpgldlcaa.Pure
