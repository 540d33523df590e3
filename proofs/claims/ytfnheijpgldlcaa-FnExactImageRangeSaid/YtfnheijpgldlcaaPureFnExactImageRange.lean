/- The program's ImageRange returns what the reference's returns, for all arguments. No condition beyond the statement's own. -/
import Derived.Test.YtfnheijpgldlcaaPFnExactImageRangex0
import Derived.Test.YtfnheijpgldlcaaPFnExactImageRangex1
import Derived.Test.YtfnheijpgldlcaaPFnExactImageRangex2
import Derived.Test.YtfnheijpgldlcaaPFnExactImageRangex3
import Derived.Test.YtfnheijpgldlcaaPFnExactImageRangex4
namespace Go.Proofs.Ytfnheijpgldlcaa.Pure
open Go.RowKit Go.Proofs.Ytfnheijpgldlcaa.PFnExactImageRange Go.Proofs.YtfnheijpgldlcaaW.PrintWords Go.Proofs.YtfnheijpgldlcaaW.PrintLast Go.Proofs.YtfnheijpgldlcaaW.PrintMore
set_option linter.unusedVariables false
set_option linter.unusedSimpArgs false

theorem w64 {x : Int} (h0 : -9223372036854775808 ≤ x) (h1 : x ≤ 9223372036854775807) : wrap64 x = x := by unfold wrap64; omega
theorem rd_nat (l : List Int) (i : Nat) : rd l (i : Int) = l.getD i 0 := by unfold rd; rw [Int.toNat_natCast]
theorem getD_mem {α : Type} {l : List α} {i : Nat} (d : α) (h : i < l.length) : l.getD i d ∈ l := by
  rw [List.getD_eq_getElem?_getD, List.getElem?_eq_getElem h]; exact List.getElem_mem _
theorem getD_lt {α : Type} {l : List α} {i : Nat} (d : α) (h : i < l.length) : l.getD i d = l[i] := by
  rw [List.getD_eq_getElem?_getD, List.getElem?_eq_getElem h]; rfl
theorem take_succ_getD {α : Type} (l : List α) (d : α) {i : Nat} (h : i < l.length) : l.take (i + 1) = l.take i ++ [l.getD i d] := by
  rw [List.take_succ_eq_append_getElem h, getD_lt d h]
/-- A loop that copies a list, element by element. -/
theorem ev_copy {α : Type} (L : Nat → List α → List α → Int → Option (List α)) (xs : List α) (d d' : α)
    (step : ∀ ys i, i < xs.length → ys.length = xs.length → ∀ r, Ev (fun k => L k xs (ys.set i (xs.getD i d)) ((i + 1 : Nat) : Int)) r → Ev (fun k => L k xs ys (i : Int)) r)
    (fin : ∀ ys, Ev (fun k => L k xs ys (xs.length : Int)) ys) : Ev (fun k => L k xs (List.replicate xs.length d') 0) xs := by
  have key : ∀ (m i : Nat) (ys : List α), i + m = xs.length → ys.length = xs.length → (∀ j, j < i → ys[j]? = xs[j]?) → Ev (fun k => L k xs ys (i : Int)) xs := by
    intro m
    induction m with
    | zero =>
      intro i ys hi hl hj
      have e : ys = xs := List.ext_getElem? (fun j => by
        by_cases h : j < xs.length
        · exact hj j (by omega)
        · rw [List.getElem?_eq_none (by omega), List.getElem?_eq_none (by omega)])
      have : i = xs.length := by omega
      subst this
      rw [e]
      exact fin xs
    | succ m ih =>
      intro i ys hi hl hj
      refine step ys i (by omega) hl xs (ih (i + 1) _ (by omega) (by rw [List.length_set]; exact hl) (fun j hjj => ?_))
      by_cases h : j = i
      · subst h
        rw [List.getElem?_set_self (by omega), getD_lt d (by omega), List.getElem?_eq_getElem (by omega)]
      · rw [List.getElem?_set_ne (by omega)]
        exact hj j (by omega)
  exact key xs.length 0 _ (by omega) (List.length_replicate ..) (fun j hj => absurd hj (Nat.not_lt_zero _))
/-- A loop that compares two lists. -/
theorem ev_eq {α : Type} (L : Nat → List α → List α → Int → Option Bool) (xs : List α) 
    (step : ∀ i, i < xs.length → Ev (fun k => L k xs xs ((i + 1 : Nat) : Int)) true → Ev (fun k => L k xs xs (i : Int)) true)
    (fin : Ev (fun k => L k xs xs (xs.length : Int)) true) : Ev (fun k => L k xs xs 0) true := by
  have key : ∀ (m i : Nat), i + m = xs.length → Ev (fun k => L k xs xs (i : Int)) true := by
    intro m
    induction m with
    | zero =>
      intro i hi
      have : i = xs.length := by omega
      subst this
      exact fin
    | succ m ih => intro i hi; exact step i (by omega) (ih (i + 1) (by omega))
  exact key xs.length 0 (by omega)

/-- A loop that looks at all elements: on, or out with b; at the end c. -/
theorem ev_all {α ρ : Type} (L : Nat → Int → Option ρ) (xs : List α) (d : α) (p : α → Bool) (b c : ρ)
    (step : ∀ i, i < xs.length → p (xs.getD i d) = true → ∀ r, Ev (fun k => L k ((i + 1 : Nat) : Int)) r → Ev (fun k => L k (i : Int)) r)
    (bad : ∀ i, i < xs.length → p (xs.getD i d) = false → Ev (fun k => L k (i : Int)) b)
    (fin : Ev (fun k => L k (xs.length : Int)) c) : Ev (fun k => L k 0) (if xs.all p = true then c else b) := by
  have key : ∀ (m i : Nat), i + m = xs.length → Ev (fun k => L k (i : Int)) (if (xs.drop i).all p = true then c else b) := by
    intro m
    induction m with
    | zero =>
      intro i hi
      have : i = xs.length := by omega
      subst this
      rw [List.drop_length]
      exact fin
    | succ m ih =>
      intro i hi
      have hlt : i < xs.length := by omega
      rw [List.drop_eq_getElem_cons hlt, List.all_cons, ← getD_lt d hlt]
      cases hp : p (xs.getD i d) with
      | true => rw [Bool.true_and]; exact step i hlt hp _ (ih (i + 1) (by omega))
      | false => rw [Bool.false_and, if_neg (by decide)]; exact bad i hlt hp
  exact key xs.length 0 (by omega)
/-- The loop that counts what is read. -/
theorem ev_sz {α : Type} (L : Nat → Int → Int → Option Int) (xs : List α) (d : α) (B : α → Prop)
    (step : ∀ i a, i < xs.length → 0 ≤ a → a ≤ 1048576 → Ev (fun k => L k a (i : Int)) (-1) ∨ (∃ a', 0 ≤ a' ∧ a' ≤ a ∧ B (xs.getD i d) ∧ ∀ r, Ev (fun k => L k a' ((i + 1 : Nat) : Int)) r → Ev (fun k => L k a (i : Int)) r))
    (fin : ∀ a, Ev (fun k => L k a (xs.length : Int)) a) : ∀ a, 0 ≤ a → a ≤ 1048576 → ∃ r, Ev (fun k => L k a 0) r ∧ (r < 0 ∨ (0 ≤ r ∧ r ≤ a ∧ ∀ x ∈ xs, B x)) := by
  have key : ∀ (m i : Nat) (a : Int), i + m = xs.length → 0 ≤ a → a ≤ 1048576 → ∃ r, Ev (fun k => L k a (i : Int)) r ∧ (r < 0 ∨ (0 ≤ r ∧ r ≤ a ∧ ∀ j, i ≤ j → j < xs.length → B (xs.getD j d))) := by
    intro m
    induction m with
    | zero =>
      intro i a hi h0 h1
      have : i = xs.length := by omega
      subst this
      exact ⟨a, fin a, .inr ⟨h0, Int.le_refl _, fun j h2 h3 => by omega⟩⟩
    | succ m ih =>
      intro i a hi h0 h1
      rcases step i a (by omega) h0 h1 with h | ⟨a', h2, h3, hB, h⟩
      · exact ⟨-1, h, .inl (by decide)⟩
      · obtain ⟨r, hr, hq⟩ := ih (i + 1) a' (by omega) h2 (by omega)
        refine ⟨r, h r hr, ?_⟩
        rcases hq with hq | ⟨q0, q1, q2⟩
        · exact .inl hq
        · refine .inr ⟨q0, by omega, fun j h4 h5 => ?_⟩
          by_cases e : j = i
          · subst e; exact hB
          · exact q2 j (by omega) h5
  intro a h0 h1
  obtain ⟨r, hr, hq⟩ := key xs.length 0 a (by omega) h0 h1
  refine ⟨r, hr, hq.imp_right fun ⟨q0, q1, q2⟩ => ⟨q0, q1, fun x hx => ?_⟩⟩
  obtain ⟨j, hj, rfl⟩ := List.mem_iff_getElem.1 hx
  rw [← getD_lt d hj]
  exact q2 j (Nat.zero_le _) hj

theorem szInt64S_eq (l : List Int) (a : Int) (hl : l.length ≤ maxLen) (h0 : 0 ≤ a) (h1 : a ≤ 1048576) : ∃ r, laws_szInt64S.f l a = some r ∧ (r < 0 ∨ (0 ≤ r ∧ r ≤ a ∧ (l.length : Int) ≤ a)) := by
  unfold maxLen at hl
  unfold laws_szInt64S.f
  rw [w64 (by omega) (by omega)]
  split
  · exact ⟨_, rfl, .inl (by decide)⟩
  · exact ⟨_, rfl, .inr ⟨by omega, by omega, by omega⟩⟩
theorem szInt64SS_ev3 (l : List (List Int)) (a : Int) (hl : l.length ≤ maxLen) (hl2 : ∀ x ∈ l, x.length ≤ maxLen) (h0 : 0 ≤ a) (h1 : a ≤ 1048576) :
    ∃ r, Ev (fun k => laws_szInt64SS.f k l a) r ∧ (r < 0 ∨ (0 ≤ r ∧ r ≤ a ∧ l.length ≤ 1048576 ∧ ∀ x ∈ l, x.length ≤ 1048576)) := by
  unfold maxLen at hl
  unfold laws_szInt64SS.f
  rw [w64 (by omega) (by omega)]
  by_cases h : a - l.length < 0
  · simp only [h, if_true]
    exact ⟨-1, Ev.now _, .inl (by decide)⟩
  · simp only [h, if_false]
    obtain ⟨r, hr, hq⟩ := ev_sz (fun k a i => laws_szInt64SS.l0 k l a i) l [] (fun x => x.length ≤ 1048576) (fun i a hi h0 h1 => by
      obtain ⟨r, hr, hq⟩ := szInt64S_eq (l.getD i []) a (hl2 _ (getD_mem _ hi)) h0 h1
      have e : ∀ k, laws_szInt64SS.l0 (k + 1) l a i = if r < 0 then some (-1) else laws_szInt64SS.l0 k l r ((i + 1 : Nat) : Int) := fun k => by
        simp only [laws_szInt64SS.l0]
        rw [if_pos (by omega), if_pos (by omega)]
        unfold rd_L1
        rw [Int.toNat_natCast, hr]
        simp only [Option.bind_some]
        rw [w64 (by omega) (by omega)]
        rfl
      rcases hq with hq | ⟨q0, q1, q2⟩
      · exact .inl (Ev.step (f := fun _ => some (-1)) (fun k => by rw [e, if_pos hq]) (Ev.now _))
      · exact .inr ⟨r, q0, q1, by omega, fun s hs => Ev.step (fun k => by rw [e, if_neg (by omega)]) hs⟩) (fun a => Ev.step (f := fun _ => some a) (fun k => by simp only [laws_szInt64SS.l0]; rw [if_neg (by omega)]) (Ev.now _)) (a - l.length) (by omega) (by omega)
    exact ⟨r, hr, hq.imp_right fun ⟨q0, q1, q2⟩ => ⟨q0, by omega, by omega, q2⟩⟩
theorem szInt64SS_ev (l : List (List Int)) (a : Int) (hl : l.length ≤ maxLen) (hl2 : ∀ x ∈ l, x.length ≤ maxLen) (h0 : 0 ≤ a) (h1 : a ≤ 1048576) :
    ∃ r, Ev (fun k => laws_szInt64SS.f k l a) r ∧ (r < 0 ∨ (l.length ≤ 1048576 ∧ ∀ x ∈ l, x.length ≤ 1048576)) := by
  obtain ⟨r, hr, hq⟩ := szInt64SS_ev3 l a hl hl2 h0 h1
  exact ⟨r, hr, hq.imp_right fun h => h.2.2⟩

def okInt64SS (l : List (List Int)) : Prop := l.length ≤ 1048576 ∧ ∀ x ∈ l, x.length ≤ 1048576

theorem szInt64SS_evo (l : List (List Int)) (a : Int) (hw : l.length ≤ maxLen ∧ ∀ x0 ∈ l, x0.length ≤ maxLen ∧ ∀ x1 ∈ x0, (Lit.int .i64 x1).wf = true) (h0 : 0 ≤ a) (h1 : a ≤ 1048576) :
    ∃ r, Ev (fun k => laws_szInt64SS.f k l a) r ∧ (r < 0 ∨ (0 ≤ r ∧ r ≤ a ∧ okInt64SS l)) := szInt64SS_ev3 l a hw.1 (fun x hx => (hw.2 x hx).1) h0 h1

theorem toInt64S_ev (l : List Int) (h : l.length ≤ 35184372088832) : Ev (fun k => laws_toInt64S.f k l) l := by
  refine Ev.congr (f := fun k => laws_toInt64S.l0 k l (List.replicate l.length 0) 0) (fun k => ?_) ?_
  · unfold laws_toInt64S.f
    rw [if_pos (by omega), if_pos (by omega), Int.toNat_natCast]
  · refine ev_copy laws_toInt64S.l0 l 0 0 (fun ys i hi hl r hr => ?_) (fun ys => ?_)
    · refine Ev.step (fun k => ?_) hr
      simp only [laws_toInt64S.l0]
      rw [if_pos (by omega), if_pos (by omega), if_pos (by omega), w64 (by omega) (by omega), rd_nat, Int.toNat_natCast]
      rfl
    · refine Ev.step (f := fun _ => some ys) (fun k => ?_) (Ev.now _)
      simp only [laws_toInt64S.l0]
      rw [if_neg (by omega)]

theorem toInt64SS_ev (l : List (List Int)) (h : l.length ≤ 1048576) (h2 : ∀ x ∈ l, x.length ≤ 1048576) : Ev (fun k => laws_toInt64SS.f k l) l := by
  refine Ev.congr (f := fun k => laws_toInt64SS.l0 k l (List.replicate l.length []) 0) (fun k => ?_) ?_
  · unfold laws_toInt64SS.f
    rw [if_pos (by omega), if_pos (by omega), Int.toNat_natCast]
  · refine ev_copy laws_toInt64SS.l0 l [] [] (fun ys i hi hl r hr => ?_) (fun ys => ?_)
    · refine Ev.step (f := fun k => (laws_toInt64S.f k (l.getD i [])).bind fun t => laws_toInt64SS.l0 k l (ys.set i t) ((i + 1 : Nat) : Int)) (fun k => ?_) (Ev.bind (toInt64S_ev _ (by have := h2 _ (getD_mem [] hi); omega)) hr)
      simp only [laws_toInt64SS.l0]
      rw [if_pos (by omega), if_pos (by omega)]
      simp only [show (i : Int) < ys.length by omega, if_true]
      rw [w64 (by omega) (by omega)]
      unfold rd_L1
      rw [Int.toNat_natCast]
      rfl
    · refine Ev.step (f := fun _ => some ys) (fun k => ?_) (Ev.now _)
      simp only [laws_toInt64SS.l0]
      rw [if_neg (by omega)]

theorem toInt64SS_evo (l : List (List Int)) (h : okInt64SS l) : Ev (fun k => laws_toInt64SS.f k l) l := toInt64SS_ev l h.1 h.2

theorem eqInt64S_ev (l : List Int) (h : l.length ≤ 9223372036854775806) : Ev (fun k => laws_eqInt64S.f k l l) true := by
  refine Ev.congr (f := fun k => laws_eqInt64S.l0 k l l 0) (fun k => ?_) ?_
  · unfold laws_eqInt64S.f
    rw [if_pos rfl]
  · refine ev_eq laws_eqInt64S.l0 l (fun i hi hr => ?_) ?_
    · refine Ev.step (fun k => ?_) hr
      simp only [laws_eqInt64S.l0]
      rw [if_pos (by omega), if_pos (by omega), if_pos (by omega), if_pos trivial, w64 (by omega) (by omega)]
      rfl
    · refine Ev.step (f := fun _ => some true) (fun k => ?_) (Ev.now _)
      simp only [laws_eqInt64S.l0]
      rw [if_neg (by omega)]

theorem eqInt64SS_ev (l : List (List Int)) (h : l.length ≤ 1048576) (h2 : ∀ x ∈ l, x.length ≤ 1048576) : Ev (fun k => laws_eqInt64SS.f k l l) true := by
  refine Ev.congr (f := fun k => laws_eqInt64SS.l0 k l l 0) (fun k => ?_) ?_
  · unfold laws_eqInt64SS.f
    rw [if_pos rfl]
  · refine ev_eq laws_eqInt64SS.l0 l (fun i hi hr => ?_) ?_
    · refine Ev.step (f := fun k => (laws_eqInt64S.f k (l.getD i []) (l.getD i [])).bind fun t => if t = true then laws_eqInt64SS.l0 k l l ((i + 1 : Nat) : Int) else some false) (fun k => ?_) (Ev.bind (eqInt64S_ev _ (by have := h2 _ (getD_mem [] hi); omega)) hr)
      simp only [laws_eqInt64SS.l0]
      rw [if_pos (by omega), if_pos (by omega), if_pos (by omega), w64 (by omega) (by omega)]
      unfold rd_L1
      rw [Int.toNat_natCast]
      rfl
    · refine Ev.step (f := fun _ => some true) (fun k => ?_) (Ev.now _)
      simp only [laws_eqInt64SS.l0]
      rw [if_neg (by omega)]

theorem eqInt64SS_evo (l : List (List Int)) (h : okInt64SS l) : Ev (fun k => laws_eqInt64SS.f k l l) true := eqInt64SS_ev l h.1 h.2

def rowOk (l : List (List Int)) (row : List Int) : Bool := decide (1 ≤ row.length) && (decide (row.length ≤ 16) && (decide (row.length = (l.getD 0 []).length) && row.all (inB (-5000) 20000)))
def imgOk (l : List (List Int)) : Bool := decide (1 ≤ l.length) && (decide (l.length ≤ 16) && l.all (rowOk l))

theorem specCell_eq (x : Int) : spec_l28Cell.f x = some (inB (-5000) 20000 x) := by
  unfold spec_l28Cell.f spec_l00In.f inB
  by_cases h : x ≥ -5000
  · rw [if_pos h, decide_eq_true (show -5000 ≤ x from h)]; rfl
  · rw [if_neg h, decide_eq_false (show ¬ -5000 ≤ x from h)]; rfl
theorem specOk_row (l : List (List Int)) (hl : l.length ≤ 16) (i : Nat) (hi : i < l.length) (h16 : (l.getD i []).length ≤ 16) (r : Bool) (hr : Ev (fun k => spec_l28Ok.l0 k l ((i + 1 : Nat) : Int)) r) :
    Ev (fun k => spec_l28Ok.l1 k l i 0) (if (l.getD i []).all (inB (-5000) 20000) = true then r else false) := by
  have ur : rd_L1 l i = l.getD i [] := by unfold rd_L1; rw [Int.toNat_natCast]
  refine ev_all (fun k j => spec_l28Ok.l1 k l i j) (l.getD i []) 0 (inB (-5000) 20000) false r (fun j hj hp s hs => ?_) (fun j hj hp => ?_) ?_
  · refine Ev.step (fun k => ?_) hs
    simp only [spec_l28Ok.l1]
    rw [if_pos (by omega), if_pos (by omega), ur, if_pos (by omega), if_pos (by omega), rd_nat, specCell_eq, hp]
    simp only [Option.bind_some, if_true]
    rw [w64 (by omega) (by omega)]
    rfl
  · refine Ev.step (f := fun _ => some false) (fun k => ?_) (Ev.now _)
    simp only [spec_l28Ok.l1]
    rw [if_pos (by omega), if_pos (by omega), ur, if_pos (by omega), if_pos (by omega), rd_nat, specCell_eq, hp]
    rfl
  · refine Ev.step (fun k => ?_) hr
    simp only [spec_l28Ok.l1]
    rw [if_pos (by omega), if_pos (by omega), ur, if_neg (by omega), w64 (by omega) (by omega)]
    rfl
theorem specOk_ev (l : List (List Int)) : Ev (fun k => spec_l28Ok.f k l) (imgOk l) := by
  unfold spec_l28Ok.f imgOk
  by_cases h1 : l.length < 1
  · simp only [show (l.length : Int) < 1 by omega, if_true]
    rw [decide_eq_false (by omega), Bool.false_and]
    exact Ev.step (f := fun _ => some false) (fun k => by simp [spec_l28Ok.j0]) (Ev.now _)
  · simp only [show ¬ (l.length : Int) < 1 by omega, if_false]
    rw [decide_eq_true (show 1 ≤ l.length by omega), Bool.true_and]
    by_cases h16 : l.length > 16
    · rw [decide_eq_false (show ¬ l.length ≤ 16 by omega), Bool.false_and]
      exact Ev.step (f := fun _ => some false) (fun k => by simp only [spec_l28Ok.j0]; rw [if_pos (decide_eq_true (by omega))]) (Ev.now _)
    · rw [decide_eq_true (show l.length ≤ 16 by omega), Bool.true_and]
      refine Ev.step (f := fun k => spec_l28Ok.l0 k l 0) (fun k => by simp only [spec_l28Ok.j0]; rw [if_neg (by simp; omega)]) ?_
      have key := ev_all (fun k i => spec_l28Ok.l0 k l i) l [] (rowOk l) false true (fun i hi hp s hs => ?_) (fun i hi hp => ?_) ?_
      · revert key
        cases l.all (rowOk l) <;> exact id
      · have ur : rd_L1 l i = l.getD i [] := by unfold rd_L1; rw [Int.toNat_natCast]
        have u0 : rd_L1 l 0 = l.getD 0 [] := rfl
        simp only [rowOk, Bool.and_eq_true, decide_eq_true_eq] at hp
        obtain ⟨p1, p2, p3, p4⟩ := hp
        refine Ev.step (f := fun k => spec_l28Ok.j2 k l i false) (fun k => ?_) (Ev.step (f := fun k => spec_l28Ok.l1 k l i 0) (fun k => by simp [spec_l28Ok.j2]) ?_)
        · simp only [spec_l28Ok.l0]
          rw [if_pos (by omega), if_pos (by omega), ur, u0, if_neg (by omega), if_neg (by omega), if_pos (by omega), p3]
          simp
        · have := specOk_row l (by omega) i hi p2 s hs
          rw [p4, if_pos rfl] at this
          exact this
      · have ur : rd_L1 l i = l.getD i [] := by unfold rd_L1; rw [Int.toNat_natCast]
        have u0 : rd_L1 l 0 = l.getD 0 [] := rfl
        have fin : Ev (fun k => spec_l28Ok.j2 k l i true) false := Ev.step (f := fun _ => some false) (fun k => by simp [spec_l28Ok.j2]) (Ev.now _)
        by_cases g1 : (l.getD i []).length < 1
        · refine Ev.step (fun k => ?_) fin
          simp only [spec_l28Ok.l0]
          rw [if_pos (by omega), if_pos (by omega), ur, if_pos (by omega)]
        · by_cases g2 : (l.getD i []).length > 16
          · refine Ev.step (fun k => ?_) fin
            simp only [spec_l28Ok.l0]
            rw [if_pos (by omega), if_pos (by omega), ur, if_neg (by omega), if_pos (by omega)]
          · by_cases g3 : (l.getD i []).length = (l.getD 0 []).length
            · have g4 : (l.getD i []).all (inB (-5000) 20000) = false := by
                simp only [rowOk] at hp
                rw [decide_eq_true (by omega), decide_eq_true (by omega), decide_eq_true g3] at hp
                simpa using hp
              refine Ev.step (f := fun k => spec_l28Ok.j2 k l i false) (fun k => ?_) (Ev.step (f := fun k => spec_l28Ok.l1 k l i 0) (fun k => by simp [spec_l28Ok.j2]) ?_)
              · simp only [spec_l28Ok.l0]
                rw [if_pos (by omega), if_pos (by omega), ur, u0, if_neg (by omega), if_neg (by omega), if_pos (by omega), g3]
                simp
              · -- some cell is out of bounds: whatever follows is not come to
                obtain ⟨x, hx, hxb⟩ := List.all_eq_false.1 g4
                have : ∀ (m j : Nat), j + m = (l.getD i []).length → (∃ q, j ≤ q ∧ q < (l.getD i []).length ∧ inB (-5000) 20000 ((l.getD i []).getD q 0) = false) → Ev (fun k => spec_l28Ok.l1 k l i j) false := by
                  intro m
                  induction m with
                  | zero => rintro j hj ⟨q, q1, q2, q3⟩; omega
                  | succ m ih =>
                    rintro j hj ⟨q, q1, q2, q3⟩
                    cases hc : inB (-5000) 20000 ((l.getD i []).getD j 0) with
                    | true =>
                      have : q ≠ j := by rintro rfl; rw [hc] at q3; cases q3
                      refine Ev.step (fun k => ?_) (ih (j + 1) (by omega) ⟨q, by omega, q2, q3⟩)
                      simp only [spec_l28Ok.l1]
                      rw [if_pos (by omega), if_pos (by omega), ur, if_pos (by omega), if_pos (by omega), rd_nat, specCell_eq, hc]
                      simp only [Option.bind_some, if_true]
                      rw [w64 (by omega) (by omega)]
                      rfl
                    | false =>
                      refine Ev.step (f := fun _ => some false) (fun k => ?_) (Ev.now _)
                      simp only [spec_l28Ok.l1]
                      rw [if_pos (by omega), if_pos (by omega), ur, if_pos (by omega), if_pos (by omega), rd_nat, specCell_eq, hc]
                      rfl
                obtain ⟨q, hq, rfl⟩ := List.mem_iff_getElem.1 hx
                exact this (l.getD i []).length 0 (by omega) ⟨q, Nat.zero_le _, hq, by rw [getD_lt 0 hq]; simpa using hxb⟩
            · refine Ev.step (f := fun k => spec_l28Ok.j2 k l i true) (fun k => ?_) fin
              simp only [spec_l28Ok.l0]
              rw [if_pos (by omega), if_pos (by omega), ur, u0, if_neg (by omega), if_neg (by omega), if_pos (by omega)]
              congr 1
              exact bne_iff_ne.mpr (by omega)
      · refine Ev.step (f := fun _ => some true) (fun k => ?_) (Ev.now _)
        simp only [spec_l28Ok.l0]
        rw [if_neg (by omega)]

theorem implOk_ev (l : List (List Int)) (hlen : ∀ x ∈ l, x.length ≤ 1048576) : Ev (fun k => impl_ValidImage.f k l) (imgOk l) := by
  unfold impl_ValidImage.f imgOk
  by_cases h1 : l.length < 1
  · simp only [show (l.length : Int) < 1 by omega, if_true]
    rw [decide_eq_false (by omega), Bool.false_and]
    exact Ev.step (f := fun _ => some false) (fun k => by simp [impl_ValidImage.j0]) (Ev.now _)
  · simp only [show ¬ (l.length : Int) < 1 by omega, if_false]
    rw [decide_eq_true (show 1 ≤ l.length by omega), Bool.true_and]
    by_cases h16 : l.length > 16
    · rw [decide_eq_false (show ¬ l.length ≤ 16 by omega), Bool.false_and]
      exact Ev.step (f := fun _ => some false) (fun k => by simp only [impl_ValidImage.j0]; rw [if_pos (decide_eq_true (by omega))]) (Ev.now _)
    · rw [decide_eq_true (show l.length ≤ 16 by omega), Bool.true_and]
      refine Ev.step (f := fun k => impl_ValidImage.l0 k l l l.length 0) (fun k => by simp only [impl_ValidImage.j0]; rw [if_neg (by simp; omega)]) ?_
      have key := ev_all (fun k i => impl_ValidImage.l0 k l l l.length i) l [] (rowOk l) false true (fun i hi hp s hs => ?_) (fun i hi hp => ?_) ?_
      · revert key
        cases l.all (rowOk l) <;> exact id
      · have ur : rd_L1 l i = l.getD i [] := by unfold rd_L1; rw [Int.toNat_natCast]
        have u0 : rd_L1 l 0 = l.getD 0 [] := rfl
        have hll := hlen _ (getD_mem [] hi)
        simp only [rowOk, Bool.and_eq_true, decide_eq_true_eq] at hp
        obtain ⟨p1, p2, p3, p4⟩ := hp
        refine Ev.step (fun k => ?_) hs
        simp only [impl_ValidImage.l0]
        rw [if_pos (by omega), if_pos (by omega), if_pos (by omega), ur, u0, if_neg (by omega), if_neg (by omega), if_pos (by omega), if_pos (by omega)]
        unfold impl_allWithin.f
        rw [if_pos (by omega), p4]
        simp only [Option.bind_some, if_true]
        rw [w64 (by omega) (by omega)]
        rfl
      · have ur : rd_L1 l i = l.getD i [] := by unfold rd_L1; rw [Int.toNat_natCast]
        have u0 : rd_L1 l 0 = l.getD 0 [] := rfl
        have hll := hlen _ (getD_mem [] hi)
        refine Ev.step (f := fun _ => some false) (fun k => ?_) (Ev.now _)
        simp only [impl_ValidImage.l0]
        rw [if_pos (by omega), if_pos (by omega), if_pos (by omega), ur, u0]
        by_cases g1 : (l.getD i []).length < 1
        · rw [if_pos (by omega)]
        · rw [if_neg (by omega)]
          by_cases g2 : (l.getD i []).length > 16
          · rw [if_pos (by omega)]
          · rw [if_neg (by omega), if_pos (by omega)]
            by_cases g3 : (l.getD i []).length = (l.getD 0 []).length
            · have g4 : (l.getD i []).all (inB (-5000) 20000) = false := by
                simp only [rowOk] at hp
                rw [decide_eq_true (by omega), decide_eq_true (by omega), decide_eq_true g3] at hp
                simpa using hp
              rw [if_pos (by omega)]
              unfold impl_allWithin.f
              rw [if_pos (by omega), g4]
              rfl
            · rw [if_neg (by omega)]
      · refine Ev.step (f := fun _ => some true) (fun k => ?_) (Ev.now _)
        simp only [impl_ValidImage.l0]
        rw [if_neg (by omega)]

theorem imgOk_facts {l : List (List Int)} (h : imgOk l = true) : 1 ≤ l.length ∧ l.length ≤ 16 ∧ ∀ i, i < l.length → (l.getD i []).length = (l.getD 0 []).length ∧ 1 ≤ (l.getD i []).length ∧ (l.getD i []).length ≤ 16 ∧ ∀ j, j < (l.getD i []).length → -5000 ≤ (l.getD i []).getD j 0 ∧ (l.getD i []).getD j 0 ≤ 20000 := by
  simp only [imgOk, Bool.and_eq_true, decide_eq_true_eq, List.all_eq_true] at h
  refine ⟨h.1, h.2.1, fun i hi => ?_⟩
  have hr := h.2.2 _ (getD_mem [] hi)
  simp only [rowOk, Bool.and_eq_true, decide_eq_true_eq, List.all_eq_true] at hr
  refine ⟨hr.2.2.1, hr.1, hr.2.1, fun j hj => ?_⟩
  have := hr.2.2.2 _ (getD_mem 0 hj)
  simpa [inB] using this
theorem imgOk_rows {l : List (List Int)} (h : imgOk l = true) : ∀ x ∈ l, x.length = (l.getD 0 []).length ∧ 1 ≤ x.length ∧ x.length ≤ 16 ∧ ∀ y ∈ x, -5000 ≤ y ∧ y ≤ 20000 := by
  simp only [imgOk, Bool.and_eq_true, decide_eq_true_eq, List.all_eq_true] at h
  intro x hx
  have hr := h.2.2 x hx
  simp only [rowOk, Bool.and_eq_true, decide_eq_true_eq, List.all_eq_true] at hr
  exact ⟨hr.2.2.1, hr.1, hr.2.1, fun y hy => by simpa [inB] using hr.2.2.2 y hy⟩
theorem rdL (l : List (List Int)) (i : Nat) : rd_L1 l i = l.getD i [] := by unfold rd_L1; rw [Int.toNat_natCast]
theorem flat_len : ∀ (l : List (List Int)) (c : Nat), (∀ x ∈ l, x.length = c) → l.flatten.length = l.length * c
  | [], c, _ => by simp
  | x :: xs, c, h => by
    rw [List.flatten_cons, List.length_append, flat_len xs c (fun y hy => h y (List.mem_cons_of_mem _ hy)), h x List.mem_cons_self, List.length_cons, Nat.add_mul]
    omega
theorem imgOk_flat {l : List (List Int)} (h : imgOk l = true) : l.flatten.length = l.length * (l.getD 0 []).length ∧ 1 ≤ l.flatten.length ∧ l.flatten.length ≤ 256 ∧ ∀ y ∈ l.flatten, -5000 ≤ y ∧ y ≤ 20000 := by
  obtain ⟨h1, h2, hf⟩ := imgOk_facts h
  have hr := imgOk_rows h
  have e := flat_len l _ (fun x hx => (hr x hx).1)
  have f0 := hf 0 (by omega)
  have a1 : 1 * 1 ≤ l.length * (l.getD 0 []).length := Nat.mul_le_mul h1 f0.2.1
  have a2 : l.length * (l.getD 0 []).length ≤ 16 * 16 := Nat.mul_le_mul h2 f0.2.2.1
  refine ⟨e, by omega, by omega, fun y hy => ?_⟩
  obtain ⟨x, hx, hyx⟩ := List.mem_flatten.1 hy
  exact (hr x hx).2.2.2 y hyx

theorem foldl_take_succ {α σ : Type} (g : σ → α → σ) (xs : List α) (d : α) (s0 : σ) {i : Nat} (h : i < xs.length) : (xs.take (i + 1)).foldl g s0 = g ((xs.take i).foldl g s0) (xs.getD i d) := by
  rw [take_succ_getD xs d h, List.foldl_append]; rfl
/-- A loop that folds a list. -/
theorem ev_fold {α σ ρ : Type} (L : Nat → σ → Int → Option ρ) (xs : List α) (d : α) (g : σ → α → σ) (I : Nat → σ → Prop) (r : ρ) (s0 : σ) (h0 : I 0 s0)
    (step : ∀ i s, i < xs.length → I i s → I (i + 1) (g s (xs.getD i d)) ∧ (Ev (fun k => L k (g s (xs.getD i d)) ((i + 1 : Nat) : Int)) r → Ev (fun k => L k s (i : Int)) r))
    (fin : I xs.length (xs.foldl g s0) → Ev (fun k => L k (xs.foldl g s0) (xs.length : Int)) r) : Ev (fun k => L k s0 0) r := by
  have key : ∀ (m i : Nat), i + m = xs.length → I i ((xs.take i).foldl g s0) → Ev (fun k => L k ((xs.take i).foldl g s0) (i : Int)) r := by
    intro m
    induction m with
    | zero =>
      intro i hi hI
      have : i = xs.length := by omega
      subst this
      rw [List.take_length] at hI ⊢
      exact fin hI
    | succ m ih =>
      intro i hi hI
      obtain ⟨h1, h2⟩ := step i _ (by omega) hI
      have := ih (i + 1) (by omega)
      rw [foldl_take_succ g xs d s0 (by omega)] at this
      exact h2 (this h1)
  exact key xs.length 0 (by omega) h0

def lo2 (a b : Int) : Int := if b < a then b else a
def hi2 (a b : Int) : Int := if a < b then b else a
def range (l : List (List Int)) : Int × Int × Int := if imgOk l = true then (l.flatten.foldl lo2 ((l.getD 0 []).getD 0 0), l.flatten.foldl hi2 ((l.getD 0 []).getD 0 0), 0) else (0, 0, 1)
theorem min_eq (a b : Int) : spec_l00Min.f a b = some (lo2 a b) := by
  unfold spec_l00Min.f lo2
  by_cases h : a < b
  · rw [if_pos h, if_neg (by omega)]
  · rw [if_neg h]
    by_cases h2 : b < a
    · rw [if_pos h2]
    · rw [if_neg h2]; congr 1; omega
theorem max_eq (a b : Int) : spec_l00Max.f a b = some (hi2 a b) := by
  unfold spec_l00Max.f hi2
  by_cases h : a > b
  · rw [if_pos h, if_neg (by omega)]
  · rw [if_neg h]
    by_cases h2 : a < b
    · rw [if_pos h2]
    · rw [if_neg h2]; congr 1; omega
theorem spec_loop (l : List (List Int)) (h : imgOk l = true) : Ev (fun k => spec_ImageRange.l0 k l ((l.getD 0 []).getD 0 0) ((l.getD 0 []).getD 0 0) 0) (range l) := by
  obtain ⟨h1, h2, hf⟩ := imgOk_facts h
  refine ev_fold (fun k (s : Int × Int) i => spec_ImageRange.l0 k l s.1 s.2 i) l [] (fun s row => row.foldl (fun t y => (lo2 t.1 y, hi2 t.2 y)) s) (fun _ _ => True) _ ((l.getD 0 []).getD 0 0, (l.getD 0 []).getD 0 0) trivial (fun i s hi _ => ⟨trivial, fun hs => ?_⟩) (fun _ => ?_)
  · have g := hf i hi
    refine Ev.step (f := fun k => spec_ImageRange.l1 k l s.1 s.2 i 0) (fun k => by simp only [spec_ImageRange.l0]; rw [if_pos (by omega)]) ?_
    refine ev_fold (fun k (t : Int × Int) j => spec_ImageRange.l1 k l t.1 t.2 i j) (l.getD i []) 0 (fun t y => (lo2 t.1 y, hi2 t.2 y)) (fun _ _ => True) _ s trivial (fun j t hj _ => ⟨trivial, fun hs2 => ?_⟩) (fun _ => ?_)
    · refine Ev.step (fun k => ?_) hs2
      simp only [spec_ImageRange.l1]
      rw [if_pos (by omega), if_pos (by omega), rdL, if_pos (by omega), if_pos (by omega), rd_nat, min_eq]
      simp only [Option.bind_some]
      rw [max_eq]
      simp only [Option.bind_some]
      rw [w64 (by omega) (by omega)]
      rfl
    · refine Ev.step (fun k => ?_) hs
      simp only [spec_ImageRange.l1]
      rw [if_pos (by omega), if_pos (by omega), rdL, if_neg (by omega), w64 (by omega) (by omega)]
      rfl
  · refine Ev.step (f := fun _ => some (range l)) (fun k => ?_) (Ev.now _)
    simp only [spec_ImageRange.l0]
    rw [if_neg (by omega)]
    unfold range
    rw [if_pos h, List.foldl_flatten, List.foldl_flatten]
    have key : ∀ (xs : List (List Int)) (a b : Int), xs.foldl (fun (s : Int × Int) row => row.foldl (fun t y => (lo2 t.1 y, hi2 t.2 y)) s) (a, b) = (xs.foldl (List.foldl lo2) a, xs.foldl (List.foldl hi2) b) := by
      have one : ∀ (ys : List Int) (a b : Int), ys.foldl (fun (t : Int × Int) y => (lo2 t.1 y, hi2 t.2 y)) (a, b) = (ys.foldl lo2 a, ys.foldl hi2 b) := by
        intro ys
        induction ys with
        | nil => intro a b; rfl
        | cons y ys ih => intro a b; simp only [List.foldl_cons]; exact ih _ _
      intro xs
      induction xs with
      | nil => intro a b; rfl
      | cons x xs ih => intro a b; simp only [List.foldl_cons]; rw [one]; exact ih _ _
    rw [key]
theorem first_eq {l : List (List Int)} (h : imgOk l = true) : l.flatten = (l.getD 0 []).getD 0 0 :: l.flatten.tail := by
  obtain ⟨h1, h2, hf⟩ := imgOk_facts h
  have f0 := hf 0 (by omega)
  cases l with
  | nil => simp at h1
  | cons x xs =>
    cases x with
    | nil => simp at f0
    | cons y ys => simp
theorem min_ev (x : Int) (xs : List Int) (hl : xs.length ≤ 1048576) : Ev (fun k => slices_Min_int64_int64.f k (x :: xs)) (xs.foldl lo2 x) := by
  unfold slices_Min_int64_int64.f
  simp only [show ¬ ((x :: xs).length : Int) < 1 by rw [List.length_cons]; omega, show (0 : Int) < ((x :: xs).length : Int) by rw [List.length_cons]; omega, if_true, if_false]
  have key : ∀ (m i : Nat), i + m = xs.length → Ev (fun k => slices_Min_int64_int64.l0 k (x :: xs) ((xs.take i).foldl lo2 x) ((i + 1 : Nat) : Int)) (xs.foldl lo2 x) := by
    intro m
    induction m with
    | zero =>
      intro i hi
      have : i = xs.length := by omega
      subst this
      rw [List.take_length]
      refine Ev.step (f := fun _ => some _) (fun k => ?_) (Ev.now _)
      simp only [slices_Min_int64_int64.l0]
      rw [if_neg (by simp)]
    | succ m ih =>
      intro i hi
      have := ih (i + 1) (by omega)
      rw [foldl_take_succ lo2 xs 0 x (by omega)] at this
      refine Ev.step (fun k => ?_) this
      simp only [slices_Min_int64_int64.l0]
      rw [if_pos (by simp; omega), if_pos (by omega), w64 (by omega) (by omega), rd_nat]
      rfl
  exact key xs.length 0 (by omega)
theorem max_ev (x : Int) (xs : List Int) (hl : xs.length ≤ 1048576) : Ev (fun k => slices_Max_int64_int64.f k (x :: xs)) (xs.foldl hi2 x) := by
  unfold slices_Max_int64_int64.f
  simp only [show ¬ ((x :: xs).length : Int) < 1 by rw [List.length_cons]; omega, show (0 : Int) < ((x :: xs).length : Int) by rw [List.length_cons]; omega, if_true, if_false]
  have key : ∀ (m i : Nat), i + m = xs.length → Ev (fun k => slices_Max_int64_int64.l0 k (x :: xs) ((xs.take i).foldl hi2 x) ((i + 1 : Nat) : Int)) (xs.foldl hi2 x) := by
    intro m
    induction m with
    | zero =>
      intro i hi
      have : i = xs.length := by omega
      subst this
      rw [List.take_length]
      refine Ev.step (f := fun _ => some _) (fun k => ?_) (Ev.now _)
      simp only [slices_Max_int64_int64.l0]
      rw [if_neg (by simp)]
    | succ m ih =>
      intro i hi
      have := ih (i + 1) (by omega)
      rw [foldl_take_succ hi2 xs 0 x (by omega)] at this
      refine Ev.step (fun k => ?_) this
      simp only [slices_Max_int64_int64.l0]
      rw [if_pos (by simp; omega), if_pos (by omega), w64 (by omega) (by omega), rd_nat]
      rfl
  exact key xs.length 0 (by omega)
theorem spec_ev (l : List (List Int)) : Ev (fun k => spec_ImageRange.f k l) (range l) := by
  unfold spec_ImageRange.f
  refine Ev.bind (specOk_ev l) ?_
  cases h : imgOk l with
  | false =>
    simp only [Bool.false_eq_true, if_false]
    unfold range
    rw [h]
    exact Ev.now _
  | true =>
    obtain ⟨h1, h2, hf⟩ := imgOk_facts h
    have f0 := hf 0 (by omega)
    have e0 : rd_L1 l 0 = l.getD 0 [] := rfl
    simp only [e0, if_true, show (0 : Int) < (l.length : Int) by omega, show (0 : Int) < ((l.getD 0 []).length : Int) by omega]
    exact spec_loop l h
theorem impl_ev (l : List (List Int)) (o : ∀ x ∈ l, x.length ≤ 1048576) : Ev (fun k => impl_ImageRange.f k l) (range l) := by
  unfold impl_ImageRange.f
  refine Ev.bind (implOk_ev l o) ?_
  cases h : imgOk l with
  | false =>
    simp only [Bool.false_eq_true, if_false]
    unfold range
    rw [h]
    exact Ev.now _
  | true =>
    obtain ⟨e, f1, f2, f3⟩ := imgOk_flat h
    have hh := first_eq h
    simp only [if_true]
    unfold slices_Concat_int64_int64.f
    simp only [show l.flatten.length ≤ 17592186044415 by omega, if_true, Option.bind_some]
    unfold range
    rw [if_pos h]
    generalize l.flatten.tail = t at hh
    generalize (l.getD 0 []).getD 0 0 = x at hh ⊢
    rw [hh] at f2 ⊢
    rw [List.length_cons] at f2
    have e1 : (x :: t).foldl lo2 x = t.foldl lo2 x := by rw [List.foldl_cons]; unfold lo2; simp
    have e2 : (x :: t).foldl hi2 x = t.foldl hi2 x := by rw [List.foldl_cons]; unfold hi2; simp
    rw [e1, e2]
    exact Ev.bind (min_ev x t (by omega)) (Ev.bind (max_ev x t (by omega)) (Ev.now _))
theorem core : ∀ (l0 : List (List Int)) (w0 : l0.length ≤ maxLen ∧ ∀ x0 ∈ l0, x0.length ≤ maxLen ∧ ∀ x1 ∈ x0, (Lit.int .i64 x1).wf = true) (o0 : okInt64SS l0), ∃ (r1 : Int) (r2 : Int) (r3 : Int), Ev (fun k => spec_ImageRange.f k l0) (r1, r2, r3) ∧ Ev (fun k => impl_ImageRange.f k l0) (r1, r2, r3) := by
  intro l0 w0 o0
  exact ⟨(range l0).1, (range l0).2.1, (range l0).2.2, spec_ev l0, impl_ev l0 o0.2⟩

end Go.Proofs.Ytfnheijpgldlcaa.Pure
