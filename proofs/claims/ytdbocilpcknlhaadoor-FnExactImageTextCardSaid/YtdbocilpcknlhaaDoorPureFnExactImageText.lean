/- The program's ImageText returns what the reference's returns, for all arguments. No condition beyond the statement's own; the card ties the laid variables of Go's library to the program's text: a table of powers of ten, two errors, and one size. -/
import Derived.Test.YtdbocilpcknlhaaDoorPFnExactImageTextx0
import Derived.Test.YtdbocilpcknlhaaDoorPFnExactImageTextx1
import Derived.Test.YtdbocilpcknlhaaDoorPFnExactImageTextx2
import Derived.Test.YtdbocilpcknlhaaDoorPFnExactImageTextx3
import Derived.Test.YtdbocilpcknlhaaDoorPFnExactImageTextx4
namespace Go.Proofs.YtdbocilpcknlhaaDoor.Pure
open Go.RowKit Go.Proofs.YtdbocilpcknlhaaDoor.PFnExactImageText Go.Proofs.YtdbocilpcknlhaaDoorW.PrintWords Go.Proofs.YtdbocilpcknlhaaDoorW.PrintLast Go.Proofs.YtdbocilpcknlhaaDoorW.PrintMore
set_option linter.unusedVariables false
set_option linter.unusedSimpArgs false
theorem w64 {x : Int} (h0 : -9223372036854775808 ≤ x) (h1 : x ≤ 9223372036854775807) : wrap64 x = x := by unfold wrap64; omega
theorem rd_nat (l : List Int) (i : Nat) : rd l (i : Int) = l.getD i 0 := by unfold rd; rw [Int.toNat_natCast]
theorem getD_mem {α : Type} {l : List α} {i : Nat} (d : α) (h : i < l.length) : l.getD i d ∈ l := by
 rw [List.getD_eq_getElem?_getD, List.getElem?_eq_getElem h]; exact List.getElem_mem _
theorem getD_lt {α : Type} {l : List α} {i : Nat} (d : α) (h : i < l.length) : l.getD i d = l[i] := by
 rw [List.getD_eq_getElem?_getD, List.getElem?_eq_getElem h]; rfl
theorem take_succ_getD {α : Type} (l : List α) (d : α) {i : Nat} (h : i < l.length) : l.take (i + 1) = l.take i ++ [l.getD i d] := by
 rw [List.take_succ_eq_append_getElem h, getD_lt d h]
theorem ev_copy {α : Type} (L : Nat → List α → List α → Int → Option (List α)) (xs : List α) (d d' : α)
  (step : ∀ ys i, i < xs.length → ys.length = xs.length → ∀ r, Ev (fun k => L k xs (ys.set i (xs.getD i d)) ((i + 1 : Nat) : Int)) r → Ev (fun k => L k xs ys (i : Int)) r)
  (fin : ∀ ys, Ev (fun k => L k xs ys (xs.length : Int)) ys) : Ev (fun k => L k xs (List.replicate xs.length d') 0) xs := by
 have key : ∀ (m i : Nat) (ys : List α), i + m = xs.length → ys.length = xs.length → (∀ j, j < i → ys[j]? = xs[j]?) → Ev (fun k => L k xs ys (i : Int)) xs := by
  intro m
  induction m with
  | zero =>
   intro i ys hi hl hj
   have e : ys = xs := List.ext_getElem? (fun j => by
    by_cases h : j < xs.length
    ·
     exact hj j (by omega)
    ·
     rw [List.getElem?_eq_none (by omega), List.getElem?_eq_none (by omega)])
   have : i = xs.length := by omega
   subst this
   rw [e]
   exact fin xs
  | succ m ih =>
   intro i ys hi hl hj
   refine step ys i (by omega) hl xs (ih (i + 1) _ (by omega) (by rw [List.length_set]; exact hl) (fun j hjj => ?_))
   by_cases h : j = i
   ·
    subst h
    rw [List.getElem?_set_self (by omega), getD_lt d (by omega), List.getElem?_eq_getElem (by omega)]
   ·
    rw [List.getElem?_set_ne (by omega)]
    exact hj j (by omega)
 exact key xs.length 0 _ (by omega) (List.length_replicate ..) (fun j hj => absurd hj (Nat.not_lt_zero _))
theorem ev_eq {α : Type} (L : Nat → List α → List α → Int → Option Bool) (xs : List α) 
  (step : ∀ i, i < xs.length → Ev (fun k => L k xs xs ((i + 1 : Nat) : Int)) true → Ev (fun k => L k xs xs (i : Int)) true)
  (fin : Ev (fun k => L k xs xs (xs.length : Int)) true) : Ev (fun k => L k xs xs 0) true := by
 have key : ∀ (m i : Nat), i + m = xs.length → Ev (fun k => L k xs xs (i : Int)) true := by
  intro m
  induction m with
  | zero =>
   intro i hi
   have : i = xs.length := by omega
   subst this
   exact fin
  | succ m ih => intro i hi; exact step i (by omega) (ih (i + 1) (by omega))
 exact key xs.length 0 (by omega)
theorem ev_all {α ρ : Type} (L : Nat → Int → Option ρ) (xs : List α) (d : α) (p : α → Bool) (b c : ρ)
  (step : ∀ i, i < xs.length → p (xs.getD i d) = true → ∀ r, Ev (fun k => L k ((i + 1 : Nat) : Int)) r → Ev (fun k => L k (i : Int)) r)
  (bad : ∀ i, i < xs.length → p (xs.getD i d) = false → Ev (fun k => L k (i : Int)) b)
  (fin : Ev (fun k => L k (xs.length : Int)) c) : Ev (fun k => L k 0) (if xs.all p = true then c else b) := by
 have key : ∀ (m i : Nat), i + m = xs.length → Ev (fun k => L k (i : Int)) (if (xs.drop i).all p = true then c else b) := by
  intro m
  induction m with
  | zero =>
   intro i hi
   have : i = xs.length := by omega
   subst this
   rw [List.drop_length]
   exact fin
  | succ m ih =>
   intro i hi
   have hlt : i < xs.length := by omega
   rw [List.drop_eq_getElem_cons hlt, List.all_cons, ← getD_lt d hlt]
   cases hp : p (xs.getD i d) with
   | true => rw [Bool.true_and]; exact step i hlt hp _ (ih (i + 1) (by omega))
   | false => rw [Bool.false_and, if_neg (by decide)]; exact bad i hlt hp
 exact key xs.length 0 (by omega)
theorem ev_sz {α : Type} (L : Nat → Int → Int → Option Int) (xs : List α) (d : α) (B : α → Prop)
  (step : ∀ i a, i < xs.length → 0 ≤ a → a ≤ 1048576 → Ev (fun k => L k a (i : Int)) (-1) ∨ (∃ a', 0 ≤ a' ∧ a' ≤ a ∧ B (xs.getD i d) ∧ ∀ r, Ev (fun k => L k a' ((i + 1 : Nat) : Int)) r → Ev (fun k => L k a (i : Int)) r))
  (fin : ∀ a, Ev (fun k => L k a (xs.length : Int)) a) : ∀ a, 0 ≤ a → a ≤ 1048576 → ∃ r, Ev (fun k => L k a 0) r ∧ (r < 0 ∨ (0 ≤ r ∧ r ≤ a ∧ ∀ x ∈ xs, B x)) := by
 have key : ∀ (m i : Nat) (a : Int), i + m = xs.length → 0 ≤ a → a ≤ 1048576 → ∃ r, Ev (fun k => L k a (i : Int)) r ∧ (r < 0 ∨ (0 ≤ r ∧ r ≤ a ∧ ∀ j, i ≤ j → j < xs.length → B (xs.getD j d))) := by
  intro m
  induction m with
  | zero =>
   intro i a hi h0 h1
   have : i = xs.length := by omega
   subst this
   exact ⟨a, fin a, .inr ⟨h0, Int.le_refl _, fun j h2 h3 => by omega⟩⟩
  | succ m ih =>
   intro i a hi h0 h1
   rcases step i a (by omega) h0 h1 with h | ⟨a', h2, h3, hB, h⟩
   ·
    exact ⟨-1, h, .inl (by decide)⟩
   ·
    obtain ⟨r, hr, hq⟩ := ih (i + 1) a' (by omega) h2 (by omega)
    refine ⟨r, h r hr, ?_⟩
    rcases hq with hq | ⟨q0, q1, q2⟩
    ·
     exact .inl hq
    ·
     refine .inr ⟨q0, by omega, fun j h4 h5 => ?_⟩
     by_cases e : j = i
     ·
      subst e; exact hB
     ·
      exact q2 j (by omega) h5
 intro a h0 h1
 obtain ⟨r, hr, hq⟩ := key xs.length 0 a (by omega) h0 h1
 refine ⟨r, hr, hq.imp_right fun ⟨q0, q1, q2⟩ => ⟨q0, q1, fun x hx => ?_⟩⟩
 obtain ⟨j, hj, rfl⟩ := List.mem_iff_getElem.1 hx
 rw [← getD_lt d hj]
 exact q2 j (Nat.zero_le _) hj
theorem szInt64S_eq (l : List Int) (a : Int) (hl : l.length ≤ maxLen) (h0 : 0 ≤ a) (h1 : a ≤ 1048576) : ∃ r, laws_szInt64S.f l a = some r ∧ (r < 0 ∨ (0 ≤ r ∧ r ≤ a ∧ (l.length : Int) ≤ a)) := by
 unfold maxLen at hl
 unfold laws_szInt64S.f
 rw [w64 (by omega) (by omega)]
 split
 ·
  exact ⟨_, rfl, .inl (by decide)⟩
 ·
  exact ⟨_, rfl, .inr ⟨by omega, by omega, by omega⟩⟩
theorem szInt64SS_ev3 (l : List (List Int)) (a : Int) (hl : l.length ≤ maxLen) (hl2 : ∀ x ∈ l, x.length ≤ maxLen) (h0 : 0 ≤ a) (h1 : a ≤ 1048576) :
  ∃ r, Ev (fun k => laws_szInt64SS.f k l a) r ∧ (r < 0 ∨ (0 ≤ r ∧ r ≤ a ∧ l.length ≤ 1048576 ∧ ∀ x ∈ l, x.length ≤ 1048576)) := by
 unfold maxLen at hl
 unfold laws_szInt64SS.f
 rw [w64 (by omega) (by omega)]
 by_cases h : a - l.length < 0
 ·
  simp only [h, if_true]
  exact ⟨-1, Ev.now _, .inl (by decide)⟩
 ·
  simp only [h, if_false]
  obtain ⟨r, hr, hq⟩ := ev_sz (fun k a i => laws_szInt64SS.l0 k l a i) l [] (fun x => x.length ≤ 1048576) (fun i a hi h0 h1 => by
   obtain ⟨r, hr, hq⟩ := szInt64S_eq (l.getD i []) a (hl2 _ (getD_mem _ hi)) h0 h1
   have e : ∀ k, laws_szInt64SS.l0 (k + 1) l a i = if r < 0 then some (-1) else laws_szInt64SS.l0 k l r ((i + 1 : Nat) : Int) := fun k => by
    simp only [laws_szInt64SS.l0]
    rw [if_pos (by omega), if_pos (by omega)]
    unfold rd_L1
    rw [Int.toNat_natCast, hr]
    simp only [Option.bind_some]
    rw [w64 (by omega) (by omega)]
    rfl
   rcases hq with hq | ⟨q0, q1, q2⟩
   ·
    exact .inl (Ev.step (f := fun _ => some (-1)) (fun k => by rw [e, if_pos hq]) (Ev.now _))
   ·
    exact .inr ⟨r, q0, q1, by omega, fun s hs => Ev.step (fun k => by rw [e, if_neg (by omega)]) hs⟩) (fun a => Ev.step (f := fun _ => some a) (fun k => by simp only [laws_szInt64SS.l0]; rw [if_neg (by omega)]) (Ev.now _)) (a - l.length) (by omega) (by omega)
  exact ⟨r, hr, hq.imp_right fun ⟨q0, q1, q2⟩ => ⟨q0, by omega, by omega, q2⟩⟩
def okInt64SS (l : List (List Int)) : Prop := l.length ≤ 1048576 ∧ ∀ x ∈ l, x.length ≤ 1048576
theorem szInt64SS_evo (l : List (List Int)) (a : Int) (hw : l.length ≤ maxLen ∧ ∀ x0 ∈ l, x0.length ≤ maxLen ∧ ∀ x1 ∈ x0, (Lit.int .i64 x1).wf = true) (h0 : 0 ≤ a) (h1 : a ≤ 1048576) :
  ∃ r, Ev (fun k => laws_szInt64SS.f k l a) r ∧ (r < 0 ∨ (0 ≤ r ∧ r ≤ a ∧ okInt64SS l)) := szInt64SS_ev3 l a hw.1 (fun x hx => (hw.2 x hx).1) h0 h1
theorem toInt64S_ev (l : List Int) (h : l.length ≤ 35184372088832) : Ev (fun k => laws_toInt64S.f k l) l := by
 refine Ev.congr (f := fun k => laws_toInt64S.l0 k l (List.replicate l.length 0) 0) (fun k => ?_) ?_
 ·
  unfold laws_toInt64S.f
  rw [if_pos (by omega), if_pos (by omega), Int.toNat_natCast]
 ·
  refine ev_copy laws_toInt64S.l0 l 0 0 (fun ys i hi hl r hr => ?_) (fun ys => ?_)
  ·
   refine Ev.step (fun k => ?_) hr
   simp only [laws_toInt64S.l0]
   rw [if_pos (by omega), if_pos (by omega), if_pos (by omega), w64 (by omega) (by omega), rd_nat, Int.toNat_natCast]
   rfl
  ·
   refine Ev.step (f := fun _ => some ys) (fun k => ?_) (Ev.now _)
   simp only [laws_toInt64S.l0]
   rw [if_neg (by omega)]
theorem toInt64SS_ev (l : List (List Int)) (h : l.length ≤ 1048576) (h2 : ∀ x ∈ l, x.length ≤ 1048576) : Ev (fun k => laws_toInt64SS.f k l) l := by
 refine Ev.congr (f := fun k => laws_toInt64SS.l0 k l (List.replicate l.length []) 0) (fun k => ?_) ?_
 ·
  unfold laws_toInt64SS.f
  rw [if_pos (by omega), if_pos (by omega), Int.toNat_natCast]
 ·
  refine ev_copy laws_toInt64SS.l0 l [] [] (fun ys i hi hl r hr => ?_) (fun ys => ?_)
  ·
   refine Ev.step (f := fun k => (laws_toInt64S.f k (l.getD i [])).bind fun t => laws_toInt64SS.l0 k l (ys.set i t) ((i + 1 : Nat) : Int)) (fun k => ?_) (Ev.bind (toInt64S_ev _ (by have := h2 _ (getD_mem [] hi); omega)) hr)
   simp only [laws_toInt64SS.l0]
   rw [if_pos (by omega), if_pos (by omega)]
   simp only [show (i : Int) < ys.length by omega, if_true]
   rw [w64 (by omega) (by omega)]
   unfold rd_L1
   rw [Int.toNat_natCast]
   rfl
  ·
   refine Ev.step (f := fun _ => some ys) (fun k => ?_) (Ev.now _)
   simp only [laws_toInt64SS.l0]
   rw [if_neg (by omega)]
theorem toInt64SS_evo (l : List (List Int)) (h : okInt64SS l) : Ev (fun k => laws_toInt64SS.f k l) l := toInt64SS_ev l h.1 h.2
theorem eqInt64S_ev (l : List Int) (h : l.length ≤ 9223372036854775806) : Ev (fun k => laws_eqInt64S.f k l l) true := by
 refine Ev.congr (f := fun k => laws_eqInt64S.l0 k l l 0) (fun k => ?_) ?_
 ·
  unfold laws_eqInt64S.f
  rw [if_pos rfl]
 ·
  refine ev_eq laws_eqInt64S.l0 l (fun i hi hr => ?_) ?_
  ·
   refine Ev.step (fun k => ?_) hr
   simp only [laws_eqInt64S.l0]
   rw [if_pos (by omega), if_pos (by omega), if_pos (by omega), if_pos trivial, w64 (by omega) (by omega)]
   rfl
  ·
   refine Ev.step (f := fun _ => some true) (fun k => ?_) (Ev.now _)
   simp only [laws_eqInt64S.l0]
   rw [if_neg (by omega)]
theorem eqInt64SS_ev (l : List (List Int)) (h : l.length ≤ 1048576) (h2 : ∀ x ∈ l, x.length ≤ 1048576) : Ev (fun k => laws_eqInt64SS.f k l l) true := by
 refine Ev.congr (f := fun k => laws_eqInt64SS.l0 k l l 0) (fun k => ?_) ?_
 ·
  unfold laws_eqInt64SS.f
  rw [if_pos rfl]
 ·
  refine ev_eq laws_eqInt64SS.l0 l (fun i hi hr => ?_) ?_
  ·
   refine Ev.step (f := fun k => (laws_eqInt64S.f k (l.getD i []) (l.getD i [])).bind fun t => if t = true then laws_eqInt64SS.l0 k l l ((i + 1 : Nat) : Int) else some false) (fun k => ?_) (Ev.bind (eqInt64S_ev _ (by have := h2 _ (getD_mem [] hi); omega)) hr)
   simp only [laws_eqInt64SS.l0]
   rw [if_pos (by omega), if_pos (by omega), if_pos (by omega), w64 (by omega) (by omega)]
   unfold rd_L1
   rw [Int.toNat_natCast]
   rfl
  ·
   refine Ev.step (f := fun _ => some true) (fun k => ?_) (Ev.now _)
   simp only [laws_eqInt64SS.l0]
   rw [if_neg (by omega)]
theorem eqInt64SS_evo (l : List (List Int)) (h : okInt64SS l) : Ev (fun k => laws_eqInt64SS.f k l l) true := eqInt64SS_ev l h.1 h.2
def rowOk (l : List (List Int)) (row : List Int) : Bool := decide (1 ≤ row.length) && (decide (row.length ≤ 16) && (decide (row.length = (l.getD 0 []).length) && row.all (inB (-5000) 20000)))
def imgOk (l : List (List Int)) : Bool := decide (1 ≤ l.length) && (decide (l.length ≤ 16) && l.all (rowOk l))
theorem specCell_eq (x : Int) : spec_l28Cell.f x = some (inB (-5000) 20000 x) := by
 unfold spec_l28Cell.f spec_l00In.f inB
 by_cases h : x ≥ -5000
 ·
  rw [if_pos h, decide_eq_true (show -5000 ≤ x from h)]; rfl
 ·
  rw [if_neg h, decide_eq_false (show ¬ -5000 ≤ x from h)]; rfl
theorem specOk_row (l : List (List Int)) (hl : l.length ≤ 16) (i : Nat) (hi : i < l.length) (h16 : (l.getD i []).length ≤ 16) (r : Bool) (hr : Ev (fun k => spec_l28Ok.l0 k l ((i + 1 : Nat) : Int)) r) :
  Ev (fun k => spec_l28Ok.l1 k l i 0) (if (l.getD i []).all (inB (-5000) 20000) = true then r else false) := by
 have ur : rd_L1 l i = l.getD i [] := by unfold rd_L1; rw [Int.toNat_natCast]
 refine ev_all (fun k j => spec_l28Ok.l1 k l i j) (l.getD i []) 0 (inB (-5000) 20000) false r (fun j hj hp s hs => ?_) (fun j hj hp => ?_) ?_
 ·
  refine Ev.step (fun k => ?_) hs
  simp only [spec_l28Ok.l1]
  rw [if_pos (by omega), if_pos (by omega), ur, if_pos (by omega), if_pos (by omega), rd_nat, specCell_eq, hp]
  simp only [Option.bind_some, if_true]
  rw [w64 (by omega) (by omega)]
  rfl
 ·
  refine Ev.step (f := fun _ => some false) (fun k => ?_) (Ev.now _)
  simp only [spec_l28Ok.l1]
  rw [if_pos (by omega), if_pos (by omega), ur, if_pos (by omega), if_pos (by omega), rd_nat, specCell_eq, hp]
  rfl
 ·
  refine Ev.step (fun k => ?_) hr
  simp only [spec_l28Ok.l1]
  rw [if_pos (by omega), if_pos (by omega), ur, if_neg (by omega), w64 (by omega) (by omega)]
  rfl
theorem specOk_ev (l : List (List Int)) : Ev (fun k => spec_l28Ok.f k l) (imgOk l) := by
 unfold spec_l28Ok.f imgOk
 by_cases h1 : l.length < 1
 ·
  simp only [show (l.length : Int) < 1 by omega, if_true]
  rw [decide_eq_false (by omega), Bool.false_and]
  exact Ev.step (f := fun _ => some false) (fun k => by simp [spec_l28Ok.j0]) (Ev.now _)
 ·
  simp only [show ¬ (l.length : Int) < 1 by omega, if_false]
  rw [decide_eq_true (show 1 ≤ l.length by omega), Bool.true_and]
  by_cases h16 : l.length > 16
  ·
   rw [decide_eq_false (show ¬ l.length ≤ 16 by omega), Bool.false_and]
   exact Ev.step (f := fun _ => some false) (fun k => by simp only [spec_l28Ok.j0]; rw [if_pos (decide_eq_true (by omega))]) (Ev.now _)
  ·
   rw [decide_eq_true (show l.length ≤ 16 by omega), Bool.true_and]
   refine Ev.step (f := fun k => spec_l28Ok.l0 k l 0) (fun k => by simp only [spec_l28Ok.j0]; rw [if_neg (by simp; omega)]) ?_
   have key := ev_all (fun k i => spec_l28Ok.l0 k l i) l [] (rowOk l) false true (fun i hi hp s hs => ?_) (fun i hi hp => ?_) ?_
   ·
    revert key
    cases l.all (rowOk l) <;> exact id
   ·
    have ur : rd_L1 l i = l.getD i [] := by unfold rd_L1; rw [Int.toNat_natCast]
    have u0 : rd_L1 l 0 = l.getD 0 [] := rfl
    simp only [rowOk, Bool.and_eq_true, decide_eq_true_eq] at hp
    obtain ⟨p1, p2, p3, p4⟩ := hp
    refine Ev.step (f := fun k => spec_l28Ok.j2 k l i false) (fun k => ?_) (Ev.step (f := fun k => spec_l28Ok.l1 k l i 0) (fun k => by simp [spec_l28Ok.j2]) ?_)
    ·
     simp only [spec_l28Ok.l0]
     rw [if_pos (by omega), if_pos (by omega), ur, u0, if_neg (by omega), if_neg (by omega), if_pos (by omega), p3]
     simp
    ·
     have := specOk_row l (by omega) i hi p2 s hs
     rw [p4, if_pos rfl] at this
     exact this
   ·
    have ur : rd_L1 l i = l.getD i [] := by unfold rd_L1; rw [Int.toNat_natCast]
    have u0 : rd_L1 l 0 = l.getD 0 [] := rfl
    have fin : Ev (fun k => spec_l28Ok.j2 k l i true) false := Ev.step (f := fun _ => some false) (fun k => by simp [spec_l28Ok.j2]) (Ev.now _)
    by_cases g1 : (l.getD i []).length < 1
    ·
     refine Ev.step (fun k => ?_) fin
     simp only [spec_l28Ok.l0]
     rw [if_pos (by omega), if_pos (by omega), ur, if_pos (by omega)]
    ·
     by_cases g2 : (l.getD i []).length > 16
     ·
      refine Ev.step (fun k => ?_) fin
      simp only [spec_l28Ok.l0]
      rw [if_pos (by omega), if_pos (by omega), ur, if_neg (by omega), if_pos (by omega)]
     ·
      by_cases g3 : (l.getD i []).length = (l.getD 0 []).length
      ·
       have g4 : (l.getD i []).all (inB (-5000) 20000) = false := by
        simp only [rowOk] at hp
        rw [decide_eq_true (by omega), decide_eq_true (by omega), decide_eq_true g3] at hp
        simpa using hp
       refine Ev.step (f := fun k => spec_l28Ok.j2 k l i false) (fun k => ?_) (Ev.step (f := fun k => spec_l28Ok.l1 k l i 0) (fun k => by simp [spec_l28Ok.j2]) ?_)
       ·
        simp only [spec_l28Ok.l0]
        rw [if_pos (by omega), if_pos (by omega), ur, u0, if_neg (by omega), if_neg (by omega), if_pos (by omega), g3]
        simp
       ·

        obtain ⟨x, hx, hxb⟩ := List.all_eq_false.1 g4
        have : ∀ (m j : Nat), j + m = (l.getD i []).length → (∃ q, j ≤ q ∧ q < (l.getD i []).length ∧ inB (-5000) 20000 ((l.getD i []).getD q 0) = false) → Ev (fun k => spec_l28Ok.l1 k l i j) false := by
         intro m
         induction m with
         | zero => rintro j hj ⟨q, q1, q2, q3⟩; omega
         | succ m ih =>
          rintro j hj ⟨q, q1, q2, q3⟩
          cases hc : inB (-5000) 20000 ((l.getD i []).getD j 0) with
          | true =>
           have : q ≠ j := by rintro rfl; rw [hc] at q3; cases q3
           refine Ev.step (fun k => ?_) (ih (j + 1) (by omega) ⟨q, by omega, q2, q3⟩)
           simp only [spec_l28Ok.l1]
           rw [if_pos (by omega), if_pos (by omega), ur, if_pos (by omega), if_pos (by omega), rd_nat, specCell_eq, hc]
           simp only [Option.bind_some, if_true]
           rw [w64 (by omega) (by omega)]
           rfl
          | false =>
           refine Ev.step (f := fun _ => some false) (fun k => ?_) (Ev.now _)
           simp only [spec_l28Ok.l1]
           rw [if_pos (by omega), if_pos (by omega), ur, if_pos (by omega), if_pos (by omega), rd_nat, specCell_eq, hc]
           rfl
        obtain ⟨q, hq, rfl⟩ := List.mem_iff_getElem.1 hx
        exact this (l.getD i []).length 0 (by omega) ⟨q, Nat.zero_le _, hq, by rw [getD_lt 0 hq]; simpa using hxb⟩
      ·
       refine Ev.step (f := fun k => spec_l28Ok.j2 k l i true) (fun k => ?_) fin
       simp only [spec_l28Ok.l0]
       rw [if_pos (by omega), if_pos (by omega), ur, u0, if_neg (by omega), if_neg (by omega), if_pos (by omega)]
       congr 1
       exact bne_iff_ne.mpr (by omega)
   ·
    refine Ev.step (f := fun _ => some true) (fun k => ?_) (Ev.now _)
    simp only [spec_l28Ok.l0]
    rw [if_neg (by omega)]
theorem implOk_ev (l : List (List Int)) (hlen : ∀ x ∈ l, x.length ≤ 1048576) : Ev (fun k => impl_ValidImage.f k l) (imgOk l) := by
 unfold impl_ValidImage.f imgOk
 by_cases h1 : l.length < 1
 ·
  simp only [show (l.length : Int) < 1 by omega, if_true]
  rw [decide_eq_false (by omega), Bool.false_and]
  exact Ev.step (f := fun _ => some false) (fun k => by simp [impl_ValidImage.j0]) (Ev.now _)
 ·
  simp only [show ¬ (l.length : Int) < 1 by omega, if_false]
  rw [decide_eq_true (show 1 ≤ l.length by omega), Bool.true_and]
  by_cases h16 : l.length > 16
  ·
   rw [decide_eq_false (show ¬ l.length ≤ 16 by omega), Bool.false_and]
   exact Ev.step (f := fun _ => some false) (fun k => by simp only [impl_ValidImage.j0]; rw [if_pos (decide_eq_true (by omega))]) (Ev.now _)
  ·
   rw [decide_eq_true (show l.length ≤ 16 by omega), Bool.true_and]
   refine Ev.step (f := fun k => impl_ValidImage.l0 k l l l.length 0) (fun k => by simp only [impl_ValidImage.j0]; rw [if_neg (by simp; omega)]) ?_
   have key := ev_all (fun k i => impl_ValidImage.l0 k l l l.length i) l [] (rowOk l) false true (fun i hi hp s hs => ?_) (fun i hi hp => ?_) ?_
   ·
    revert key
    cases l.all (rowOk l) <;> exact id
   ·
    have ur : rd_L1 l i = l.getD i [] := by unfold rd_L1; rw [Int.toNat_natCast]
    have u0 : rd_L1 l 0 = l.getD 0 [] := rfl
    have hll := hlen _ (getD_mem [] hi)
    simp only [rowOk, Bool.and_eq_true, decide_eq_true_eq] at hp
    obtain ⟨p1, p2, p3, p4⟩ := hp
    refine Ev.step (fun k => ?_) hs
    simp only [impl_ValidImage.l0]
    rw [if_pos (by omega), if_pos (by omega), if_pos (by omega), ur, u0, if_neg (by omega), if_neg (by omega), if_pos (by omega), if_pos (by omega)]
    unfold impl_allWithin.f
    rw [if_pos (by omega), p4]
    simp only [Option.bind_some, if_true]
    rw [w64 (by omega) (by omega)]
    rfl
   ·
    have ur : rd_L1 l i = l.getD i [] := by unfold rd_L1; rw [Int.toNat_natCast]
    have u0 : rd_L1 l 0 = l.getD 0 [] := rfl
    have hll := hlen _ (getD_mem [] hi)
    refine Ev.step (f := fun _ => some false) (fun k => ?_) (Ev.now _)
    simp only [impl_ValidImage.l0]
    rw [if_pos (by omega), if_pos (by omega), if_pos (by omega), ur, u0]
    by_cases g1 : (l.getD i []).length < 1
    ·
     rw [if_pos (by omega)]
    ·
     rw [if_neg (by omega)]
     by_cases g2 : (l.getD i []).length > 16
     ·
      rw [if_pos (by omega)]
     ·
      rw [if_neg (by omega), if_pos (by omega)]
      by_cases g3 : (l.getD i []).length = (l.getD 0 []).length
      ·
       have g4 : (l.getD i []).all (inB (-5000) 20000) = false := by
        simp only [rowOk] at hp
        rw [decide_eq_true (by omega), decide_eq_true (by omega), decide_eq_true g3] at hp
        simpa using hp
       rw [if_pos (by omega)]
       unfold impl_allWithin.f
       rw [if_pos (by omega), g4]
       rfl
      ·
       rw [if_neg (by omega)]
   ·
    refine Ev.step (f := fun _ => some true) (fun k => ?_) (Ev.now _)
    simp only [impl_ValidImage.l0]
    rw [if_neg (by omega)]
theorem imgOk_facts {l : List (List Int)} (h : imgOk l = true) : 1 ≤ l.length ∧ l.length ≤ 16 ∧ ∀ i, i < l.length → (l.getD i []).length = (l.getD 0 []).length ∧ 1 ≤ (l.getD i []).length ∧ (l.getD i []).length ≤ 16 ∧ ∀ j, j < (l.getD i []).length → -5000 ≤ (l.getD i []).getD j 0 ∧ (l.getD i []).getD j 0 ≤ 20000 := by
 simp only [imgOk, Bool.and_eq_true, decide_eq_true_eq, List.all_eq_true] at h
 refine ⟨h.1, h.2.1, fun i hi => ?_⟩
 have hr := h.2.2 _ (getD_mem [] hi)
 simp only [rowOk, Bool.and_eq_true, decide_eq_true_eq, List.all_eq_true] at hr
 refine ⟨hr.2.2.1, hr.1, hr.2.1, fun j hj => ?_⟩
 have := hr.2.2.2 _ (getD_mem 0 hj)
 simpa [inB] using this
theorem Ev.succ {α : Type} {g : Nat → Option α} {r : α} (h : Ev (fun k => g (k + 1)) r) : Ev g r := Ev.step (fun _ => rfl) h
theorem Ev.now' {α : Type} {a b : α} (h : a = b) : Ev (fun _ => some a) b := h ▸ Ev.now a
def mkB (l : List UInt8) : ByteArray := ⟨l.toArray⟩
theorem mkB_of (b : ByteArray) : mkB b.data.toList = b := by unfold mkB; cases b; rfl
theorem mkB_append (a b : List UInt8) : mkB a ++ mkB b = mkB (a ++ b) := by
 rw [← mkB_of (mkB a ++ mkB b), ByteArray.toList_data_append]
 rfl
theorem mkB_size (l : List UInt8) : (mkB l).size = l.length := by
 show l.toArray.size = l.length
 simp
theorem join_cons2 (x y : List UInt8) (r : List (List UInt8)) (c : UInt8) : Lib.join (x :: y :: r) [c] = x ++ c :: Lib.join (y :: r) [c] := by
 rw [Lib.join_cons, Lib.join_cons]
 simp [Lib.joinTail]
def rdg (u : Nat) : List Int := if h : u = 0 then [] else ((48 + u % 10 : Nat) : Int) :: rdg (u / 10)
termination_by u
decreasing_by omega
theorem rdg_zero : rdg 0 = [] := by rw [rdg, dif_pos rfl]
theorem rdg_pos {u : Nat} (h : u ≠ 0) : rdg u = ((48 + u % 10 : Nat) : Int) :: rdg (u / 10) := by rw [rdg, dif_neg h]
theorem rdg_dec : ∀ (n u : Nat), u ≤ n → u ≠ 0 → Lib.decDigits u = ((rdg u).map fun n => UInt8.ofNat n.toNat).reverse := by
 intro n
 induction n with
 | zero => intro u h h0; omega
 | succ n ih =>
  intro u h h0
  rw [rdg_pos h0, List.map_cons, List.reverse_cons, Int.toNat_natCast]
  by_cases h10 : u < 10
  ·
   rw [Lib.decDigits, dif_pos h10, show u / 10 = 0 by omega, rdg_zero, show u % 10 = u by omega]
   rfl
  ·
   rw [Lib.decDigits, dif_neg h10, ih (u / 10) (by omega) (by omega)]
theorem rdg_len : ∀ (n u : Nat), u < 10 ^ n → (rdg u).length ≤ n := by
 intro n
 induction n with
 | zero => intro u h; rw [show u = 0 by omega, rdg_zero]; exact Nat.le_refl _
 | succ n ih =>
  intro u h
  by_cases h0 : u = 0
  ·
   rw [h0, rdg_zero]; exact Nat.zero_le _
  ·
   rw [rdg_pos h0, List.length_cons]
   have := ih (u / 10) (by rw [Nat.pow_succ] at h; omega)
   omega
theorem decLoop (x0 : Int) (r : ByteArray) : ∀ (n u : Nat) (x4 : Int) (acc : List Int), u ≤ n → u ≤ 1000000000000000000 → (x4 = (u : Int) ∨ x4 = -(u : Int)) → acc.length + (rdg u).length ≤ 1000 → Ev (fun k => spec_l01Dec.l0 k x0 (acc ++ rdg u) 0) r → Ev (fun k => spec_l01Dec.l0 k x0 acc x4) r := by
 intro n
 induction n with
 | zero =>
  intro u x4 acc h _ hx _ hr
  obtain rfl : u = 0 := by omega
  obtain rfl : x4 = 0 := by omega
  rw [rdg_zero, List.append_nil] at hr
  exact hr
 | succ n ih =>
  intro u x4 acc h hu hx hl hr
  by_cases h0 : u = 0
  ·
   subst h0
   obtain rfl : x4 = 0 := by omega
   rw [rdg_zero, List.append_nil] at hr
   exact hr
  ·
   rw [rdg_pos h0] at hr hl
   rw [List.length_cons] at hl
   refine Ev.succ ?_
   have hx0 : ¬ x4 = 0 := by omega
   have hq : Int.tdiv x4 10 = ((u / 10 : Nat) : Int) ∨ Int.tdiv x4 10 = -((u / 10 : Nat) : Int) := by
    rcases hx with rfl | rfl
    ·
     left
     rw [Int.tdiv_eq_ediv_of_nonneg (by omega)]
     omega
    ·
     right
     rw [Int.neg_tdiv, Int.tdiv_eq_ediv_of_nonneg (by omega)]
     omega
   have ht : (Int.tmod x4 10 < 0 ∧ -(Int.tmod x4 10) = ((u % 10 : Nat) : Int)) ∨ (¬ Int.tmod x4 10 < 0 ∧ Int.tmod x4 10 = ((u % 10 : Nat) : Int)) := by
    rcases hx with rfl | rfl
    ·
     rw [Int.tmod_eq_emod_of_nonneg (by omega)]
     omega
    ·
     rw [Int.neg_tmod, Int.tmod_eq_emod_of_nonneg (by omega)]
     omega
   have hw : wrap64 (Int.tdiv x4 10) = Int.tdiv x4 10 := w64 (by omega) (by omega)
   have ih2 := ih (u / 10) (Int.tdiv x4 10) (acc ++ [((48 + u % 10 : Nat) : Int)]) (by omega) (by omega) hq (by rw [List.length_append, List.length_singleton]; omega) (by rw [List.append_assoc]; exact hr)
   simp only [spec_l01Dec.l0, if_neg hx0, if_pos (show acc.length < 140737488355328 by omega), hw]
   rcases ht with ⟨t1, t2⟩ | ⟨t1, t2⟩
   ·
    simp only [if_pos t1]
    simp only [t2]
    rw [w64 (x := ((u % 10 : Nat) : Int)) (by omega) (by omega), w64 (by omega) (by omega), show ((48 : Int) + ((u % 10 : Nat) : Int)) % 256 = ((48 + u % 10 : Nat) : Int) by omega]
    exact ih2
   ·
    simp only [if_neg t1]
    simp only [t2]
    rw [w64 (by omega) (by omega), show ((48 : Int) + ((u % 10 : Nat) : Int)) % 256 = ((48 + u % 10 : Nat) : Int) by omega]
    exact ih2
theorem revLoop (xs : List Int) (h : xs.length ≤ 1000) : ∀ (i : Nat) (acc : List Int), i ≤ xs.length → acc.length + i ≤ 2000 → Ev (fun k => spec_l01Dec.l1 k xs acc ((i : Int) - 1)) (strOfNums (acc ++ (xs.take i).reverse)) := by
 intro i
 induction i with
 | zero =>
  intro acc _ _
  refine Ev.succ ?_
  simp only [spec_l01Dec.l1, if_neg (show ¬ (((0 : Nat) : Int) - 1) ≥ 0 by omega)]
  exact Ev.now' (by simp)
 | succ i ih =>
  intro acc hi ha
  refine Ev.succ ?_
  have e : ((i + 1 : Nat) : Int) - 1 = (i : Int) := by omega
  simp only [e, spec_l01Dec.l1, if_pos (show (i : Int) ≥ 0 by omega), if_pos (show (0 : Int) ≤ (i : Int) by omega), if_pos (show (i : Int) < (xs.length : Int) by omega), if_pos (show acc.length < 140737488355328 by omega), rd_nat, w64 (x := (i : Int) - 1) (by omega) (by omega)]
  have ih2 := ih (acc ++ [xs.getD i 0]) (by omega) (by rw [List.length_append, List.length_singleton]; omega)
  rw [take_succ_getD xs 0 (show i < xs.length by omega), List.reverse_append, List.reverse_singleton]
  rw [List.append_assoc] at ih2
  exact ih2
theorem strN (xs : List Int) : strOfNums xs = mkB (xs.map fun n => UInt8.ofNat n.toNat) := rfl
theorem specDec_ev (n : Int) (h0 : -1000000000000000000 ≤ n) (h1 : n ≤ 1000000000000000000) : Ev (fun k => spec_l01Dec.f k n) (mkB (Lib.itoa n)) := by
 unfold spec_l01Dec.f
 by_cases hz : n = 0
 ·
  subst hz
  simp only [if_true]
  refine Ev.now' ?_
  show (⟨#[48]⟩ : ByteArray) = mkB (Lib.decDigits 0)
  rw [Lib.decDigits_one (by decide)]
  rfl
 ·
  simp only [if_neg hz]
  have hl := rdg_len 19 n.natAbs (by omega)
  refine decLoop n _ n.natAbs n.natAbs n [] (Nat.le_refl _) (by omega) (by omega) (by rw [List.length_nil]; omega) ?_
  rw [List.nil_append]
  refine Ev.succ ?_
  simp only [spec_l01Dec.l0, if_true]
  have hd := rdg_dec n.natAbs n.natAbs (Nat.le_refl _) (by omega)
  by_cases hn : n < 0
  ·
   simp only [if_pos hn, if_pos (show (rdg n.natAbs).length < 140737488355328 by omega)]
   refine Ev.succ ?_
   simp only [spec_l01Dec.j1]
   have hr := revLoop (rdg n.natAbs ++ [45]) (by rw [List.length_append, List.length_singleton]; omega) (rdg n.natAbs ++ [45]).length [] (Nat.le_refl _) (by rw [List.length_append, List.length_singleton, List.length_nil]; omega)
   rw [w64 (by omega) (by rw [List.length_append, List.length_singleton]; omega)]
   have e : ((rdg n.natAbs ++ [45]).reverse.map fun n : Int => UInt8.ofNat n.toNat) = 45 :: Lib.decDigits n.natAbs := by
    rw [List.reverse_append, hd]
    simp
   rw [List.take_length, List.nil_append, strN, e] at hr
   unfold Lib.itoa
   rw [if_pos hn]
   exact hr
  ·
   simp only [if_neg hn]
   refine Ev.succ ?_
   simp only [spec_l01Dec.j1]
   have hr := revLoop (rdg n.natAbs) (by omega) (rdg n.natAbs).length [] (Nat.le_refl _) (by rw [List.length_nil]; omega)
   rw [w64 (by omega) (by omega)]
   rw [List.take_length, List.nil_append, strN, List.map_reverse, ← hd] at hr
   unfold Lib.itoa
   rw [if_neg hn, show n.toNat = n.natAbs by omega]
   exact hr
theorem join_snoc (c : UInt8) (x : List UInt8) : ∀ xs : List (List UInt8), xs ≠ [] → Lib.join (xs ++ [x]) [c] = Lib.join xs [c] ++ c :: x
 | [], h => absurd rfl h
 | [y], _ => by
  show Lib.join (y :: [x]) [c] = _
  rw [join_cons2, Lib.join_one, Lib.join_one]
 | y :: z :: t, _ => by
  have ih := join_snoc c x (z :: t) (by simp)
  show Lib.join (y :: z :: (t ++ [x])) [c] = _
  rw [join_cons2, join_cons2, show z :: (t ++ [x]) = (z :: t) ++ [x] from rfl, ih]
  simp
theorem join_lenG (c : UInt8) (m : Nat) : ∀ xs : List (List UInt8), (∀ x ∈ xs, x.length ≤ m) → (Lib.join xs [c]).length ≤ (m + 1) * xs.length
 | [], _ => by simp [Lib.join_nil]
 | [y], h => by
  have := h y (by simp)
  rw [Lib.join_one, List.length_singleton]
  omega
 | y :: z :: t, h => by
  have ih := join_lenG c m (z :: t) (fun x hx => h x (List.mem_cons_of_mem _ hx))
  have := h y (by simp)
  rw [join_cons2, List.length_append, List.length_cons]
  rw [List.length_cons (a := y), Nat.mul_add, Nat.mul_one]
  omega
theorem join_take_le (c : UInt8) (T : List (List UInt8)) : ∀ i : Nat, i < T.length → (Lib.join (T.take i) [c]).length + (if i = 0 then 0 else 1) + (T.getD i []).length ≤ (Lib.join T [c]).length := by
 have mono : ∀ (xs ys : List (List UInt8)), (Lib.join xs [c]).length ≤ (Lib.join (xs ++ ys) [c]).length := by
  intro xs ys
  induction ys generalizing xs with
  | nil => rw [List.append_nil]; exact Nat.le_refl _
  | cons y t ih =>
   have h2 := ih (xs ++ [y])
   rw [List.append_assoc] at h2
   refine Nat.le_trans ?_ h2
   by_cases h : xs = []
   ·
    subst h; simp [Lib.join_nil]
   ·
    rw [join_snoc c y xs h, List.length_append]; omega
 intro i hi
 have h1 := mono (T.take (i + 1)) (T.drop (i + 1))
 rw [List.take_append_drop, take_succ_getD T [] hi] at h1
 refine Nat.le_trans ?_ h1
 by_cases h : i = 0
 ·
  subst h
  rw [if_pos rfl, List.take_zero, List.nil_append, Lib.join_one, Lib.join_nil]
  simp
 ·
  rw [if_neg h, join_snoc c _ _ (by intro e; have := congrArg List.length e; rw [List.length_take, List.length_nil] at this; omega), List.length_append, List.length_cons]
  omega
theorem joinLoop (L : Nat → ByteArray → Int → Option ByteArray) (T : List (List UInt8)) (c : UInt8)
  (first : ∀ r, 0 < T.length → (T.getD 0 []).length ≤ (Lib.join T [c]).length → Ev (fun k => L k (mkB (T.getD 0 [])) 1) r → Ev (fun k => L k (mkB []) 0) r)
  (step : ∀ (i : Nat) (acc : List UInt8) r, 0 < i → i < T.length → acc.length + 1 + (T.getD i []).length ≤ (Lib.join T [c]).length → Ev (fun k => L k (mkB (acc ++ c :: T.getD i [])) ((i + 1 : Nat) : Int)) r → Ev (fun k => L k (mkB acc) (i : Int)) r)
  (fin : ∀ acc, Ev (fun k => L k (mkB acc) (T.length : Int)) (mkB acc)) : Ev (fun k => L k (mkB []) 0) (mkB (Lib.join T [c])) := by
 have key : ∀ (m i : Nat), 0 < i → i + m = T.length → Ev (fun k => L k (mkB (Lib.join (T.take i) [c])) (i : Int)) (mkB (Lib.join T [c])) := by
  intro m
  induction m with
  | zero =>
   intro i _ hi
   rw [List.take_of_length_le (by omega), show i = T.length by omega]
   exact fin _
  | succ m ih =>
   intro i h0 hi
   have hle := join_take_le c T i (by omega)
   rw [if_neg (by omega)] at hle
   refine step i _ _ h0 (by omega) hle ?_
   have h := ih (i + 1) (by omega) (by omega)
   rw [take_succ_getD T [] (by omega), join_snoc c _ _ (by intro e; have := congrArg List.length e; rw [List.length_take, List.length_nil] at this; omega)] at h
   exact h
 cases hT : T with
 | nil =>
  have h := fin []
  rw [hT] at h
  exact h
 | cons x t =>
  rw [← hT]
  have hl : 0 < T.length := by rw [hT]; exact Nat.zero_lt_succ _
  have hle := join_take_le c T 0 hl
  rw [if_pos rfl, List.take_zero, Lib.join_nil] at hle
  refine first _ hl (by simpa using hle) ?_
  have h := key (T.length - 1) 1 (by decide) (by omega)
  rw [take_succ_getD T [] hl, List.take_zero, List.nil_append, Lib.join_one] at h
  exact h
theorem ltOk_bd {x : Int} (h : ltOk x = true) : -1000000000000 ≤ x ∧ x ≤ 1000000000000 := by
 unfold ltOk inB at h
 simpa using h
theorem listT_len (l : List Int) : (listT l).data.toList.length ≤ 1408 := by
 unfold listT
 split
 ·
  exact Nat.zero_le _
 ·
  split
  ·
   decide
  ·
   split
   ·
    rename_i h64 _ ha
    have := join_lenG 44 21 (l.map Lib.itoa) (fun x hx => by
     obtain ⟨y, hy, rfl⟩ := List.mem_map.1 hx
     have := ltOk_bd (List.all_eq_true.1 ha y hy)
     exact Lib.itoa_length_le y (by omega) (by omega))
    rw [List.length_map] at this
    show (Lib.join (l.map Lib.itoa) [44]).length ≤ 1408
    omega
   ·
    exact Nat.zero_le _
theorem specListT_ev (l : List Int) (hl : l.length ≤ 64) (ha : l.all ltOk = true) : Ev (fun k => spec_l01List.f k l) (listT l) := by
 have hb : ∀ i : Nat, i < l.length → -1000000000000 ≤ l.getD i 0 ∧ l.getD i 0 ≤ 1000000000000 := fun i hi => ltOk_bd (List.all_eq_true.1 ha _ (getD_mem 0 hi))
 unfold spec_l01List.f listT
 rw [if_neg (by omega)]
 by_cases h0 : l.length = 0
 ·
  simp only [if_pos (show (l.length : Int) = 0 by omega)]
  rw [if_pos h0]
  exact Ev.now _
 ·
  simp only [if_neg (show ¬ (l.length : Int) = 0 by omega)]
  rw [if_neg h0, if_pos ha]
  have hg : ∀ i : Nat, i < l.length → (l.map Lib.itoa).getD i [] = Lib.itoa (l.getD i 0) := fun i hi => by
   rw [getD_lt [] (by simpa using hi), List.getElem_map, getD_lt 0 hi]
  have hjl : (Lib.join (l.map Lib.itoa) [44]).length ≤ 22 * l.length := by
   have := join_lenG 44 21 (l.map Lib.itoa) (fun x hx => by
    obtain ⟨y, hy, rfl⟩ := List.mem_map.1 hx
    have := ltOk_bd (List.all_eq_true.1 ha y hy)
    exact Lib.itoa_length_le y (by omega) (by omega))
   rwa [List.length_map] at this
  show Ev (fun k => spec_l01List.l0 k l (mkB []) 0) (mkB (Lib.join (l.map Lib.itoa) [44]))
  refine joinLoop (fun k acc i => spec_l01List.l0 k l acc i) (l.map Lib.itoa) 44 (fun r h1 h2 hr => ?_) (fun i acc r hi0 hi hle hr => ?_) (fun acc => ?_)
  ·
   rw [List.length_map] at h1
   rw [hg 0 h1] at hr h2
   have hbi := hb 0 h1
   refine Ev.succ ?_
   simp only [spec_l01List.l0, if_pos (show (0 : Int) < (l.length : Int) by omega), if_neg (show ¬ (0 : Int) > 0 by decide), if_pos (show (0 : Int) ≤ 0 by decide), show rd l 0 = l.getD 0 0 from rd_nat l 0]
   refine Ev.bind (specDec_ev (l.getD 0 0) (by omega) (by omega)) ?_
   simp only [mkB_size, List.length_nil, if_pos (show 0 + (Lib.itoa (l.getD 0 0)).length ≤ 9223372036854775807 by omega), mkB_append, List.nil_append, w64 (x := (0 : Int) + 1) (by decide) (by decide)]
   exact hr
  ·
   rw [List.length_map] at hi
   rw [hg i hi] at hr hle
   have hbi := hb i hi
   refine Ev.succ ?_
   simp only [spec_l01List.l0, if_pos (show (i : Int) < (l.length : Int) by omega), if_pos (show (i : Int) > 0 by omega), if_pos (show (0 : Int) ≤ (i : Int) by omega), rd_nat, mkB_size, if_pos (show acc.length + 1 ≤ 9223372036854775807 by omega)]
   refine Ev.bind (specDec_ev (l.getD i 0) (by omega) (by omega)) ?_
   have e1 : mkB acc ++ (⟨#[44]⟩ : ByteArray) = mkB (acc ++ [44]) := mkB_append acc [44]
   simp only [e1, mkB_size, mkB_append, List.length_append, List.length_singleton, if_pos (show acc.length + 1 + (Lib.itoa (l.getD i 0)).length ≤ 9223372036854775807 by omega), w64 (x := (i : Int) + 1) (by omega) (by omega)]
   rw [List.append_assoc]
   exact hr
  ·
   refine Ev.succ ?_
   simp only [spec_l01List.l0, List.length_map, if_neg (show ¬ (l.length : Int) < (l.length : Int) by omega)]
   exact Ev.now _
theorem ev_build {β ρ : Type} (L : Nat → List β → Int → Option ρ) (n : Nat) (f : Nat → β) (r : ρ)
  (step : ∀ i acc, i < n → acc.length = i → acc = (List.range i).map f → Ev (fun k => L k (acc ++ [f i]) ((i + 1 : Nat) : Int)) r → Ev (fun k => L k acc (i : Int)) r)
  (fin : Ev (fun k => L k ((List.range n).map f) (n : Int)) r) : Ev (fun k => L k [] 0) r := by
 have key : ∀ (m i : Nat), i + m = n → Ev (fun k => L k ((List.range i).map f) (i : Int)) r := by
  intro m
  induction m with
  | zero =>
   intro i hi
   have : i = n := by omega
   subst this
   exact fin
  | succ m ih =>
   intro i hi
   refine step i _ (by omega) (by simp) rfl ?_
   have := ih (i + 1) (by omega)
   rwa [List.range_succ, List.map_append] at this
 exact key n 0 (by omega)
def rowT (r : List Int) : List UInt8 := (listT r).data.toList
def imgT (l : List (List Int)) : ByteArray := if imgOk l = true then mkB (Lib.join (l.map rowT) [47]) else ⟨#[]⟩
theorem img_len (l : List (List Int)) (h : l.length ≤ 16) : (Lib.join (l.map rowT) [47]).length ≤ 30000 := by
 have := join_lenG 47 1408 (l.map rowT) (fun x hx => by
  obtain ⟨y, _, rfl⟩ := List.mem_map.1 hx
  exact listT_len y)
 rw [List.length_map] at this
 omega
theorem row_ok {l : List (List Int)} (h : imgOk l = true) (i : Nat) (hi : i < l.length) : (l.getD i []).length ≤ 64 ∧ (l.getD i []).all ltOk = true := by
 obtain ⟨h1, h2, hf⟩ := imgOk_facts h
 have g := hf i hi
 refine ⟨by omega, List.all_eq_true.2 fun y hy => ?_⟩
 obtain ⟨j, hj, rfl⟩ := List.mem_iff_getElem.1 hy
 have := g.2.2.2 j hj
 rw [getD_lt 0 hj] at this
 unfold ltOk inB
 rw [Bool.and_eq_true, decide_eq_true_eq, decide_eq_true_eq]
 omega
theorem spec_ev (l : List (List Int)) : Ev (fun k => spec_ImageText.f k l) (imgT l) := by
 unfold spec_ImageText.f imgT
 refine Ev.bind (specOk_ev l) ?_
 cases h : imgOk l with
 | false => exact Ev.now _
 | true =>
  simp only [if_true]
  obtain ⟨h1, h2, _⟩ := imgOk_facts h
  have hjl := img_len l (by omega)
  refine Ev.bind ?_ (Ev.now _)
  unfold spec_l28Text.f
  have hg : ∀ i : Nat, i < l.length → (l.map rowT).getD i [] = rowT (l.getD i []) := fun i hi => by
   rw [getD_lt [] (by simpa using hi), List.getElem_map, getD_lt [] hi]
  have hr0 : ∀ i : Nat, rd_L1 l (i : Int) = l.getD i [] := fun i => by
   unfold rd_L1
   rw [Int.toNat_natCast]
  have hrow : ∀ r : List Int, listT r = mkB (rowT r) := fun r => (mkB_of _).symm
  refine joinLoop (fun k acc i => spec_l28Text.l0 k l acc i) (l.map rowT) 47 (fun r h1 h2 hr => ?_) (fun i acc r hi0 hi hle hr => ?_) (fun acc => ?_)
  ·
   rw [List.length_map] at h1
   rw [hg 0 h1] at hr h2
   have ok := row_ok h 0 h1
   refine Ev.succ ?_
   simp only [spec_l28Text.l0, if_pos (show (0 : Int) < (l.length : Int) by omega), if_neg (show ¬ (0 : Int) > 0 by decide), if_pos (show (0 : Int) ≤ 0 by decide), show rd_L1 l 0 = l.getD 0 [] from hr0 0]
   refine Ev.bind (specListT_ev (l.getD 0 []) ok.1 ok.2) ?_
   simp only [hrow, mkB_size, List.length_nil, if_pos (show 0 + (rowT (l.getD 0 [])).length ≤ 9223372036854775807 by omega), mkB_append, List.nil_append, w64 (x := (0 : Int) + 1) (by decide) (by decide)]
   exact hr
  ·
   rw [List.length_map] at hi
   rw [hg i hi] at hr hle
   have ok := row_ok h i hi
   refine Ev.succ ?_
   simp only [spec_l28Text.l0, if_pos (show (i : Int) < (l.length : Int) by omega), if_pos (show (i : Int) > 0 by omega), if_pos (show (0 : Int) ≤ (i : Int) by omega), hr0, mkB_size, if_pos (show acc.length + 1 ≤ 9223372036854775807 by omega)]
   refine Ev.bind (specListT_ev (l.getD i []) ok.1 ok.2) ?_
   have e1 : mkB acc ++ (⟨#[47]⟩ : ByteArray) = mkB (acc ++ [47]) := mkB_append acc [47]
   simp only [hrow, e1, mkB_size, mkB_append, List.length_append, List.length_singleton, if_pos (show acc.length + 1 + (rowT (l.getD i [])).length ≤ 9223372036854775807 by omega), w64 (x := (i : Int) + 1) (by omega) (by omega)]
   rw [List.append_assoc]
   exact hr
  ·
   refine Ev.succ ?_
   simp only [spec_l28Text.l0, List.length_map, if_neg (show ¬ (l.length : Int) < (l.length : Int) by omega)]
   exact Ev.now _
theorem impl_ev (l : List (List Int)) (o : ∀ x ∈ l, x.length ≤ 1048576) : Ev (fun k => impl_ImageText.f k l) (imgT l) := by
 unfold impl_ImageText.f imgT
 refine Ev.bind (implOk_ev l o) ?_
 cases h : imgOk l with
 | false => exact Ev.now _
 | true =>
  simp only [if_true]
  obtain ⟨h1, h2, _⟩ := imgOk_facts h
  have hjl := img_len l (by omega)
  have emap : (List.range l.length).map (fun i => listT (l.getD i [])) = (l.map rowT).map mkB := by
   refine List.ext_getElem (by simp) fun i h1 h2 => ?_
   rw [List.getElem_map, List.getElem_range, List.getElem_map, List.getElem_map, getD_lt _ (by simpa using h1)]
   exact (mkB_of _).symm
  refine ev_build (fun k acc i => impl_ImageText.l0 k acc l (l.length : Int) i) l.length (fun i => listT (l.getD i [])) _ (fun i acc hi ha _ hs => ?_) ?_
  ·
   refine Ev.succ ?_
   have hr0 : rd_L1 l (i : Int) = l.getD i [] := by
    unfold rd_L1
    rw [Int.toNat_natCast]
   simp only [impl_ImageText.l0, if_pos (show (i : Int) < (l.length : Int) by omega), if_pos (show (0 : Int) ≤ i by omega), hr0, impl_ListText.f, Option.bind_some, if_pos (show acc.length < 8796093022208 by omega), w64 (x := (i : Int) + 1) (by omega) (by omega)]
   exact hs
  ·
   refine Ev.succ ?_
   simp only [impl_ImageText.l0, if_neg (show ¬ (l.length : Int) < (l.length : Int) by omega)]
   rw [emap]
   unfold strings_Join.f
   have e3 : ((l.map rowT).map mkB).map (fun x => x.data.toList) = l.map rowT := by
    rw [List.map_map]
    exact (List.map_congr_left fun x _ => rfl).trans (List.map_id _)
   rw [e3, show (⟨#[47]⟩ : ByteArray).data.toList = [47] from rfl, if_pos ⟨by omega, by simp; omega⟩]
   exact Ev.now _
theorem FnExactImageText : laws_FnExactImageText.Pure := by
 intro l0 hw
 have h : Ev (fun k => laws_FnExactImageText.f k l0) true := by
  unfold laws_FnExactImageText.f
  obtain ⟨r, hr, hq⟩ := szInt64SS_evo l0 1048576 hw (by decide) (by decide)
  refine Ev.bind hr ?_
  rcases hq with hq | ⟨q0, _, ok⟩
  ·
   simp only [if_pos hq]
   exact Ev.now _
  ·
   simp only [if_neg (show ¬ r < 0 by omega)]
   refine Ev.bind (toInt64SS_evo l0 ok) ?_
   refine Ev.bind (spec_ev l0) ?_
   refine Ev.bind (toInt64SS_evo l0 ok) ?_
   refine Ev.bind (impl_ev l0 ok.2) ?_
   simp only [if_true]
   refine Ev.bind (toInt64SS_evo l0 ok) ?_
   refine Ev.bind (eqInt64SS_evo l0 ok) ?_
   simp only [if_true]
   exact Ev.now _
 obtain ⟨K, h⟩ := h
 exact ⟨K, h K (Nat.le_refl _)⟩
end Go.Proofs.YtdbocilpcknlhaaDoor.Pure
