/- The program's HotSpots returns what the reference's returns, for all arguments. No condition beyond the statement's own. -/
import Derived.Test.YtobhjkpegcfdfaaPFnExactHotSpotsx0
import Derived.Test.YtobhjkpegcfdfaaPFnExactHotSpotsx1
import Derived.Test.YtobhjkpegcfdfaaPFnExactHotSpotsx2
import Derived.Test.YtobhjkpegcfdfaaPFnExactHotSpotsx3
import Derived.Test.YtobhjkpegcfdfaaPFnExactHotSpotsx4
import Derived.Test.YtobhjkpegcfdfaaPFnExactHotSpotsx5
import Derived.Test.YtobhjkpegcfdfaaPFnExactHotSpotsx6
namespace Go.Proofs.Ytobhjkpegcfdfaa.Pure
open Go.RowKit Go.Proofs.Ytobhjkpegcfdfaa.PFnExactHotSpots Go.Proofs.YtobhjkpegcfdfaaW.PrintWords Go.Proofs.YtobhjkpegcfdfaaW.PrintLast Go.Proofs.YtobhjkpegcfdfaaW.PrintMore
set_option linter.unusedVariables false
set_option linter.unusedSimpArgs false
theorem w64 {x : Int} (h0 : -9223372036854775808 ≤ x) (h1 : x ≤ 9223372036854775807) : wrap64 x = x := by unfold wrap64; omega
theorem rd_nat (l : List Int) (i : Nat) : rd l (i : Int) = l.getD i 0 := by unfold rd; rw [Int.toNat_natCast]
theorem getD_mem {α : Type} {l : List α} {i : Nat} (d : α) (h : i < l.length) : l.getD i d ∈ l := by
 rw [List.getD_eq_getElem?_getD, List.getElem?_eq_getElem h]; exact List.getElem_mem _
theorem getD_lt {α : Type} {l : List α} {i : Nat} (d : α) (h : i < l.length) : l.getD i d = l[i] := by
 rw [List.getD_eq_getElem?_getD, List.getElem?_eq_getElem h]; rfl
theorem take_succ_getD {α : Type} (l : List α) (d : α) {i : Nat} (h : i < l.length) : l.take (i + 1) = l.take i ++ [l.getD i d] := by
 rw [List.take_succ_eq_append_getElem h, getD_lt d h]
theorem ev_copy {α : Type} (L : Nat → List α → List α → Int → Option (List α)) (xs : List α) (d d' : α)
  (step : ∀ ys i, i < xs.length → ys.length = xs.length → ∀ r, Ev (fun k => L k xs (ys.set i (xs.getD i d)) ((i + 1 : Nat) : Int)) r → Ev (fun k => L k xs ys (i : Int)) r)
  (fin : ∀ ys, Ev (fun k => L k xs ys (xs.length : Int)) ys) : Ev (fun k => L k xs (List.replicate xs.length d') 0) xs := by
 have key : ∀ (m i : Nat) (ys : List α), i + m = xs.length → ys.length = xs.length → (∀ j, j < i → ys[j]? = xs[j]?) → Ev (fun k => L k xs ys (i : Int)) xs := by
  intro m
  induction m with
  | zero =>
   intro i ys hi hl hj
   have e : ys = xs := List.ext_getElem? (fun j => by
    by_cases h : j < xs.length
    ·
     exact hj j (by omega)
    ·
     rw [List.getElem?_eq_none (by omega), List.getElem?_eq_none (by omega)])
   have : i = xs.length := by omega
   subst this
   rw [e]
   exact fin xs
  | succ m ih =>
   intro i ys hi hl hj
   refine step ys i (by omega) hl xs (ih (i + 1) _ (by omega) (by rw [List.length_set]; exact hl) (fun j hjj => ?_))
   by_cases h : j = i
   ·
    subst h
    rw [List.getElem?_set_self (by omega), getD_lt d (by omega), List.getElem?_eq_getElem (by omega)]
   ·
    rw [List.getElem?_set_ne (by omega)]
    exact hj j (by omega)
 exact key xs.length 0 _ (by omega) (List.length_replicate ..) (fun j hj => absurd hj (Nat.not_lt_zero _))
theorem ev_eq {α : Type} (L : Nat → List α → List α → Int → Option Bool) (xs : List α) 
  (step : ∀ i, i < xs.length → Ev (fun k => L k xs xs ((i + 1 : Nat) : Int)) true → Ev (fun k => L k xs xs (i : Int)) true)
  (fin : Ev (fun k => L k xs xs (xs.length : Int)) true) : Ev (fun k => L k xs xs 0) true := by
 have key : ∀ (m i : Nat), i + m = xs.length → Ev (fun k => L k xs xs (i : Int)) true := by
  intro m
  induction m with
  | zero =>
   intro i hi
   have : i = xs.length := by omega
   subst this
   exact fin
  | succ m ih => intro i hi; exact step i (by omega) (ih (i + 1) (by omega))
 exact key xs.length 0 (by omega)
theorem ev_all {α ρ : Type} (L : Nat → Int → Option ρ) (xs : List α) (d : α) (p : α → Bool) (b c : ρ)
  (step : ∀ i, i < xs.length → p (xs.getD i d) = true → ∀ r, Ev (fun k => L k ((i + 1 : Nat) : Int)) r → Ev (fun k => L k (i : Int)) r)
  (bad : ∀ i, i < xs.length → p (xs.getD i d) = false → Ev (fun k => L k (i : Int)) b)
  (fin : Ev (fun k => L k (xs.length : Int)) c) : Ev (fun k => L k 0) (if xs.all p = true then c else b) := by
 have key : ∀ (m i : Nat), i + m = xs.length → Ev (fun k => L k (i : Int)) (if (xs.drop i).all p = true then c else b) := by
  intro m
  induction m with
  | zero =>
   intro i hi
   have : i = xs.length := by omega
   subst this
   rw [List.drop_length]
   exact fin
  | succ m ih =>
   intro i hi
   have hlt : i < xs.length := by omega
   rw [List.drop_eq_getElem_cons hlt, List.all_cons, ← getD_lt d hlt]
   cases hp : p (xs.getD i d) with
   | true => rw [Bool.true_and]; exact step i hlt hp _ (ih (i + 1) (by omega))
   | false => rw [Bool.false_and, if_neg (by decide)]; exact bad i hlt hp
 exact key xs.length 0 (by omega)
theorem ev_sz {α : Type} (L : Nat → Int → Int → Option Int) (xs : List α) (d : α) (B : α → Prop)
  (step : ∀ i a, i < xs.length → 0 ≤ a → a ≤ 1048576 → Ev (fun k => L k a (i : Int)) (-1) ∨ (∃ a', 0 ≤ a' ∧ a' ≤ a ∧ B (xs.getD i d) ∧ ∀ r, Ev (fun k => L k a' ((i + 1 : Nat) : Int)) r → Ev (fun k => L k a (i : Int)) r))
  (fin : ∀ a, Ev (fun k => L k a (xs.length : Int)) a) : ∀ a, 0 ≤ a → a ≤ 1048576 → ∃ r, Ev (fun k => L k a 0) r ∧ (r < 0 ∨ (0 ≤ r ∧ r ≤ a ∧ ∀ x ∈ xs, B x)) := by
 have key : ∀ (m i : Nat) (a : Int), i + m = xs.length → 0 ≤ a → a ≤ 1048576 → ∃ r, Ev (fun k => L k a (i : Int)) r ∧ (r < 0 ∨ (0 ≤ r ∧ r ≤ a ∧ ∀ j, i ≤ j → j < xs.length → B (xs.getD j d))) := by
  intro m
  induction m with
  | zero =>
   intro i a hi h0 h1
   have : i = xs.length := by omega
   subst this
   exact ⟨a, fin a, .inr ⟨h0, Int.le_refl _, fun j h2 h3 => by omega⟩⟩
  | succ m ih =>
   intro i a hi h0 h1
   rcases step i a (by omega) h0 h1 with h | ⟨a', h2, h3, hB, h⟩
   ·
    exact ⟨-1, h, .inl (by decide)⟩
   ·
    obtain ⟨r, hr, hq⟩ := ih (i + 1) a' (by omega) h2 (by omega)
    refine ⟨r, h r hr, ?_⟩
    rcases hq with hq | ⟨q0, q1, q2⟩
    ·
     exact .inl hq
    ·
     refine .inr ⟨q0, by omega, fun j h4 h5 => ?_⟩
     by_cases e : j = i
     ·
      subst e; exact hB
     ·
      exact q2 j (by omega) h5
 intro a h0 h1
 obtain ⟨r, hr, hq⟩ := key xs.length 0 a (by omega) h0 h1
 refine ⟨r, hr, hq.imp_right fun ⟨q0, q1, q2⟩ => ⟨q0, q1, fun x hx => ?_⟩⟩
 obtain ⟨j, hj, rfl⟩ := List.mem_iff_getElem.1 hx
 rw [← getD_lt d hj]
 exact q2 j (Nat.zero_le _) hj
theorem szInt64S_eq (l : List Int) (a : Int) (hl : l.length ≤ maxLen) (h0 : 0 ≤ a) (h1 : a ≤ 1048576) : ∃ r, laws_szInt64S.f l a = some r ∧ (r < 0 ∨ (0 ≤ r ∧ r ≤ a ∧ (l.length : Int) ≤ a)) := by
 unfold maxLen at hl
 unfold laws_szInt64S.f
 rw [w64 (by omega) (by omega)]
 split
 ·
  exact ⟨_, rfl, .inl (by decide)⟩
 ·
  exact ⟨_, rfl, .inr ⟨by omega, by omega, by omega⟩⟩
theorem szInt64SS_ev3 (l : List (List Int)) (a : Int) (hl : l.length ≤ maxLen) (hl2 : ∀ x ∈ l, x.length ≤ maxLen) (h0 : 0 ≤ a) (h1 : a ≤ 1048576) :
  ∃ r, Ev (fun k => laws_szInt64SS.f k l a) r ∧ (r < 0 ∨ (0 ≤ r ∧ r ≤ a ∧ l.length ≤ 1048576 ∧ ∀ x ∈ l, x.length ≤ 1048576)) := by
 unfold maxLen at hl
 unfold laws_szInt64SS.f
 rw [w64 (by omega) (by omega)]
 by_cases h : a - l.length < 0
 ·
  simp only [h, if_true]
  exact ⟨-1, Ev.now _, .inl (by decide)⟩
 ·
  simp only [h, if_false]
  obtain ⟨r, hr, hq⟩ := ev_sz (fun k a i => laws_szInt64SS.l0 k l a i) l [] (fun x => x.length ≤ 1048576) (fun i a hi h0 h1 => by
   obtain ⟨r, hr, hq⟩ := szInt64S_eq (l.getD i []) a (hl2 _ (getD_mem _ hi)) h0 h1
   have e : ∀ k, laws_szInt64SS.l0 (k + 1) l a i = if r < 0 then some (-1) else laws_szInt64SS.l0 k l r ((i + 1 : Nat) : Int) := fun k => by
    simp only [laws_szInt64SS.l0]
    rw [if_pos (by omega), if_pos (by omega)]
    unfold rd_L1
    rw [Int.toNat_natCast, hr]
    simp only [Option.bind_some]
    rw [w64 (by omega) (by omega)]
    rfl
   rcases hq with hq | ⟨q0, q1, q2⟩
   ·
    exact .inl (Ev.step (f := fun _ => some (-1)) (fun k => by rw [e, if_pos hq]) (Ev.now _))
   ·
    exact .inr ⟨r, q0, q1, by omega, fun s hs => Ev.step (fun k => by rw [e, if_neg (by omega)]) hs⟩) (fun a => Ev.step (f := fun _ => some a) (fun k => by simp only [laws_szInt64SS.l0]; rw [if_neg (by omega)]) (Ev.now _)) (a - l.length) (by omega) (by omega)
  exact ⟨r, hr, hq.imp_right fun ⟨q0, q1, q2⟩ => ⟨q0, by omega, by omega, q2⟩⟩
def okInt64SS (l : List (List Int)) : Prop := l.length ≤ 1048576 ∧ ∀ x ∈ l, x.length ≤ 1048576
theorem szInt64SS_evo (l : List (List Int)) (a : Int) (hw : l.length ≤ maxLen ∧ ∀ x0 ∈ l, x0.length ≤ maxLen ∧ ∀ x1 ∈ x0, (Lit.int .i64 x1).wf = true) (h0 : 0 ≤ a) (h1 : a ≤ 1048576) :
  ∃ r, Ev (fun k => laws_szInt64SS.f k l a) r ∧ (r < 0 ∨ (0 ≤ r ∧ r ≤ a ∧ okInt64SS l)) := szInt64SS_ev3 l a hw.1 (fun x hx => (hw.2 x hx).1) h0 h1
theorem toInt64S_ev (l : List Int) (h : l.length ≤ 35184372088832) : Ev (fun k => laws_toInt64S.f k l) l := by
 refine Ev.congr (f := fun k => laws_toInt64S.l0 k l (List.replicate l.length 0) 0) (fun k => ?_) ?_
 ·
  unfold laws_toInt64S.f
  rw [if_pos (by omega), if_pos (by omega), Int.toNat_natCast]
 ·
  refine ev_copy laws_toInt64S.l0 l 0 0 (fun ys i hi hl r hr => ?_) (fun ys => ?_)
  ·
   refine Ev.step (fun k => ?_) hr
   simp only [laws_toInt64S.l0]
   rw [if_pos (by omega), if_pos (by omega), if_pos (by omega), w64 (by omega) (by omega), rd_nat, Int.toNat_natCast]
   rfl
  ·
   refine Ev.step (f := fun _ => some ys) (fun k => ?_) (Ev.now _)
   simp only [laws_toInt64S.l0]
   rw [if_neg (by omega)]
theorem toInt64SS_ev (l : List (List Int)) (h : l.length ≤ 1048576) (h2 : ∀ x ∈ l, x.length ≤ 1048576) : Ev (fun k => laws_toInt64SS.f k l) l := by
 refine Ev.congr (f := fun k => laws_toInt64SS.l0 k l (List.replicate l.length []) 0) (fun k => ?_) ?_
 ·
  unfold laws_toInt64SS.f
  rw [if_pos (by omega), if_pos (by omega), Int.toNat_natCast]
 ·
  refine ev_copy laws_toInt64SS.l0 l [] [] (fun ys i hi hl r hr => ?_) (fun ys => ?_)
  ·
   refine Ev.step (f := fun k => (laws_toInt64S.f k (l.getD i [])).bind fun t => laws_toInt64SS.l0 k l (ys.set i t) ((i + 1 : Nat) : Int)) (fun k => ?_) (Ev.bind (toInt64S_ev _ (by have := h2 _ (getD_mem [] hi); omega)) hr)
   simp only [laws_toInt64SS.l0]
   rw [if_pos (by omega), if_pos (by omega)]
   simp only [show (i : Int) < ys.length by omega, if_true]
   rw [w64 (by omega) (by omega)]
   unfold rd_L1
   rw [Int.toNat_natCast]
   rfl
  ·
   refine Ev.step (f := fun _ => some ys) (fun k => ?_) (Ev.now _)
   simp only [laws_toInt64SS.l0]
   rw [if_neg (by omega)]
theorem toInt64SS_evo (l : List (List Int)) (h : okInt64SS l) : Ev (fun k => laws_toInt64SS.f k l) l := toInt64SS_ev l h.1 h.2
theorem eqInt64S_ev (l : List Int) (h : l.length ≤ 9223372036854775806) : Ev (fun k => laws_eqInt64S.f k l l) true := by
 refine Ev.congr (f := fun k => laws_eqInt64S.l0 k l l 0) (fun k => ?_) ?_
 ·
  unfold laws_eqInt64S.f
  rw [if_pos rfl]
 ·
  refine ev_eq laws_eqInt64S.l0 l (fun i hi hr => ?_) ?_
  ·
   refine Ev.step (fun k => ?_) hr
   simp only [laws_eqInt64S.l0]
   rw [if_pos (by omega), if_pos (by omega), if_pos (by omega), if_pos trivial, w64 (by omega) (by omega)]
   rfl
  ·
   refine Ev.step (f := fun _ => some true) (fun k => ?_) (Ev.now _)
   simp only [laws_eqInt64S.l0]
   rw [if_neg (by omega)]
theorem eqInt64SS_ev (l : List (List Int)) (h : l.length ≤ 1048576) (h2 : ∀ x ∈ l, x.length ≤ 1048576) : Ev (fun k => laws_eqInt64SS.f k l l) true := by
 refine Ev.congr (f := fun k => laws_eqInt64SS.l0 k l l 0) (fun k => ?_) ?_
 ·
  unfold laws_eqInt64SS.f
  rw [if_pos rfl]
 ·
  refine ev_eq laws_eqInt64SS.l0 l (fun i hi hr => ?_) ?_
  ·
   refine Ev.step (f := fun k => (laws_eqInt64S.f k (l.getD i []) (l.getD i [])).bind fun t => if t = true then laws_eqInt64SS.l0 k l l ((i + 1 : Nat) : Int) else some false) (fun k => ?_) (Ev.bind (eqInt64S_ev _ (by have := h2 _ (getD_mem [] hi); omega)) hr)
   simp only [laws_eqInt64SS.l0]
   rw [if_pos (by omega), if_pos (by omega), if_pos (by omega), w64 (by omega) (by omega)]
   unfold rd_L1
   rw [Int.toNat_natCast]
   rfl
  ·
   refine Ev.step (f := fun _ => some true) (fun k => ?_) (Ev.now _)
   simp only [laws_eqInt64SS.l0]
   rw [if_neg (by omega)]
theorem eqInt64SS_evo (l : List (List Int)) (h : okInt64SS l) : Ev (fun k => laws_eqInt64SS.f k l l) true := eqInt64SS_ev l h.1 h.2
theorem ev_fill {β ρ : Type} (L : Nat → List β → Int → Option ρ) (base : List β) (d : β) (f : Nat → β) (r : ρ)
  (step : ∀ i acc, i < base.length → acc.length = base.length → acc.getD i d = base.getD i d → Ev (fun k => L k (acc.set i (f i)) ((i + 1 : Nat) : Int)) r → Ev (fun k => L k acc (i : Int)) r)
  (fin : Ev (fun k => L k ((List.range base.length).map f) (base.length : Int)) r) : Ev (fun k => L k base 0) r := by
 have key : ∀ (m i : Nat), i + m = base.length → Ev (fun k => L k ((List.range i).map f ++ base.drop i) (i : Int)) r := by
  intro m
  induction m with
  | zero =>
   intro i hi
   have : i = base.length := by omega
   subst this
   rw [List.drop_length, List.append_nil]
   exact fin
  | succ m ih =>
   intro i hi
   have hlt : i < base.length := by omega
   refine step i _ hlt (by simp; omega) ?_ ?_
   ·
    rw [List.getD_eq_getElem?_getD, List.getD_eq_getElem?_getD, List.getElem?_append_right (by simp)]
    simp
   ·
    have := ih (i + 1) (by omega)
    rw [List.range_succ, List.map_append, List.append_assoc] at this
    have e : ((List.range i).map f ++ base.drop i).set i (f i) = (List.range i).map f ++ ([i].map f ++ base.drop (i + 1)) := by
     rw [List.set_append_right _ _ (by simp), List.drop_eq_getElem_cons hlt, List.length_map, List.length_range, Nat.sub_self, List.set_cons_zero]
     rfl
    rw [e]
    exact this
 exact key base.length 0 (by omega)
theorem getD_map_range {β : Type} (n : Nat) (f : Nat → β) (d : β) {i : Nat} (h : i < n) : ((List.range n).map f).getD i d = f i := by
 rw [List.getD_eq_getElem?_getD, List.getElem?_map, List.getElem?_range h]; rfl
def okInt64S (l : List Int) : Prop := l.length ≤ 1048576
def mkInt64S (l : List Int) (k : Int) : List Int := (List.range l.length).map fun i : Nat => k + (i : Int)
def cntInt64S (l : List Int) : Int := l.length
theorem markInt64S_ev (l : List Int) (k0 : Int) (h : okInt64S l) (h0 : 0 ≤ k0) (h1 : k0 ≤ 1000000000000000) : Ev (fun k => laws_markInt64S.f k l k0) (k0 + cntInt64S l, mkInt64S l k0) := by
 unfold okInt64S at h
 unfold laws_markInt64S.f
 have key := ev_fill (fun k acc i => laws_markInt64S.l0 k acc (k0 + i) i) l 0 (fun i => k0 + (i : Int)) (k0 + cntInt64S l, mkInt64S l k0) (fun i acc hi hl _ hs => ?_) ?_
 ·
  simpa using key
 ·
  refine Ev.step (fun k => ?_) hs
  simp only [laws_markInt64S.l0]
  rw [if_pos (by omega), if_pos (by omega), w64 (by omega) (by omega), w64 (by omega) (by omega), Int.toNat_natCast]
  congr 1
  omega
 ·
  refine Ev.step (f := fun _ => some (k0 + cntInt64S l, mkInt64S l k0)) (fun k => ?_) (Ev.now _)
  simp only [laws_markInt64S.l0]
  rw [if_neg (by simp)]
  rfl
def cntInt64SS : List (List Int) → Int
 | [] => 0
 | x :: xs => x.length + cntInt64SS xs
def mkInt64SS : List (List Int) → Int → List (List Int)
 | [], _ => []
 | x :: xs, k => mkInt64S x k :: mkInt64SS xs (k + x.length)
theorem mkInt64SS_len : ∀ (l : List (List Int)) (k : Int), (mkInt64SS l k).length = l.length
 | [], _ => rfl
 | x :: xs, k => by simp [mkInt64SS, mkInt64SS_len xs]
theorem cntInt64SS_bd0 : ∀ (l : List (List Int)), (∀ x ∈ l, x.length ≤ 1048576) → 0 ≤ cntInt64SS l ∧ cntInt64SS l ≤ l.length * 1048576
 | [], _ => by simp [cntInt64SS]
 | x :: xs, h => by
  have h1 := cntInt64SS_bd0 xs (fun y hy => h y (List.mem_cons_of_mem _ hy))
  have h2 := h x List.mem_cons_self
  simp only [cntInt64SS, List.length_cons]
  omega
theorem cntInt64SS_bd (l : List (List Int)) (h : okInt64SS l) : 0 ≤ cntInt64SS l ∧ cntInt64SS l ≤ 2000000000000 := by
 have := cntInt64SS_bd0 l h.2
 have := h.1
 omega
theorem cntInt64SS_append : ∀ (a b : List (List Int)), cntInt64SS (a ++ b) = cntInt64SS a + cntInt64SS b
 | [], b => by simp [cntInt64SS]
 | x :: xs, b => by simp only [List.cons_append, cntInt64SS, cntInt64SS_append xs b]; omega
theorem mkInt64SS_append : ∀ (a b : List (List Int)) (k : Int), mkInt64SS (a ++ b) k = mkInt64SS a k ++ mkInt64SS b (k + cntInt64SS a)
 | [], b, k => by simp [mkInt64SS, cntInt64SS]
 | x :: xs, b, k => by simp only [List.cons_append, mkInt64SS, cntInt64SS, mkInt64SS_append xs b]; congr 2; congr 1; omega
def okSpot1 (x : S116) : Prop := (-9223372036854775808 ≤ x.f0 ∧ x.f0 ≤ 9223372036854775807) ∧ (-9223372036854775808 ≤ x.f1 ∧ x.f1 ≤ 9223372036854775807) ∧ (-9223372036854775808 ≤ x.f2 ∧ x.f2 ≤ 9223372036854775807) ∧ (-9223372036854775808 ≤ x.f3 ∧ x.f3 ≤ 9223372036854775807)
theorem eqSpot_eq (x : S116) : laws_eqSpot.f (x.f0) (x.f1) (x.f2) (x.f3) (x.f0) (x.f1) (x.f2) (x.f3) = some true := by
 unfold laws_eqSpot.f
 simp
def okSpotS (l : List S116) : Prop := l.length ≤ 1048576 ∧ ∀ x ∈ l, okSpot1 x
theorem eqSpotS_evo (l : List S116) (h : okSpotS l) : Ev (fun k => laws_eqSpotS.f k l l) true := by
 have h := h.1
 refine Ev.congr (f := fun k => laws_eqSpotS.l0 k l l 0) (fun k => ?_) ?_
 ·
  unfold laws_eqSpotS.f
  rw [if_pos rfl]
 ·
  refine ev_eq laws_eqSpotS.l0 l (fun i hi hr => ?_) ?_
  ·
   refine Ev.step (fun k => ?_) hr
   simp only [laws_eqSpotS.l0]
   rw [if_pos (by omega), if_pos (by omega), if_pos (by omega), eqSpot_eq]
   simp only [Option.bind_some, if_true]
   rw [w64 (by omega) (by omega)]
   rfl
  ·
   refine Ev.step (f := fun _ => some true) (fun k => ?_) (Ev.now _)
   simp only [laws_eqSpotS.l0]
   rw [if_neg (by omega)]
theorem Ev.succ {α : Type} {g : Nat → Option α} {r : α} (h : Ev (fun k => g (k + 1)) r) : Ev g r := Ev.step (fun _ => rfl) h
theorem Ev.now' {α : Type} {a b : α} (h : a = b) : Ev (fun _ => some a) b := h ▸ Ev.now a
noncomputable def mk1Spot (k : Int) : S116 := ⟨k, k + 1, k + 1 + 1, k + 1 + 1 + 1⟩
noncomputable def mkSpotS (l : List S116) (k : Int) : List S116 := (List.range l.length).map fun i : Nat => mk1Spot (k + 4 * (i : Int))
def cntSpotS (l : List S116) : Int := 4 * (l.length : Int)
theorem mkSpotS_len (l : List S116) (k : Int) : (mkSpotS l k).length = l.length := by simp [mkSpotS]
theorem cntSpotS_bd (l : List S116) (h : okSpotS l) : 0 ≤ cntSpotS l ∧ cntSpotS l ≤ 2000000000000 := by have h := h.1; unfold cntSpotS; omega
theorem rdsetSpot (l : List S116) (i : Nat) (v : S116) (h : i < l.length) : rd_T116 (l.set i v) (i : Int) = v := by
 unfold rd_T116
 rw [Int.toNat_natCast, getD_lt _ (by simpa using h), List.getElem_set_self]
set_option maxRecDepth 10000 in
theorem markSpotS_ev (l : List S116) (k0 : Int) (h : okSpotS l) (h0 : 0 ≤ k0) (h1 : k0 ≤ 1000000000000000) : Ev (fun k => laws_markSpotS.f k l k0) (k0 + cntSpotS l, mkSpotS l k0) := by
 have h := h.1
 unfold laws_markSpotS.f
 have key := ev_fill (fun k acc i => laws_markSpotS.l0 k acc (k0 + 4 * i) i) l z116 (fun i => mk1Spot (k0 + 4 * (i : Int))) (k0 + cntSpotS l, mkSpotS l k0) (fun i acc hi hl _ hs => ?_) ?_
 ·
  simpa using key
 ·
  refine Ev.succ ?_
  simp (disch := omega) only [laws_markSpotS.l0, if_pos, w64, Option.bind_some, Int.toNat_natCast]
  simp (disch := (first | omega | (simp only [List.length_set]; omega))) only [rdsetSpot, List.set_set]
  refine Ev.congr (fun k => ?_) hs
  simp only [mk1Spot]
  congr 1
  all_goals first | rfl | omega | (push_cast; omega)
 ·
  refine Ev.succ ?_
  simp only [laws_markSpotS.l0]
  simp only [mkSpotS, List.length_map, List.length_range, Int.lt_irrefl, if_false]
  exact Ev.now' (by unfold cntSpotS; rfl)
theorem heldSpotS_ev (l : List S116) (k0 : Int) (h : okSpotS l) (h0 : 0 ≤ k0) (h1 : k0 ≤ 1000000000000000) : Ev (fun k => laws_heldSpotS.f k (mkSpotS l k0) k0) (k0 + cntSpotS l) := by
 have h := h.1
 unfold laws_heldSpotS.f
 have key : ∀ (m i : Nat), i + m = l.length → Ev (fun k => laws_heldSpotS.l0 k (mkSpotS l k0) (k0 + 4 * i) i) (k0 + cntSpotS l) := by
  intro m
  induction m with
  | zero =>
   intro i hi
   refine Ev.succ ?_
   simp only [laws_heldSpotS.l0, mkSpotS_len, show ¬ (i : Int) < (l.length : Int) by omega, if_false]
   exact Ev.now' (by unfold cntSpotS; omega)
  | succ m ih =>
   intro i hi
   have hs := ih (i + 1) (by omega)
   have e : rd_T116 (mkSpotS l k0) (i : Int) = mk1Spot (k0 + 4 * (i : Int)) := by
    unfold rd_T116
    rw [Int.toNat_natCast]
    exact getD_map_range _ _ _ (by omega)
   refine Ev.succ ?_
   simp only [laws_heldSpotS.l0, mkSpotS_len, e, mk1Spot]
   simp (disch := first | omega | rfl) only [if_pos, if_true, w64, Option.bind_some]
   refine Ev.congr (fun k => ?_) hs
   congr 1
   all_goals first | rfl | omega | (push_cast; omega)
 simpa using key l.length 0 (by omega)
def rowOk (l : List (List Int)) (row : List Int) : Bool := decide (1 ≤ row.length) && (decide (row.length ≤ 16) && (decide (row.length = (l.getD 0 []).length) && row.all (inB (-5000) 20000)))
def imgOk (l : List (List Int)) : Bool := decide (1 ≤ l.length) && (decide (l.length ≤ 16) && l.all (rowOk l))
theorem specCell_eq (x : Int) : spec_l28Cell.f x = some (inB (-5000) 20000 x) := by
 unfold spec_l28Cell.f spec_l00In.f inB
 by_cases h : x ≥ -5000
 ·
  rw [if_pos h, decide_eq_true (show -5000 ≤ x from h)]; rfl
 ·
  rw [if_neg h, decide_eq_false (show ¬ -5000 ≤ x from h)]; rfl
theorem specOk_row (l : List (List Int)) (hl : l.length ≤ 16) (i : Nat) (hi : i < l.length) (h16 : (l.getD i []).length ≤ 16) (r : Bool) (hr : Ev (fun k => spec_l28Ok.l0 k l ((i + 1 : Nat) : Int)) r) :
  Ev (fun k => spec_l28Ok.l1 k l i 0) (if (l.getD i []).all (inB (-5000) 20000) = true then r else false) := by
 have ur : rd_L1 l i = l.getD i [] := by unfold rd_L1; rw [Int.toNat_natCast]
 refine ev_all (fun k j => spec_l28Ok.l1 k l i j) (l.getD i []) 0 (inB (-5000) 20000) false r (fun j hj hp s hs => ?_) (fun j hj hp => ?_) ?_
 ·
  refine Ev.step (fun k => ?_) hs
  simp only [spec_l28Ok.l1]
  rw [if_pos (by omega), if_pos (by omega), ur, if_pos (by omega), if_pos (by omega), rd_nat, specCell_eq, hp]
  simp only [Option.bind_some, if_true]
  rw [w64 (by omega) (by omega)]
  rfl
 ·
  refine Ev.step (f := fun _ => some false) (fun k => ?_) (Ev.now _)
  simp only [spec_l28Ok.l1]
  rw [if_pos (by omega), if_pos (by omega), ur, if_pos (by omega), if_pos (by omega), rd_nat, specCell_eq, hp]
  rfl
 ·
  refine Ev.step (fun k => ?_) hr
  simp only [spec_l28Ok.l1]
  rw [if_pos (by omega), if_pos (by omega), ur, if_neg (by omega), w64 (by omega) (by omega)]
  rfl
theorem specOk_ev (l : List (List Int)) : Ev (fun k => spec_l28Ok.f k l) (imgOk l) := by
 unfold spec_l28Ok.f imgOk
 by_cases h1 : l.length < 1
 ·
  simp only [show (l.length : Int) < 1 by omega, if_true]
  rw [decide_eq_false (by omega), Bool.false_and]
  exact Ev.step (f := fun _ => some false) (fun k => by simp [spec_l28Ok.j0]) (Ev.now _)
 ·
  simp only [show ¬ (l.length : Int) < 1 by omega, if_false]
  rw [decide_eq_true (show 1 ≤ l.length by omega), Bool.true_and]
  by_cases h16 : l.length > 16
  ·
   rw [decide_eq_false (show ¬ l.length ≤ 16 by omega), Bool.false_and]
   exact Ev.step (f := fun _ => some false) (fun k => by simp only [spec_l28Ok.j0]; rw [if_pos (decide_eq_true (by omega))]) (Ev.now _)
  ·
   rw [decide_eq_true (show l.length ≤ 16 by omega), Bool.true_and]
   refine Ev.step (f := fun k => spec_l28Ok.l0 k l 0) (fun k => by simp only [spec_l28Ok.j0]; rw [if_neg (by simp; omega)]) ?_
   have key := ev_all (fun k i => spec_l28Ok.l0 k l i) l [] (rowOk l) false true (fun i hi hp s hs => ?_) (fun i hi hp => ?_) ?_
   ·
    revert key
    cases l.all (rowOk l) <;> exact id
   ·
    have ur : rd_L1 l i = l.getD i [] := by unfold rd_L1; rw [Int.toNat_natCast]
    have u0 : rd_L1 l 0 = l.getD 0 [] := rfl
    simp only [rowOk, Bool.and_eq_true, decide_eq_true_eq] at hp
    obtain ⟨p1, p2, p3, p4⟩ := hp
    refine Ev.step (f := fun k => spec_l28Ok.j2 k l i false) (fun k => ?_) (Ev.step (f := fun k => spec_l28Ok.l1 k l i 0) (fun k => by simp [spec_l28Ok.j2]) ?_)
    ·
     simp only [spec_l28Ok.l0]
     rw [if_pos (by omega), if_pos (by omega), ur, u0, if_neg (by omega), if_neg (by omega), if_pos (by omega), p3]
     simp
    ·
     have := specOk_row l (by omega) i hi p2 s hs
     rw [p4, if_pos rfl] at this
     exact this
   ·
    have ur : rd_L1 l i = l.getD i [] := by unfold rd_L1; rw [Int.toNat_natCast]
    have u0 : rd_L1 l 0 = l.getD 0 [] := rfl
    have fin : Ev (fun k => spec_l28Ok.j2 k l i true) false := Ev.step (f := fun _ => some false) (fun k => by simp [spec_l28Ok.j2]) (Ev.now _)
    by_cases g1 : (l.getD i []).length < 1
    ·
     refine Ev.step (fun k => ?_) fin
     simp only [spec_l28Ok.l0]
     rw [if_pos (by omega), if_pos (by omega), ur, if_pos (by omega)]
    ·
     by_cases g2 : (l.getD i []).length > 16
     ·
      refine Ev.step (fun k => ?_) fin
      simp only [spec_l28Ok.l0]
      rw [if_pos (by omega), if_pos (by omega), ur, if_neg (by omega), if_pos (by omega)]
     ·
      by_cases g3 : (l.getD i []).length = (l.getD 0 []).length
      ·
       have g4 : (l.getD i []).all (inB (-5000) 20000) = false := by
        simp only [rowOk] at hp
        rw [decide_eq_true (by omega), decide_eq_true (by omega), decide_eq_true g3] at hp
        simpa using hp
       refine Ev.step (f := fun k => spec_l28Ok.j2 k l i false) (fun k => ?_) (Ev.step (f := fun k => spec_l28Ok.l1 k l i 0) (fun k => by simp [spec_l28Ok.j2]) ?_)
       ·
        simp only [spec_l28Ok.l0]
        rw [if_pos (by omega), if_pos (by omega), ur, u0, if_neg (by omega), if_neg (by omega), if_pos (by omega), g3]
        simp
       ·

        obtain ⟨x, hx, hxb⟩ := List.all_eq_false.1 g4
        have : ∀ (m j : Nat), j + m = (l.getD i []).length → (∃ q, j ≤ q ∧ q < (l.getD i []).length ∧ inB (-5000) 20000 ((l.getD i []).getD q 0) = false) → Ev (fun k => spec_l28Ok.l1 k l i j) false := by
         intro m
         induction m with
         | zero => rintro j hj ⟨q, q1, q2, q3⟩; omega
         | succ m ih =>
          rintro j hj ⟨q, q1, q2, q3⟩
          cases hc : inB (-5000) 20000 ((l.getD i []).getD j 0) with
          | true =>
           have : q ≠ j := by rintro rfl; rw [hc] at q3; cases q3
           refine Ev.step (fun k => ?_) (ih (j + 1) (by omega) ⟨q, by omega, q2, q3⟩)
           simp only [spec_l28Ok.l1]
           rw [if_pos (by omega), if_pos (by omega), ur, if_pos (by omega), if_pos (by omega), rd_nat, specCell_eq, hc]
           simp only [Option.bind_some, if_true]
           rw [w64 (by omega) (by omega)]
           rfl
          | false =>
           refine Ev.step (f := fun _ => some false) (fun k => ?_) (Ev.now _)
           simp only [spec_l28Ok.l1]
           rw [if_pos (by omega), if_pos (by omega), ur, if_pos (by omega), if_pos (by omega), rd_nat, specCell_eq, hc]
           rfl
        obtain ⟨q, hq, rfl⟩ := List.mem_iff_getElem.1 hx
        exact this (l.getD i []).length 0 (by omega) ⟨q, Nat.zero_le _, hq, by rw [getD_lt 0 hq]; simpa using hxb⟩
      ·
       refine Ev.step (f := fun k => spec_l28Ok.j2 k l i true) (fun k => ?_) fin
       simp only [spec_l28Ok.l0]
       rw [if_pos (by omega), if_pos (by omega), ur, u0, if_neg (by omega), if_neg (by omega), if_pos (by omega)]
       congr 1
       exact bne_iff_ne.mpr (by omega)
   ·
    refine Ev.step (f := fun _ => some true) (fun k => ?_) (Ev.now _)
    simp only [spec_l28Ok.l0]
    rw [if_neg (by omega)]
theorem implOk_ev (l : List (List Int)) (hlen : ∀ x ∈ l, x.length ≤ 1048576) : Ev (fun k => impl_ValidImage.f k l) (imgOk l) := by
 unfold impl_ValidImage.f imgOk
 by_cases h1 : l.length < 1
 ·
  simp only [show (l.length : Int) < 1 by omega, if_true]
  rw [decide_eq_false (by omega), Bool.false_and]
  exact Ev.step (f := fun _ => some false) (fun k => by simp [impl_ValidImage.j0]) (Ev.now _)
 ·
  simp only [show ¬ (l.length : Int) < 1 by omega, if_false]
  rw [decide_eq_true (show 1 ≤ l.length by omega), Bool.true_and]
  by_cases h16 : l.length > 16
  ·
   rw [decide_eq_false (show ¬ l.length ≤ 16 by omega), Bool.false_and]
   exact Ev.step (f := fun _ => some false) (fun k => by simp only [impl_ValidImage.j0]; rw [if_pos (decide_eq_true (by omega))]) (Ev.now _)
  ·
   rw [decide_eq_true (show l.length ≤ 16 by omega), Bool.true_and]
   refine Ev.step (f := fun k => impl_ValidImage.l0 k l l l.length 0) (fun k => by simp only [impl_ValidImage.j0]; rw [if_neg (by simp; omega)]) ?_
   have key := ev_all (fun k i => impl_ValidImage.l0 k l l l.length i) l [] (rowOk l) false true (fun i hi hp s hs => ?_) (fun i hi hp => ?_) ?_
   ·
    revert key
    cases l.all (rowOk l) <;> exact id
   ·
    have ur : rd_L1 l i = l.getD i [] := by unfold rd_L1; rw [Int.toNat_natCast]
    have u0 : rd_L1 l 0 = l.getD 0 [] := rfl
    have hll := hlen _ (getD_mem [] hi)
    simp only [rowOk, Bool.and_eq_true, decide_eq_true_eq] at hp
    obtain ⟨p1, p2, p3, p4⟩ := hp
    refine Ev.step (fun k => ?_) hs
    simp only [impl_ValidImage.l0]
    rw [if_pos (by omega), if_pos (by omega), if_pos (by omega), ur, u0, if_neg (by omega), if_neg (by omega), if_pos (by omega), if_pos (by omega)]
    unfold impl_allWithin.f
    rw [if_pos (by omega), p4]
    simp only [Option.bind_some, if_true]
    rw [w64 (by omega) (by omega)]
    rfl
   ·
    have ur : rd_L1 l i = l.getD i [] := by unfold rd_L1; rw [Int.toNat_natCast]
    have u0 : rd_L1 l 0 = l.getD 0 [] := rfl
    have hll := hlen _ (getD_mem [] hi)
    refine Ev.step (f := fun _ => some false) (fun k => ?_) (Ev.now _)
    simp only [impl_ValidImage.l0]
    rw [if_pos (by omega), if_pos (by omega), if_pos (by omega), ur, u0]
    by_cases g1 : (l.getD i []).length < 1
    ·
     rw [if_pos (by omega)]
    ·
     rw [if_neg (by omega)]
     by_cases g2 : (l.getD i []).length > 16
     ·
      rw [if_pos (by omega)]
     ·
      rw [if_neg (by omega), if_pos (by omega)]
      by_cases g3 : (l.getD i []).length = (l.getD 0 []).length
      ·
       have g4 : (l.getD i []).all (inB (-5000) 20000) = false := by
        simp only [rowOk] at hp
        rw [decide_eq_true (by omega), decide_eq_true (by omega), decide_eq_true g3] at hp
        simpa using hp
       rw [if_pos (by omega)]
       unfold impl_allWithin.f
       rw [if_pos (by omega), g4]
       rfl
      ·
       rw [if_neg (by omega)]
   ·
    refine Ev.step (f := fun _ => some true) (fun k => ?_) (Ev.now _)
    simp only [impl_ValidImage.l0]
    rw [if_neg (by omega)]
theorem imgOk_facts {l : List (List Int)} (h : imgOk l = true) : 1 ≤ l.length ∧ l.length ≤ 16 ∧ ∀ i, i < l.length → (l.getD i []).length = (l.getD 0 []).length ∧ 1 ≤ (l.getD i []).length ∧ (l.getD i []).length ≤ 16 ∧ ∀ j, j < (l.getD i []).length → -5000 ≤ (l.getD i []).getD j 0 ∧ (l.getD i []).getD j 0 ≤ 20000 := by
 simp only [imgOk, Bool.and_eq_true, decide_eq_true_eq, List.all_eq_true] at h
 refine ⟨h.1, h.2.1, fun i hi => ?_⟩
 have hr := h.2.2 _ (getD_mem [] hi)
 simp only [rowOk, Bool.and_eq_true, decide_eq_true_eq, List.all_eq_true] at hr
 refine ⟨hr.2.2.1, hr.1, hr.2.1, fun j hj => ?_⟩
 have := hr.2.2.2 _ (getD_mem 0 hj)
 simpa [inB] using this
theorem imgOk_rows {l : List (List Int)} (h : imgOk l = true) : ∀ x ∈ l, x.length = (l.getD 0 []).length ∧ 1 ≤ x.length ∧ x.length ≤ 16 ∧ ∀ y ∈ x, -5000 ≤ y ∧ y ≤ 20000 := by
 simp only [imgOk, Bool.and_eq_true, decide_eq_true_eq, List.all_eq_true] at h
 intro x hx
 have hr := h.2.2 x hx
 simp only [rowOk, Bool.and_eq_true, decide_eq_true_eq, List.all_eq_true] at hr
 exact ⟨hr.2.2.1, hr.1, hr.2.1, fun y hy => by simpa [inB] using hr.2.2.2 y hy⟩
def cellOf (m : Nat) (q : Int) : S123 := ⟨q / (m : Int), q % (m : Int)⟩
def posN (r c : Int) : List (List Int) := [[r - 1, c], [r, c - 1], [r, c + 1], [r + 1, c]]
theorem posN_at (r c : Int) : ∀ i : Nat, i < 4 → (posN r c).getD i [] = [r + (besT i).1, c + (besT i).2] := by
 intro i hi
 match i, hi with
 | 0, _ => show [r - 1, c] = [r + -1, c + 0]; congr 1; congr 1; omega
 | 1, _ => show [r, c - 1] = [r + 0, c + -1]; congr 1; omega
 | 2, _ => show [r, c + 1] = [r + 0, c + 1]; congr 1; omega
 | 3, _ => show [r + 1, c] = [r + 1, c + 0]; congr 1; congr 1; omega
theorem besT_in : ∀ i : Nat, -1 ≤ (besT i).1 ∧ (besT i).1 ≤ 1 ∧ -1 ≤ (besT i).2 ∧ (besT i).2 ≤ 1 := by
 intro i
 match i with
 | 0 => decide
 | 1 => decide
 | 2 => decide
 | n + 3 => exact ⟨by show (-1 : Int) ≤ 1; decide, by show (1 : Int) ≤ 1; decide, by show (-1 : Int) ≤ 0; decide, by show (0 : Int) ≤ 1; decide⟩
def nearT (l : List (List Int)) (r c : Int) : Nat → Nat → List S123
 | 0, _ => []
 | m + 1, i => (if nearB l (r + (besT i).1) (c + (besT i).2) = true then [(⟨r + (besT i).1, c + (besT i).2⟩ : S123)] else []) ++ nearT l r c m (i + 1)
theorem nearT_all (l : List (List Int)) (r c : Int) : nearL l r c 4 = nearT l r c 4 0 := by
 have h0 : nearL l r c 0 = [] := rfl
 rw [nearL_succ, nearL_succ, nearL_succ, nearL_succ, h0]
 simp only [nearT, List.append_assoc, List.nil_append, List.append_nil]
structure Seen (n m : Nat) (seen : List (Int × Int)) (arr : List Bool) : Prop where
 len : arr.length = n * m
 mem : ∀ y z : Nat, y < n → z < m → arr.getD (y * m + z) false = decide (((y : Int), (z : Int)) ∈ seen)
 cnt : seen.length = arr.countP (fun b => b)
theorem idx_inj {m y z y' z' : Nat} (hz : z < m) (hz' : z' < m) (h : y * m + z = y' * m + z') : y = y' ∧ z = z' := by
 have e1 : (y * m + z) / m = y := by rw [Nat.mul_comm, Nat.mul_add_div (by omega), Nat.div_eq_of_lt hz, Nat.add_zero]
 have e2 : (y' * m + z') / m = y' := by rw [Nat.mul_comm, Nat.mul_add_div (by omega), Nat.div_eq_of_lt hz', Nat.add_zero]
 have e : y = y' := by rw [← e1, ← e2, h]
 subst e
 exact ⟨rfl, by omega⟩
theorem idx_lt {n m y z : Nat} (hy : y < n) (hz : z < m) : y * m + z < n * m := by
 have : (y + 1) * m ≤ n * m := Nat.mul_le_mul_right _ hy
 rw [Nat.succ_mul] at this
 omega
theorem countP_set_true : ∀ (a : List Bool) (i : Nat), i < a.length → a.getD i false = false → (a.set i true).countP (fun b => b) = a.countP (fun b => b) + 1
 | [], i, h, _ => absurd h (by simp)
 | b :: t, 0, _, hb => by
  have : b = false := by simpa using hb
  subst this
  simp
 | b :: t, i + 1, h, hb => by
  have ih := countP_set_true t i (by simpa using h) (by simpa using hb)
  rw [List.set_cons_succ, List.countP_cons, List.countP_cons, ih]
  omega
theorem Seen.put {n m : Nat} {seen : List (Int × Int)} {arr : List Bool} (h : Seen n m seen arr) {y z : Nat} (hy : y < n) (hz : z < m) (hn : ((y : Int), (z : Int)) ∉ seen) : Seen n m (seen ++ [((y : Int), (z : Int))]) (arr.set (y * m + z) true) := by
 have hlt : y * m + z < arr.length := by rw [h.len]; exact idx_lt hy hz
 refine ⟨by rw [List.length_set, h.len], fun y' z' hy' hz' => ?_, ?_⟩
 ·
  have hlt' : y' * m + z' < arr.length := by rw [h.len]; exact idx_lt hy' hz'
  by_cases e : y * m + z = y' * m + z'
  ·
   obtain ⟨rfl, rfl⟩ := idx_inj hz hz' e
   rw [List.getD_eq_getElem?_getD, List.getElem?_set_self hlt]
   simp
  ·
   rw [List.getD_eq_getElem?_getD, List.getElem?_set_ne e, ← List.getD_eq_getElem?_getD, h.mem y' z' hy' hz']
   have hne : ¬ (((y' : Int), (z' : Int)) = ((y : Int), (z : Int))) := by
    intro he
    injection he with h1 h2
    apply e
    have h1 : y' = y := by omega
    have h2 : z' = z := by omega
    rw [h1, h2]
   simp [hne]
 ·
  have hf : arr.getD (y * m + z) false = false := by rw [h.mem y z hy hz]; exact decide_eq_false hn
  rw [countP_set_true arr _ hlt hf, List.length_append, h.cnt]
  rfl
theorem Seen.le {n m : Nat} {seen : List (Int × Int)} {arr : List Bool} (h : Seen n m seen arr) : seen.length ≤ n * m := by
 rw [h.cnt, ← h.len]
 exact List.countP_le_length
section
variable {l : List (List Int)} {n m : Nat} {lim : Int}
structure Img (l : List (List Int)) (n m : Nat) : Prop where
 n1 : 1 ≤ n
 n16 : n ≤ 16
 m1 : 1 ≤ m
 m16 : m ≤ 16
 hn : l.length = n
 hm : (l.getD 0 []).length = m
 rows : ∀ i, i < n → (l.getD i []).length = m
 val : ∀ i j, i < n → j < m → -5000 ≤ (l.getD i []).getD j 0 ∧ (l.getD i []).getD j 0 ≤ 20000
theorem Img.area (h : Img l n m) : n * m ≤ 256 := Nat.mul_le_mul h.n16 h.m16
theorem hotV_nat (l : List (List Int)) (y z : Nat) : hotV l (y : Int) (z : Int) = (l.getD y []).getD z 0 := by
 unfold hotV
 rw [rd_nat, Int.toNat_natCast]
theorem near_nat (h : Img l n m) {y z : Int} (hb : nearB l y z = true) : ∃ Y Z : Nat, y = (Y : Int) ∧ z = (Z : Int) ∧ Y < n ∧ Z < m := by
 unfold nearB at hb
 simp only [Bool.and_eq_true, decide_eq_true_eq] at hb
 obtain ⟨h1, h2, h3, h4⟩ := hb
 rw [h.hn] at h2
 rw [h.hm] at h4
 exact ⟨y.toNat, z.toNat, by omega, by omega, by omega, by omega⟩
theorem nearB_no (h : Img l n m) {y z : Int} (hb : ¬ nearB l y z = true) : y < 0 ∨ (n : Int) ≤ y ∨ z < 0 ∨ (m : Int) ≤ z := by
 unfold nearB at hb
 simp only [Bool.and_eq_true, decide_eq_true_eq] at hb
 rw [h.hn, h.hm] at hb
 omega
theorem mx_eq (a b : Int) : mx a b = if a > b then a else b := by
 unfold mx
 split <;> split <;> omega
theorem meas_ (N s q a d s' q' : Nat) (h1 : s ≤ N) (h2 : s' ≤ N) (h3 : s' + q = s + q') (h4 : a < q) (h5 : a < q') (h : (N - s) + (q - a) ≤ d + 1) : (N - s') + (q' - (a + 1)) ≤ d := by omega
theorem wsub_ {R n : Nat} (h : R < n) (hn : n ≤ 256) : wrap64 ((R : Int) - 1) = (R : Int) - 1 := w64 (by omega) (by omega)
theorem wadd_ {R n : Nat} (h : R < n) (hn : n ≤ 256) : wrap64 ((R : Int) + 1) = (R : Int) + 1 := w64 (by omega) (by omega)
theorem suc1_ {c d m : Nat} (h : c + (d + 1) = m) : c < m := by omega
theorem suc2_ {c d m : Nat} (h : c + (d + 1) = m) : c + 1 + d = m := by omega
theorem m0_ {m : Nat} (h : 1 ≤ m) : ¬ ((m : Int) = 0) := by omega
theorem w256_ {m : Nat} (h : m ≤ 256) : wrap64 (m : Int) = (m : Int) := w64 (by omega) (by omega)
theorem okS_ {r c : Nat} {ce pe : Int} (h1 : r ≤ 16) (h2 : c ≤ 16) (h3 : 0 ≤ ce) (h4 : ce ≤ 256) (h5 : -5000 ≤ pe) (h6 : pe ≤ 20000) : okSpot1 (⟨(r : Int), (c : Int), ce, pe⟩ : S116) :=
 ⟨⟨by show _ ≤ (r : Int); omega, by show (r : Int) ≤ _; omega⟩, ⟨by show _ ≤ (c : Int); omega, by show (c : Int) ≤ _; omega⟩, ⟨by show _ ≤ ce; omega, by show ce ≤ _; omega⟩, ⟨by show _ ≤ pe; omega, by show pe ≤ _; omega⟩⟩
theorem add4_ (a b c d : Nat) (h : a + (b + 1) = c + 1 + d) : a + b = c + d := by omega
theorem near_both (h : Img l n m) (spots : List S116) (first r0 c0 cells peak : Int) (r c : Nat) (hr : r < n) (hc : c < m) (at_ : Nat) : ∀ (d i : Nat), i + d = 4 → ∀ (seen : List (Int × Int)) (arr : List Bool) (queue : List Int), Seen n m seen arr → at_ < queue.length → (∀ q ∈ queue, 0 ≤ q ∧ q < ((n * m : Nat) : Int)) → queue.length ≤ seen.length →
  ∃ seen' arr' queue', Seen n m seen' arr' ∧ at_ < queue'.length ∧ (∀ q ∈ queue', 0 ≤ q ∧ q < ((n * m : Nat) : Int)) ∧ queue'.length ≤ seen'.length ∧ seen'.length + queue.length = seen.length + queue'.length ∧
   hotN l lim (nearT l r c d i) seen ((queue.drop at_).map (cellOf m)) = (seen', (queue'.drop at_).map (cellOf m)) ∧
   ∀ res, Ev (fun k => spec_HotSpots.l2 k l lim n m arr' spots first queue' at_ (posN r c) 4 r0 c0 cells peak) res → Ev (fun k => spec_HotSpots.l2 k l lim n m arr spots first queue at_ (posN r c) i r0 c0 cells peak) res := by
 have har := h.area
 have hn16 := h.n16
 have hm16 := h.m16
 intro d
 induction d with
 | zero =>
  intro i hi seen arr queue hs ha hq hl
  have : i = 4 := by omega
  subst this
  exact ⟨seen, arr, queue, hs, ha, hq, hl, by omega, rfl, fun res hres => hres⟩
 | succ d ih =>
  intro i hi seen arr queue hs ha hq hl
  have hbt := besT_in i
  have hsl := hs.le
  have e : rd_L2 (posN r c) i = [(r : Int) + (besT i).1, (c : Int) + (besT i).2] := by unfold rd_L2; rw [Int.toNat_natCast, posN_at _ _ _ (by omega)]
  have e0 : rd [(r : Int) + (besT i).1, (c : Int) + (besT i).2] 0 = r + (besT i).1 := rfl
  have e1 : rd [(r : Int) + (besT i).1, (c : Int) + (besT i).2] 1 = c + (besT i).2 := rfl
  have head : ∀ k, spec_HotSpots.l2 (k + 1) l lim n m arr spots first queue at_ (posN r c) i r0 c0 cells peak =
    (if (r : Int) + (besT i).1 < 0 then spec_HotSpots.l2 k l lim n m arr spots first queue at_ (posN r c) ((i + 1 : Nat) : Int) r0 c0 cells peak else if (r : Int) + (besT i).1 ≥ n then spec_HotSpots.l2 k l lim n m arr spots first queue at_ (posN r c) ((i + 1 : Nat) : Int) r0 c0 cells peak else if (c : Int) + (besT i).2 < 0 then spec_HotSpots.l2 k l lim n m arr spots first queue at_ (posN r c) ((i + 1 : Nat) : Int) r0 c0 cells peak else if (c : Int) + (besT i).2 ≥ m then spec_HotSpots.l2 k l lim n m arr spots first queue at_ (posN r c) ((i + 1 : Nat) : Int) r0 c0 cells peak else
     (if 0 ≤ (wrap64 ((wrap64 (((r : Int) + (besT i).1) * m)) + ((c : Int) + (besT i).2))) then (if (wrap64 ((wrap64 (((r : Int) + (besT i).1) * m)) + ((c : Int) + (besT i).2))) < (arr.length : Int) then (if rdOf false arr (wrap64 ((wrap64 (((r : Int) + (besT i).1) * m)) + ((c : Int) + (besT i).2))) = true then (spec_HotSpots.l2 k l lim n m arr spots first queue at_ (posN r c) ((i + 1 : Nat) : Int) r0 c0 cells peak) else (if 0 ≤ ((r : Int) + (besT i).1) then (if ((r : Int) + (besT i).1) < (l.length : Int) then (if 0 ≤ ((c : Int) + (besT i).2) then (if ((c : Int) + (besT i).2) < ((rd_L1 l ((r : Int) + (besT i).1)).length : Int) then (if (hotV l ((r : Int) + (besT i).1) ((c : Int) + (besT i).2)) ≤ lim then (spec_HotSpots.l2 k l lim n m arr spots first queue at_ (posN r c) ((i + 1 : Nat) : Int) r0 c0 cells peak) else (if queue.length < 17592186044416 then (spec_HotSpots.l2 k l lim n m (arr.set ((wrap64 ((wrap64 (((r : Int) + (besT i).1) * m)) + ((c : Int) + (besT i).2))) : Int).toNat true) spots first (queue ++ [wrap64 ((wrap64 (((r : Int) + (besT i).1) * m)) + ((c : Int) + (besT i).2))]) at_ (posN r c) ((i + 1 : Nat) : Int) r0 c0 cells peak) else (none))) else (none)) else (none)) else (none)) else (none))) else (none)) else (none))) := fun k => by
   simp only [spec_HotSpots.l2]
   rw [if_pos (by omega), if_pos (by omega), if_pos (by simp [posN]; omega), e]
   simp only [List.length_cons, List.length_nil]
   rw [if_pos (by decide), if_pos (by decide), e0, e1, w64 (x := (i : Int) + 1) (by omega) (by omega)]
   rfl
  by_cases hb : nearB l ((r : Int) + (besT i).1) ((c : Int) + (besT i).2) = true
  ·
   have hT : nearT l r c (d + 1) i = (⟨(r : Int) + (besT i).1, (c : Int) + (besT i).2⟩ : S123) :: nearT l r c d (i + 1) := by
    rw [nearT, if_pos hb]
    rfl
   obtain ⟨Y, Z, eY, eZ, hY, hZ⟩ := near_nat h hb
   rw [hT]
   rw [eY, eZ] at head ⊢
   clear eY eZ hbt hb hT e e0 e1
   have hil := idx_lt hY hZ
   have hYm : Y * m ≤ 256 := by omega
   have ei : wrap64 ((wrap64 ((Y : Int) * m)) + (Z : Int)) = ((Y * m + Z : Nat) : Int) := by
    rw [← Int.natCast_mul, w64 (x := ((Y * m : Nat) : Int)) (by omega) (by omega), ← Int.natCast_add, w64 (by omega) (by omega)]
   simp only [ei] at head
   have hrow : (rd_L1 l (Y : Int)).length = m := by unfold rd_L1; rw [Int.toNat_natCast]; exact h.rows Y hY
   have hrd : rdOf false arr ((Y * m + Z : Nat) : Int) = decide (((Y : Int), (Z : Int)) ∈ seen) := by
    unfold rdOf
    rw [Int.toNat_natCast]
    exact hs.mem Y Z hY hZ
   have n1 : ¬ ((Y : Int) < 0) := Int.not_lt.mpr (Int.natCast_nonneg Y)
   have n2 : ¬ ((Y : Int) ≥ (n : Int)) := Int.not_le.mpr (Int.ofNat_lt.mpr hY)
   have n3 : ¬ ((Z : Int) < 0) := Int.not_lt.mpr (Int.natCast_nonneg Z)
   have n4 : ¬ ((Z : Int) ≥ (m : Int)) := Int.not_le.mpr (Int.ofNat_lt.mpr hZ)
   have q1 : (0 : Int) ≤ ((Y * m + Z : Nat) : Int) := Int.natCast_nonneg _
   have q2 : ((Y * m + Z : Nat) : Int) < (arr.length : Int) := Int.ofNat_lt.mpr (by rw [hs.len]; exact hil)
   have q3 : (0 : Int) ≤ (Y : Int) := Int.natCast_nonneg Y
   have q4 : (Y : Int) < (l.length : Int) := Int.ofNat_lt.mpr (by rw [h.hn]; exact hY)
   have q5 : (0 : Int) ≤ (Z : Int) := Int.natCast_nonneg Z
   have q6 : (Z : Int) < ((rd_L1 l (Y : Int)).length : Int) := Int.ofNat_lt.mpr (by rw [hrow]; exact hZ)
   have q7 : queue.length < 17592186044416 := by omega
   by_cases hin : ((Y : Int), (Z : Int)) ∈ seen
   ·
    obtain ⟨seen', arr', queue', i1, i2, i3, i4, i5, i6, i7⟩ := ih (i + 1) (by omega) seen arr queue hs ha hq hl
    refine ⟨seen', arr', queue', i1, i2, i3, i4, i5, ?_, fun res hres => ?_⟩
    ·
     rw [hotN, if_neg (fun hh => hh.1 hin)]
     exact i6
    ·
     refine Ev.step (fun k => ?_) (i7 res hres)
     rw [head, if_neg n1, if_neg n2, if_neg n3, if_neg n4, if_pos q1, if_pos q2, hrd, if_pos (decide_eq_true hin)]
   ·
    by_cases hv : hotV l (Y : Int) (Z : Int) ≤ lim
    ·
     obtain ⟨seen', arr', queue', i1, i2, i3, i4, i5, i6, i7⟩ := ih (i + 1) (by omega) seen arr queue hs ha hq hl
     refine ⟨seen', arr', queue', i1, i2, i3, i4, i5, ?_, fun res hres => ?_⟩
     ·
      rw [hotN, if_neg (fun hh => by have := hh.2; simp only at this; omega)]
      exact i6
     ·
      refine Ev.step (fun k => ?_) (i7 res hres)
      rw [head, if_neg n1, if_neg n2, if_neg n3, if_neg n4, if_pos q1, if_pos q2, hrd, if_neg (by rw [decide_eq_false hin]; decide), if_pos q3, if_pos q4, if_pos q5, if_pos q6, if_pos hv]
    ·
     have hs2 := hs.put hY hZ hin
     obtain ⟨seen', arr', queue', i1, i2, i3, i4, i5, i6, i7⟩ := ih (i + 1) (by omega) _ _ (queue ++ [((Y * m + Z : Nat) : Int)]) hs2 (Nat.lt_of_lt_of_le ha (by rw [List.length_append]; exact Nat.le_add_right _ _)) (fun q hqm => (List.mem_append.1 hqm).elim (hq q) (fun e => by obtain rfl := List.mem_singleton.1 e; exact ⟨q1, Int.ofNat_lt.mpr hil⟩)) (by rw [List.length_append, List.length_append]; exact Nat.add_le_add_right hl _)
     rw [List.length_append, List.length_append, List.length_singleton, List.length_singleton] at i5
     refine ⟨seen', arr', queue', i1, i2, i3, i4, add4_ _ _ _ _ i5, ?_, fun res hres => ?_⟩
     ·
      rw [hotN, if_pos ⟨hin, Int.not_le.mp hv⟩]
      rw [List.drop_append_of_le_length (Nat.le_of_lt ha), List.map_append] at i6
      have ec : cellOf m ((Y * m + Z : Nat) : Int) = (⟨(Y : Int), (Z : Int)⟩ : S123) := by
       unfold cellOf
       have g1 : (Y * m + Z) / m = Y := by rw [Nat.mul_comm, Nat.mul_add_div (Nat.lt_of_le_of_lt (Nat.zero_le _) hZ), Nat.div_eq_of_lt hZ, Nat.add_zero]
       have g2 : (Y * m + Z) % m = Z := by rw [Nat.mul_comm, Nat.mul_add_mod, Nat.mod_eq_of_lt hZ]
       rw [← Int.natCast_ediv, ← Int.natCast_emod, g1, g2]
      rw [List.map_cons, List.map_nil, ec] at i6
      exact i6
     ·
      refine Ev.step (fun k => ?_) (i7 res hres)
      rw [head, if_neg n1, if_neg n2, if_neg n3, if_neg n4, if_pos q1, if_pos q2, hrd, if_neg (by rw [decide_eq_false hin]; decide), if_pos q3, if_pos q4, if_pos q5, if_pos q6, if_neg hv, if_pos q7, Int.toNat_natCast]
  ·
   have hT : nearT l r c (d + 1) i = nearT l r c d (i + 1) := by
    rw [nearT, if_neg hb]
    rfl
   obtain ⟨seen', arr', queue', i1, i2, i3, i4, i5, i6, i7⟩ := ih (i + 1) (by omega) seen arr queue hs ha hq hl
   refine ⟨seen', arr', queue', i1, i2, i3, i4, i5, by rw [hT]; exact i6, fun res hres => ?_⟩
   refine Ev.step (fun k => ?_) (i7 res hres)
   rw [head]
   have hno := nearB_no h hb
   by_cases a1 : (r : Int) + (besT i).1 < 0
   ·
    rw [if_pos a1]
   ·
    rw [if_neg a1]
    by_cases a2 : (r : Int) + (besT i).1 ≥ n
    ·
     rw [if_pos a2]
    ·
     rw [if_neg a2]
     by_cases a3 : (c : Int) + (besT i).2 < 0
     ·
      rw [if_pos a3]
     ·
      have a4 : (c : Int) + (besT i).2 ≥ (m : Int) := by omega
      rw [if_neg a3, if_pos a4]
theorem bfs_both (h : Img l n m) (spots : List S116) (hsp : spots.length ≤ 256) (first r0 c0 : Int) : ∀ (d : Nat) (seen : List (Int × Int)) (arr : List Bool) (queue : List Int) (at_ : Nat) (peak : Int), Seen n m seen arr → at_ ≤ queue.length → (∀ q ∈ queue, 0 ≤ q ∧ q < ((n * m : Nat) : Int)) → queue.length ≤ seen.length → -5000 ≤ peak → peak ≤ 20000 → (n * m - seen.length) + (queue.length - at_) ≤ d →
  ∃ seen' arr' cells' peak', Seen n m seen' arr' ∧ 0 ≤ cells' ∧ cells' ≤ 256 ∧ -5000 ≤ peak' ∧ peak' ≤ 20000 ∧ Ev (fun k => hotW l lim k seen ((queue.drop at_).map (cellOf m)) at_ peak) (seen', cells', peak') ∧
   ∀ res, Ev (fun k => spec_HotSpots.l0 k l lim n m arr' (spots ++ [⟨r0, c0, cells', peak'⟩]) (wrap64 (first + 1))) res → Ev (fun k => spec_HotSpots.l1 k l lim n m arr spots first queue at_ r0 c0 at_ peak) res := by
 have har := h.area
 have hm1 := h.m1
 intro d
 induction d with
 | zero =>
  intro seen arr queue at_ peak hs ha hq hl hp0 hp1 hd
  have hsl := hs.le
  have hat : at_ = queue.length := by omega
  refine ⟨seen, arr, at_, peak, hs, by omega, by omega, hp0, hp1, ?_, fun res hres => ?_⟩
  ·
   rw [hat, List.drop_length]
   exact ⟨1, fun k hk => by obtain ⟨j, rfl⟩ : ∃ j, k = j + 1 := ⟨k - 1, by omega⟩; rfl⟩
  ·
   refine Ev.step (fun k => ?_) hres
   simp only [spec_HotSpots.l1]
   rw [if_neg (by omega), if_pos (by omega)]
 | succ d ih =>
  intro seen arr queue at_ peak hs ha hq hl hp0 hp1 hd
  have hsl := hs.le
  by_cases hat : at_ = queue.length
  ·
   refine ⟨seen, arr, at_, peak, hs, by omega, by omega, hp0, hp1, ?_, fun res hres => ?_⟩
   ·
    rw [hat, List.drop_length]
    exact ⟨1, fun k hk => by obtain ⟨j, rfl⟩ : ∃ j, k = j + 1 := ⟨k - 1, by omega⟩; rfl⟩
   ·
    refine Ev.step (fun k => ?_) hres
    simp only [spec_HotSpots.l1]
    rw [if_neg (by omega), if_pos (by omega)]
  ·
   have hlt : at_ < queue.length := by omega
   obtain ⟨Q, hQ⟩ : ∃ Q : Nat, queue.getD at_ 0 = (Q : Int) := ⟨(queue.getD at_ 0).toNat, by have := (hq _ (getD_mem 0 hlt)).1; omega⟩
   have hQlt : Q < n * m := by have := (hq _ (getD_mem 0 hlt)).2; omega
   obtain ⟨R, eR⟩ : ∃ R, R = Q / m := ⟨_, rfl⟩
   obtain ⟨C, eC⟩ : ∃ C, C = Q % m := ⟨_, rfl⟩
   have hR : R < n := by rw [eR]; exact Nat.div_lt_of_lt_mul (by rw [Nat.mul_comm]; exact hQlt)
   have hC : C < m := by rw [eC]; exact Nat.mod_lt _ (by omega)
   have hn16 := h.n16
   have hm16 := h.m16
   have erd : rd queue (at_ : Int) = (Q : Int) := by rw [rd_nat, hQ]
   have ediv : wrap64 (Int.tdiv (Q : Int) (m : Int)) = (R : Int) := by
    rw [Int.tdiv_eq_ediv_of_nonneg (Int.natCast_nonneg _), ← Int.natCast_ediv, ← eR]
    clear eR eC erd hQlt hQ
    exact w64 (by omega) (by omega)
   have emod : Int.tmod (Q : Int) (m : Int) = (C : Int) := by
    rw [Int.tmod_eq_emod_of_nonneg (Int.natCast_nonneg _), ← Int.natCast_emod, ← eC]
   have ecell : cellOf m (Q : Int) = (⟨(R : Int), (C : Int)⟩ : S123) := by
    unfold cellOf
    rw [eR, eC, Int.natCast_ediv, Int.natCast_emod]
   clear eR eC hQlt
   have hval := h.val R C hR hC
   rw [← hotV_nat] at hval
   obtain ⟨seen', arr', queue', i1, i2, i3, i4, i5, i6, i7⟩ := near_both (lim := lim) h spots first r0 c0 ((at_ + 1 : Nat) : Int) (mx peak (hotV l (R : Int) (C : Int))) R C hR hC at_ 4 0 rfl seen arr queue hs hlt hq hl
   have hsl' := i1.le
   have hmx : -5000 ≤ mx peak (hotV l (R : Int) (C : Int)) ∧ mx peak (hotV l (R : Int) (C : Int)) ≤ 20000 := by rw [mx_eq]; split <;> omega
   obtain ⟨seen2, arr2, cells2, peak2, j1, j2, j3, j4, j5, j6, j7⟩ := ih seen' arr' queue' (at_ + 1) _ i1 i2 i3 i4 hmx.1 hmx.2 (meas_ _ _ _ _ _ _ _ hsl hsl' i5 hlt i2 hd)
   have hat256 : at_ < 256 := Nat.lt_of_lt_of_le hlt (Nat.le_trans hl (Nat.le_trans hsl har))
   have hs256 : seen.length ≤ 256 := Nat.le_trans hsl har
   have hq256 : queue.length ≤ 256 := Nat.le_trans hl hs256
   clear hd hsl hsl' i5 i4 har hat hl hmx ih
   refine ⟨seen2, arr2, cells2, peak2, j1, j2, j3, j4, j5, ?_, fun res hres => ?_⟩
   ·
    have edrop : (queue.drop at_).map (cellOf m) = cellOf m (Q : Int) :: (queue.drop (at_ + 1)).map (cellOf m) := by
     rw [List.drop_eq_getElem_cons hlt, List.map_cons, ← hQ, getD_lt 0 hlt]
    refine Ev.step (fun k => ?_) j6
    rw [edrop, hotW, if_pos ⟨Nat.le_trans hs256 (by decide), by rw [← edrop, List.length_map, List.length_drop]; exact Nat.le_trans (Nat.sub_le _ _) (Nat.le_trans hq256 (by decide)), Int.natCast_nonneg _, by omega⟩, ← edrop, ecell]
    simp only
    rw [nearT_all, i6]
    simp only
    rw [← List.map_drop, List.drop_drop]
    rfl
   ·
    refine Ev.step (fun k => ?_) (i7 res (Ev.step (fun k => ?_) (j7 res hres)))
    ·
     simp only [spec_HotSpots.l1]
     have hrow : (rd_L1 l (R : Int)).length = m := by unfold rd_L1; rw [Int.toNat_natCast]; exact h.rows _ hR
     rw [if_pos (Int.ofNat_lt.mpr hlt), if_pos (Int.natCast_nonneg _), if_neg (by omega), erd, ediv, emod, if_pos (Int.natCast_nonneg _), if_pos (by rw [h.hn]; exact Int.ofNat_lt.mpr hR), if_pos (Int.natCast_nonneg _), if_pos (by rw [hrow]; exact Int.ofNat_lt.mpr hC), spec_l00Max.f]
     rw [show rd (rd_L1 l (R : Int)) (C : Int) = hotV l (R : Int) (C : Int) from rfl]
     rw [wsub_ hR (Nat.le_trans hn16 (by decide)), wadd_ hR (Nat.le_trans hn16 (by decide)), wsub_ hC (Nat.le_trans hm16 (by decide)), wadd_ hC (Nat.le_trans hm16 (by decide)), wadd_ hat256 (Nat.le_refl _), mx_eq]
     split <;> rfl
    ·
     simp only [spec_HotSpots.l2]
     rw [if_neg (by decide), wadd_ hat256 (Nat.le_refl _)]
     rfl
theorem cols_both (h : Img l n m) (r : Nat) (hr : r < n) : ∀ (d c : Nat), c + d = m → ∀ (seen : List (Int × Int)) (arr : List Bool) (spots : List S116), Seen n m seen arr → spots.length ≤ r * m + c → (∀ x ∈ spots, okSpot1 x) →
  ∃ seen' arr' spots', Seen n m seen' arr' ∧ spots'.length ≤ (r + 1) * m ∧ (∀ x ∈ spots', okSpot1 x) ∧ Ev (fun k => hotC k l lim r d c seen spots) (seen', spots') ∧
   ∀ res, Ev (fun k => spec_HotSpots.l0 k l lim n m arr' spots' (((r + 1) * m : Nat) : Int)) res → Ev (fun k => spec_HotSpots.l0 k l lim n m arr spots ((r * m + c : Nat) : Int)) res := by
 have har := h.area
 have hm1 := h.m1
 intro d
 induction d with
 | zero =>
  intro c hc seen arr spots hs hl hok
  have e : r * m + c = (r + 1) * m := by rw [Nat.succ_mul]; omega
  refine ⟨seen, arr, spots, hs, by omega, hok, ⟨0, fun k _ => rfl⟩, fun res hres => ?_⟩
  rw [e]
  exact hres
 | succ d ih =>
  intro c hc seen arr spots hs hl hok
  have hcm : c < m := suc1_ hc
  have hm0 : ¬ ((m : Int) = 0) := m0_ hm1
  have hsp : spots.length ≤ 256 := Nat.le_trans hl (Nat.le_trans (Nat.le_of_lt (idx_lt hr hcm)) har)
  have hsl := hs.le
  have hil := idx_lt hr hcm
  have ew : wrap64 ((n : Int) * (m : Int)) = ((n * m : Nat) : Int) := by rw [← Int.natCast_mul]; exact w256_ har
  have eat : (r * m + c) / m = r := by rw [Nat.mul_comm, Nat.mul_add_div (Nat.lt_of_lt_of_le Nat.zero_lt_one hm1), Nat.div_eq_of_lt hcm, Nat.add_zero]
  have emt : (r * m + c) % m = c := by rw [Nat.mul_comm, Nat.mul_add_mod, Nat.mod_eq_of_lt hcm]
  have ediv : wrap64 (Int.tdiv ((r * m + c : Nat) : Int) (m : Int)) = (r : Int) := by
   rw [Int.tdiv_eq_ediv_of_nonneg (Int.natCast_nonneg _), ← Int.natCast_ediv, eat]
   exact w256_ (Nat.le_trans (Nat.le_of_lt hr) (Nat.le_trans h.n16 (by decide)))
  have emod : Int.tmod ((r * m + c : Nat) : Int) (m : Int) = (c : Int) := by
   rw [Int.tmod_eq_emod_of_nonneg (Int.natCast_nonneg _), ← Int.natCast_emod, emt]
  have hrow : (rd_L1 l (r : Int)).length = m := by unfold rd_L1; rw [Int.toNat_natCast]; exact h.rows r hr
  have hrd : rdOf false arr ((r * m + c : Nat) : Int) = decide (((r : Int), (c : Int)) ∈ seen) := by
   unfold rdOf
   rw [Int.toNat_natCast]
   exact hs.mem r c hr hcm
  have en : wrap64 (((r * m + c : Nat) : Int) + 1) = ((r * m + (c + 1) : Nat) : Int) := by rw [wadd_ hil har]; exact (Int.natCast_succ _).symm
  have hval := h.val r c hr hcm
  rw [← hotV_nat] at hval
  have ev : rd (rd_L1 l (r : Int)) (c : Int) = hotV l (r : Int) (c : Int) := rfl
  by_cases hskip : ((r : Int), (c : Int)) ∈ seen ∨ hotV l (r : Int) (c : Int) ≤ lim
  ·
   obtain ⟨seen', arr', spots', i1, i2, i3, i4, i5⟩ := ih (c + 1) (suc2_ hc) seen arr spots hs (Nat.le_succ_of_le hl) hok
   refine ⟨seen', arr', spots', i1, i2, i3, ?_, fun res hres => ?_⟩
   ·
    refine Ev.congr (fun k => ?_) i4
    rw [hotC, if_pos ⟨Nat.le_trans hsl (Nat.le_trans har (by decide)), Nat.le_trans hsp (by decide)⟩, if_pos hskip]
   ·
    have i5 := i5 res hres
    rw [← en] at i5
    have j : Ev (fun k => spec_HotSpots.j1 k l lim n m arr spots ((r * m + c : Nat) : Int) true) res := Ev.step (fun k => by simp only [spec_HotSpots.j1]; rw [if_pos trivial]) i5
    refine Ev.step (fun k => ?_) j
    simp only [spec_HotSpots.l0]
    rw [ew, if_pos (Int.ofNat_lt.mpr hil), if_pos (Int.natCast_nonneg _), if_pos (by rw [hs.len]; exact Int.ofNat_lt.mpr hil), hrd]
    by_cases hin : ((r : Int), (c : Int)) ∈ seen
    ·
     rw [if_pos (decide_eq_true hin)]
    ·
     rw [if_neg (by rw [decide_eq_false hin]; decide), if_neg hm0, ediv, emod, if_pos (Int.natCast_nonneg _), if_pos (by rw [h.hn]; exact Int.ofNat_lt.mpr hr), if_pos (Int.natCast_nonneg _), if_pos (by rw [hrow]; exact Int.ofNat_lt.mpr hcm), ev, decide_eq_true (hskip.resolve_left hin)]
  ·
   have hin : ((r : Int), (c : Int)) ∉ seen := fun hh => hskip (.inl hh)
   have hv : ¬ hotV l (r : Int) (c : Int) ≤ lim := fun hh => hskip (.inr hh)
   have hs2 := hs.put hr hcm hin
   have hs2l := hs2.le
   obtain ⟨seen2, arr2, cells2, peak2, b1, b2, b3, b4, b5, b6, b7⟩ := bfs_both (lim := lim) h spots hsp ((r * m + c : Nat) : Int) (r : Int) (c : Int) _ _ _ [((r * m + c : Nat) : Int)] 0 (hotV l (r : Int) (c : Int)) hs2 (Nat.zero_le _) (fun q hq => by obtain rfl := List.mem_singleton.1 hq; exact ⟨Int.natCast_nonneg _, Int.ofNat_lt.mpr hil⟩) (by rw [List.length_append]; exact Nat.le_add_left _ _) hval.1 hval.2 (Nat.le_refl _)
   obtain ⟨seen', arr', spots', i1, i2, i3, i4, i5⟩ := ih (c + 1) (suc2_ hc) seen2 arr2 (spots ++ [⟨(r : Int), (c : Int), cells2, peak2⟩]) b1 (by rw [List.length_append, List.length_singleton]; exact Nat.succ_le_succ hl) (fun x hx => (List.mem_append.1 hx).elim (hok x) (fun e => by
    obtain rfl := List.mem_singleton.1 e
    exact okS_ (Nat.le_trans (Nat.le_of_lt hr) h.n16) (Nat.le_trans (Nat.le_of_lt hcm) h.m16) b2 b3 b4 b5))
   refine ⟨seen', arr', spots', i1, i2, i3, ?_, fun res hres => ?_⟩
   ·
    refine Ev.congr (f := fun k => (hotW l lim k (seen ++ [((r : Int), (c : Int))]) [⟨(r : Int), (c : Int)⟩] 0 (hotV l (r : Int) (c : Int))).bind fun q => hotC k l lim r d (c + 1) q.1 (spots ++ [⟨(r : Int), (c : Int), q.2.1, q.2.2⟩])) (fun k => ?_) ?_
    ·
     rw [hotC, if_pos ⟨Nat.le_trans hsl (Nat.le_trans har (by decide)), Nat.le_trans hsp (by decide)⟩, if_neg hskip]
    ·
     have ecell : cellOf m ((r * m + c : Nat) : Int) = (⟨(r : Int), (c : Int)⟩ : S123) := by
      unfold cellOf
      rw [← Int.natCast_ediv, ← Int.natCast_emod, eat, emt]
     rw [List.drop_zero, List.map_cons, List.map_nil, ecell] at b6
     exact Ev.bind b6 i4
   ·
    have i5 := i5 res hres
    rw [← en] at i5
    have b7 := b7 res i5
    have j : Ev (fun k => spec_HotSpots.j1 k l lim n m arr spots ((r * m + c : Nat) : Int) false) res := by
     refine Ev.step (fun k => ?_) b7
     simp only [spec_HotSpots.j1]
     rw [if_neg (by decide), if_neg hm0, ediv, emod, if_pos (Int.natCast_nonneg _), if_pos (by rw [h.hn]; exact Int.ofNat_lt.mpr hr), if_pos (Int.natCast_nonneg _), if_pos (by rw [hrow]; exact Int.ofNat_lt.mpr hcm), if_pos (Int.natCast_nonneg _), if_pos (by rw [hs.len]; exact Int.ofNat_lt.mpr hil), Int.toNat_natCast, ev]
     rfl
    refine Ev.step (fun k => ?_) j
    simp only [spec_HotSpots.l0]
    rw [ew, if_pos (Int.ofNat_lt.mpr hil), if_pos (Int.natCast_nonneg _), if_pos (by rw [hs.len]; exact Int.ofNat_lt.mpr hil), hrd, if_neg (by rw [decide_eq_false hin]; decide), if_neg hm0, ediv, emod, if_pos (Int.natCast_nonneg _), if_pos (by rw [h.hn]; exact Int.ofNat_lt.mpr hr), if_pos (Int.natCast_nonneg _), if_pos (by rw [hrow]; exact Int.ofNat_lt.mpr hcm), ev, decide_eq_false hv]
theorem rows_both (h : Img l n m) : ∀ (d r : Nat), r + d = n → ∀ (seen : List (Int × Int)) (arr : List Bool) (spots : List S116), Seen n m seen arr → spots.length ≤ r * m → (∀ x ∈ spots, okSpot1 x) →
  ∃ seen' arr' spots', Seen n m seen' arr' ∧ spots'.length ≤ n * m ∧ (∀ x ∈ spots', okSpot1 x) ∧ Ev (fun k => hotR k l lim d r seen spots) (seen', spots') ∧
   ∀ res, Ev (fun k => spec_HotSpots.l0 k l lim n m arr' spots' ((n * m : Nat) : Int)) res → Ev (fun k => spec_HotSpots.l0 k l lim n m arr spots ((r * m : Nat) : Int)) res := by
 intro d
 induction d with
 | zero =>
  intro r hr seen arr spots hs hl hok
  have : r = n := by omega
  subst this
  exact ⟨seen, arr, spots, hs, hl, hok, ⟨0, fun k _ => rfl⟩, fun res hres => hres⟩
 | succ d ih =>
  intro r hr seen arr spots hs hl hok
  obtain ⟨seen1, arr1, spots1, c1, c2, c3, c4, c5⟩ := cols_both (lim := lim) h r (by omega) m 0 (by omega) seen arr spots hs (by omega) hok
  obtain ⟨seen', arr', spots', i1, i2, i3, i4, i5⟩ := ih (r + 1) (by omega) seen1 arr1 spots1 c1 c2 c3
  refine ⟨seen', arr', spots', i1, i2, i3, ?_, fun res hres => c5 res (i5 res hres)⟩
  refine Ev.congr (f := fun k => (hotC k l lim r m 0 seen spots).bind fun q => hotR k l lim d (r + 1) q.1 q.2) (fun k => ?_) (Ev.bind c4 i4)
  rw [hotR, h.rows r (by omega)]
end
theorem imgOk_Img {l : List (List Int)} (h : imgOk l = true) : Img l l.length (l.getD 0 []).length := by
 obtain ⟨h1, h2, hf⟩ := imgOk_facts h
 have f0 := hf 0 (by omega)
 exact ⟨h1, h2, f0.2.1, f0.2.2.1, rfl, rfl, fun i hi => (hf i hi).1, fun i j hi hj => (hf i hi).2.2.2 j (by rw [(hf i hi).1]; exact hj)⟩
theorem imgOk_rect {l : List (List Int)} (h : imgOk l = true) : hotRect l = true := by
 obtain ⟨h1, h2, hf⟩ := imgOk_facts h
 have f0 := hf 0 (by omega)
 have hr := imgOk_rows h
 unfold hotRect
 simp only [Bool.and_eq_true, decide_eq_true_eq, List.all_eq_true]
 exact ⟨⟨⟨by omega, by omega⟩, by omega⟩, fun x hx => (hr x hx).1⟩
theorem hot_both (l : List (List Int)) (lim : Int) (hlen : ∀ x ∈ l, x.length ≤ 1048576) : ∃ r1 r2, Ev (fun k => spec_HotSpots.f k l lim) (r1, r2) ∧ Ev (fun k => impl_HotSpots.f k l lim) (r1, r2) ∧ r1.length ≤ 256 ∧ ∀ x ∈ r1, okSpot1 x := by
 unfold spec_HotSpots.f impl_HotSpots.f
 cases ho : imgOk l with
 | false => exact ⟨[], 1, Ev.bind (specOk_ev l) (by rw [ho]; exact Ev.now _), Ev.bind (implOk_ev l hlen) (by rw [ho]; exact Ev.now _), by simp, by simp⟩
 | true =>
  cases hi : inB (-5000) 20000 lim with
  | false => exact ⟨[], 2, Ev.bind (specOk_ev l) (by rw [ho]; simp only [if_true, specCell_eq, hi, Option.bind_some]; exact Ev.now _), Ev.bind (implOk_ev l hlen) (by rw [ho]; exact Ev.now _), by simp, by simp⟩
  | true =>
   have h := imgOk_Img ho
   have har := h.area
   have hrect := imgOk_rect ho
   generalize hn : l.length = n at *
   generalize hm : (l.getD 0 []).length = m at *
   have hs0 : Seen n m [] (List.replicate (n * m) false) := ⟨List.length_replicate .., fun y z hy hz => by rw [List.getD_eq_getElem?_getD, List.getElem?_replicate]; split <;> simp, (List.countP_eq_zero.2 (fun b hb => by rw [List.eq_of_mem_replicate hb]; decide)).symm⟩
   obtain ⟨seen', arr', spots', i1, i2, i3, i4, i5⟩ := rows_both (lim := lim) h n 0 (by omega) [] _ [] hs0 (by simp) (by simp)
   have ew : wrap64 ((n : Int) * (m : Int)) = ((n * m : Nat) : Int) := by rw [← Int.natCast_mul, w64 (by omega) (by omega)]
   have erow : ((rd_L1 l 0).length : Int) = (m : Int) := by rw [← hm]; rfl
   have fin : ∀ res, Ev (fun k => spec_HotSpots.l0 k l lim n m arr' spots' ((n * m : Nat) : Int)) res → Ev (fun k => (spec_l28Ok.f k l).bind fun t112 => (if t112 = true then ((spec_l28Cell.f lim).bind fun t113 => (if t113 = true then (if 0 < (n : Int) then (if 0 ≤ (wrap64 ((n : Int) * ((rd_L1 l 0).length : Int))) then (if (wrap64 ((n : Int) * ((rd_L1 l 0).length : Int)) : Int).toNat ≤ 281474976710656 then (spec_HotSpots.l0 k l lim (n : Int) ((rd_L1 l 0).length : Int) (List.replicate (wrap64 ((n : Int) * ((rd_L1 l 0).length : Int)) : Int).toNat false) (([] : List (S116))) 0) else (none)) else (none)) else (none)) else (some (([] : List (S116)), 2)))) else (some (([] : List (S116)), 1)))) res := fun res hres => by
    refine Ev.bind (specOk_ev l) ?_
    rw [ho]
    simp only [if_true, specCell_eq, hi, Option.bind_some, erow, ew]
    have h1 := h.n1
    simp only [show (0 : Int) < (n : Int) by omega, show (0 : Int) ≤ ((n * m : Nat) : Int) by omega, if_true, Int.toNat_natCast, show n * m ≤ 281474976710656 by omega]
    have i5 := i5 res hres
    rw [Nat.zero_mul] at i5
    exact i5
   have himpl : ∀ res, (if spots'.length > 64 then some (([] : List S116), (5 : Int)) else some (spots', 0)) = some res → Ev (fun k => (impl_ValidImage.f k l).bind fun t => if t = true then (if true = true then (if hotRect l = true then (hotR k l lim n 0 [] []).bind fun q => if q.2.length > 64 then some ([], 5) else some (q.2, 0) else none) else some ([], 2)) else some ([], 1)) res := fun res hres => by
    refine Ev.bind (implOk_ev l hlen) ?_
    rw [ho]
    simp only [if_true, hrect]
    refine Ev.bind i4 ?_
    simp only
    rw [hres]
    exact Ev.now _
   by_cases h64 : spots'.length > 64
   ·
    refine ⟨[], 5, fin _ (Ev.step (f := fun _ => some ([], 5)) (fun k => ?_) (Ev.now _)), himpl _ (by rw [if_pos h64]), by simp, by simp⟩
    simp only [spec_HotSpots.l0]
    rw [ew, if_neg (by omega), if_pos (by omega)]
   ·
    refine ⟨spots', 0, fin _ (Ev.step (f := fun _ => some (spots', 0)) (fun k => ?_) (Ev.now _)), himpl _ (by rw [if_neg h64]), by omega, i3⟩
    simp only [spec_HotSpots.l0]
    rw [ew, if_neg (by omega), if_neg (by omega)]
theorem core : ∀ (l0 : List (List Int)) (a1 : Int) (w0 : l0.length ≤ maxLen ∧ ∀ x0 ∈ l0, x0.length ≤ maxLen ∧ ∀ x1 ∈ x0, (Lit.int .i64 x1).wf = true) (o0 : okInt64SS l0) (w1 : (Lit.int .i64 a1).wf = true), ∃ (r1 : List (S116)) (r2 : Int), Ev (fun k => spec_HotSpots.f k l0 a1) (r1, r2) ∧ Ev (fun k => impl_HotSpots.f k l0 a1) (r1, r2) ∧ okSpotS r1 := by
 intro l0 a1 w0 o0 w1
 have hlen : ∀ x ∈ l0, x.length ≤ 1048576 := fun x hx => o0.2 x hx
 obtain ⟨r1, r2, h1, h2, h3⟩ := hot_both l0 a1 hlen
 refine ⟨r1, r2, h1, h2, ?_, ?_⟩
 ·
  have := h3.1
  omega
 ·
  exact fun x hx => h3.2 x hx
end Go.Proofs.Ytobhjkpegcfdfaa.Pure
