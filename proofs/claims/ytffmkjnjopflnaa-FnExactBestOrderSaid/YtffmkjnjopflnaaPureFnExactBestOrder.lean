/- The program's BestOrder returns what the reference's returns, for all arguments. No condition beyond the statement's own. -/
import Derived.Test.YtffmkjnjopflnaaPFnExactBestOrderx0
import Derived.Test.YtffmkjnjopflnaaPFnExactBestOrderx1
import Derived.Test.YtffmkjnjopflnaaPFnExactBestOrderx2
import Derived.Test.YtffmkjnjopflnaaPFnExactBestOrderx3
import Derived.Test.YtffmkjnjopflnaaPFnExactBestOrderx4
import Derived.Test.YtffmkjnjopflnaaPFnExactBestOrderx5
import Derived.Test.YtffmkjnjopflnaaPFnExactBestOrderx6
import Derived.Test.YtffmkjnjopflnaaPFnExactBestOrderx7
import Derived.Test.YtffmkjnjopflnaaPFnExactBestOrderx8
import Derived.Test.YtffmkjnjopflnaaPFnExactBestOrderx9
namespace Go.Proofs.Ytffmkjnjopflnaa.Pure
open Go.RowKit Go.Proofs.Ytffmkjnjopflnaa.PFnExactBestOrder Go.Proofs.YtffmkjnjopflnaaW.PrintWords Go.Proofs.YtffmkjnjopflnaaW.PrintLast Go.Proofs.YtffmkjnjopflnaaW.PrintMore
set_option linter.unusedVariables false
set_option linter.unusedSimpArgs false
def okRepair1 (x : S43) : Prop := x.f0.size ≤ 1048576 ∧ (-9223372036854775808 ≤ x.f1 ∧ x.f1 ≤ 9223372036854775807) ∧ (-9223372036854775808 ≤ x.f2 ∧ x.f2 ≤ 9223372036854775807) ∧ (-9223372036854775808 ≤ x.f3 ∧ x.f3 ≤ 9223372036854775807)
theorem w64 {x : Int} (h0 : -9223372036854775808 ≤ x) (h1 : x ≤ 9223372036854775807) : wrap64 x = x := by unfold wrap64; omega
theorem rd_nat (l : List Int) (i : Nat) : rd l (i : Int) = l.getD i 0 := by unfold rd; rw [Int.toNat_natCast]
theorem getD_mem {α : Type} {l : List α} {i : Nat} (d : α) (h : i < l.length) : l.getD i d ∈ l := by
 rw [List.getD_eq_getElem?_getD, List.getElem?_eq_getElem h]; exact List.getElem_mem _
theorem getD_lt {α : Type} {l : List α} {i : Nat} (d : α) (h : i < l.length) : l.getD i d = l[i] := by
 rw [List.getD_eq_getElem?_getD, List.getElem?_eq_getElem h]; rfl
theorem take_succ_getD {α : Type} (l : List α) (d : α) {i : Nat} (h : i < l.length) : l.take (i + 1) = l.take i ++ [l.getD i d] := by
 rw [List.take_succ_eq_append_getElem h, getD_lt d h]
theorem ev_eq {α : Type} (L : Nat → List α → List α → Int → Option Bool) (xs : List α) 
  (step : ∀ i, i < xs.length → Ev (fun k => L k xs xs ((i + 1 : Nat) : Int)) true → Ev (fun k => L k xs xs (i : Int)) true)
  (fin : Ev (fun k => L k xs xs (xs.length : Int)) true) : Ev (fun k => L k xs xs 0) true := by
 have key : ∀ (m i : Nat), i + m = xs.length → Ev (fun k => L k xs xs (i : Int)) true := by
  intro m
  induction m with
  | zero =>
   intro i hi
   have : i = xs.length := by omega
   subst this
   exact fin
  | succ m ih => intro i hi; exact step i (by omega) (ih (i + 1) (by omega))
 exact key xs.length 0 (by omega)
theorem ev_all {α ρ : Type} (L : Nat → Int → Option ρ) (xs : List α) (d : α) (p : α → Bool) (b c : ρ)
  (step : ∀ i, i < xs.length → p (xs.getD i d) = true → ∀ r, Ev (fun k => L k ((i + 1 : Nat) : Int)) r → Ev (fun k => L k (i : Int)) r)
  (bad : ∀ i, i < xs.length → p (xs.getD i d) = false → Ev (fun k => L k (i : Int)) b)
  (fin : Ev (fun k => L k (xs.length : Int)) c) : Ev (fun k => L k 0) (if xs.all p = true then c else b) := by
 have key : ∀ (m i : Nat), i + m = xs.length → Ev (fun k => L k (i : Int)) (if (xs.drop i).all p = true then c else b) := by
  intro m
  induction m with
  | zero =>
   intro i hi
   have : i = xs.length := by omega
   subst this
   rw [List.drop_length]
   exact fin
  | succ m ih =>
   intro i hi
   have hlt : i < xs.length := by omega
   rw [List.drop_eq_getElem_cons hlt, List.all_cons, ← getD_lt d hlt]
   cases hp : p (xs.getD i d) with
   | true => rw [Bool.true_and]; exact step i hlt hp _ (ih (i + 1) (by omega))
   | false => rw [Bool.false_and, if_neg (by decide)]; exact bad i hlt hp
 exact key xs.length 0 (by omega)
theorem ev_sz {α : Type} (L : Nat → Int → Int → Option Int) (xs : List α) (d : α) (B : α → Prop)
  (step : ∀ i a, i < xs.length → 0 ≤ a → a ≤ 1048576 → Ev (fun k => L k a (i : Int)) (-1) ∨ (∃ a', 0 ≤ a' ∧ a' ≤ a ∧ B (xs.getD i d) ∧ ∀ r, Ev (fun k => L k a' ((i + 1 : Nat) : Int)) r → Ev (fun k => L k a (i : Int)) r))
  (fin : ∀ a, Ev (fun k => L k a (xs.length : Int)) a) : ∀ a, 0 ≤ a → a ≤ 1048576 → ∃ r, Ev (fun k => L k a 0) r ∧ (r < 0 ∨ (0 ≤ r ∧ r ≤ a ∧ ∀ x ∈ xs, B x)) := by
 have key : ∀ (m i : Nat) (a : Int), i + m = xs.length → 0 ≤ a → a ≤ 1048576 → ∃ r, Ev (fun k => L k a (i : Int)) r ∧ (r < 0 ∨ (0 ≤ r ∧ r ≤ a ∧ ∀ j, i ≤ j → j < xs.length → B (xs.getD j d))) := by
  intro m
  induction m with
  | zero =>
   intro i a hi h0 h1
   have : i = xs.length := by omega
   subst this
   exact ⟨a, fin a, .inr ⟨h0, Int.le_refl _, fun j h2 h3 => by omega⟩⟩
  | succ m ih =>
   intro i a hi h0 h1
   rcases step i a (by omega) h0 h1 with h | ⟨a', h2, h3, hB, h⟩
   ·
    exact ⟨-1, h, .inl (by decide)⟩
   ·
    obtain ⟨r, hr, hq⟩ := ih (i + 1) a' (by omega) h2 (by omega)
    refine ⟨r, h r hr, ?_⟩
    rcases hq with hq | ⟨q0, q1, q2⟩
    ·
     exact .inl hq
    ·
     refine .inr ⟨q0, by omega, fun j h4 h5 => ?_⟩
     by_cases e : j = i
     ·
      subst e; exact hB
     ·
      exact q2 j (by omega) h5
 intro a h0 h1
 obtain ⟨r, hr, hq⟩ := key xs.length 0 a (by omega) h0 h1
 refine ⟨r, hr, hq.imp_right fun ⟨q0, q1, q2⟩ => ⟨q0, q1, fun x hx => ?_⟩⟩
 obtain ⟨j, hj, rfl⟩ := List.mem_iff_getElem.1 hx
 rw [← getD_lt d hj]
 exact q2 j (Nat.zero_le _) hj
theorem szRepair_eq (x : S132) (a : Int) (w0 : x.f0.size ≤ maxLen) (h0 : 0 ≤ a) (h1 : a ≤ 1048576) : ∃ r, laws_szRepair.f (x.f0) (x.f1) (x.f2) (x.f3) a = some r ∧ (r < 0 ∨ (0 ≤ r ∧ r ≤ a ∧ x.f0.size ≤ 1048576)) := by
 unfold maxLen at w0
 unfold laws_szRepair.f wrap64
 repeat' split
 all_goals exact ⟨_, rfl, by omega⟩
def okRepairS (l : List S43) : Prop := l.length ≤ 1048576 ∧ ∀ x ∈ l, okRepair1 x
theorem Ev.succ {α : Type} {g : Nat → Option α} {r : α} (h : Ev (fun k => g (k + 1)) r) : Ev g r := Ev.step (fun _ => rfl) h
theorem Ev.now' {α : Type} {a b : α} (h : a = b) : Ev (fun _ => some a) b := h ▸ Ev.now a
theorem lit_i64 {x : Int} (h : (Lit.int .i64 x).wf = true) : -9223372036854775808 ≤ x ∧ x ≤ 9223372036854775807 := by
 have h2 : (decide (IntKind.i64.min ≤ x) && decide (x ≤ IntKind.i64.max)) = true := h
 simp only [Bool.and_eq_true, decide_eq_true_eq] at h2
 exact h2
def cvRepair (x : S132) : S43 := ⟨x.f0, x.f1, x.f2, x.f3⟩
def cvRepairS (l : List S132) : List S43 := l.map cvRepair
theorem szRepairS_evo (l : List S132) (a : Int) (hw : l.length ≤ maxLen ∧ ∀ x0 ∈ l, x0.f0.size ≤ maxLen ∧ (Lit.int .i64 x0.f1).wf = true ∧ (Lit.int .i64 x0.f2).wf = true ∧ (Lit.int .i64 x0.f3).wf = true) (h0 : 0 ≤ a) (h1 : a ≤ 1048576) :
  ∃ r, Ev (fun k => laws_szRepairS.f k l a) r ∧ (r < 0 ∨ (0 ≤ r ∧ r ≤ a ∧ okRepairS (cvRepairS l))) := by
 obtain ⟨hl, hw⟩ := hw
 unfold maxLen at hl
 unfold laws_szRepairS.f
 rw [w64 (by omega) (by omega)]
 by_cases h : a - l.length < 0
 ·
  simp only [h, if_true]
  exact ⟨-1, Ev.now _, .inl (by decide)⟩
 ·
  simp only [h, if_false]
  obtain ⟨r, hr, hq⟩ := ev_sz (fun k a i => laws_szRepairS.l0 k l a i) l z132 (fun x => x.f0.size ≤ 1048576) (fun i a hi h0 h1 => by
   have hx := hw _ (getD_mem z132 hi)
   obtain ⟨r, hr, hq⟩ := szRepair_eq (l.getD i z132) a (hx.1) h0 h1
   have e : ∀ k, laws_szRepairS.l0 (k + 1) l a i = if r < 0 then some (-1) else laws_szRepairS.l0 k l r ((i + 1 : Nat) : Int) := fun k => by
    simp only [laws_szRepairS.l0]
    rw [if_pos (by omega), if_pos (by omega)]
    unfold rd_T132
    rw [Int.toNat_natCast, hr]
    simp only [Option.bind_some]
    rw [w64 (by omega) (by omega)]
    rfl
   rcases hq with hq | ⟨q0, q1, q2⟩
   ·
    exact .inl (Ev.step (f := fun _ => some (-1)) (fun k => by rw [e, if_pos hq]) (Ev.now _))
   ·
    exact .inr ⟨r, q0, q1, q2, fun s hs => Ev.step (fun k => by rw [e, if_neg (by omega)]) hs⟩) (fun a => Ev.step (f := fun _ => some a) (fun k => by simp only [laws_szRepairS.l0]; rw [if_neg (by omega)]) (Ev.now _)) (a - l.length) (by omega) (by omega)
  refine ⟨r, hr, hq.imp_right fun ⟨q0, q1, q2⟩ => ⟨q0, by omega, by simp only [cvRepairS, List.length_map]; omega, fun x hx => ?_⟩⟩
  obtain ⟨y, hy, rfl⟩ := List.mem_map.1 hx
  have hs := q2 y hy
  have hw := hw y hy
  exact ⟨hs, lit_i64 (hw.2.1), lit_i64 (hw.2.2.1), lit_i64 (hw.2.2.2)⟩
theorem toRepair_eq (x : S132) : laws_toRepair.f (x.f0) (x.f1) (x.f2) (x.f3) = some (x.f0, x.f1, x.f2, x.f3) := by
 unfold laws_toRepair.f
 rfl
theorem ev_fill {β ρ : Type} (L : Nat → List β → Int → Option ρ) (base : List β) (d : β) (f : Nat → β) (r : ρ)
  (step : ∀ i acc, i < base.length → acc.length = base.length → acc.getD i d = base.getD i d → Ev (fun k => L k (acc.set i (f i)) ((i + 1 : Nat) : Int)) r → Ev (fun k => L k acc (i : Int)) r)
  (fin : Ev (fun k => L k ((List.range base.length).map f) (base.length : Int)) r) : Ev (fun k => L k base 0) r := by
 have key : ∀ (m i : Nat), i + m = base.length → Ev (fun k => L k ((List.range i).map f ++ base.drop i) (i : Int)) r := by
  intro m
  induction m with
  | zero =>
   intro i hi
   have : i = base.length := by omega
   subst this
   rw [List.drop_length, List.append_nil]
   exact fin
  | succ m ih =>
   intro i hi
   have hlt : i < base.length := by omega
   refine step i _ hlt (by simp; omega) ?_ ?_
   ·
    rw [List.getD_eq_getElem?_getD, List.getD_eq_getElem?_getD, List.getElem?_append_right (by simp)]
    simp
   ·
    have := ih (i + 1) (by omega)
    rw [List.range_succ, List.map_append, List.append_assoc] at this
    have e : ((List.range i).map f ++ base.drop i).set i (f i) = (List.range i).map f ++ ([i].map f ++ base.drop (i + 1)) := by
     rw [List.set_append_right _ _ (by simp), List.drop_eq_getElem_cons hlt, List.length_map, List.length_range, Nat.sub_self, List.set_cons_zero]
     rfl
    rw [e]
    exact this
 exact key base.length 0 (by omega)
theorem getD_map_range {β : Type} (n : Nat) (f : Nat → β) (d : β) {i : Nat} (h : i < n) : ((List.range n).map f).getD i d = f i := by
 rw [List.getD_eq_getElem?_getD, List.getElem?_map, List.getElem?_range h]; rfl
theorem ev_cmap {α β : Type} (L : Nat → List β → Int → Option (List β)) (xs : List α) (d : α) (d' : β) (g : α → β)
  (step : ∀ (ys : List β) (i : Nat), i < xs.length → ys.length = xs.length → ∀ r, Ev (fun k => L k (ys.set i (g (xs.getD i d))) ((i + 1 : Nat) : Int)) r → Ev (fun k => L k ys (i : Int)) r)
  (fin : ∀ ys, Ev (fun k => L k ys (xs.length : Int)) ys) : Ev (fun k => L k (List.replicate xs.length d') 0) (xs.map g) := by
 have e : xs.map g = (List.range xs.length).map (fun i => g (xs.getD i d)) := by
  refine List.ext_getElem (by simp) fun i h1 h2 => ?_
  rw [List.getElem_map, List.getElem_map, List.getElem_range, getD_lt d (by simpa using h1)]
 have key := ev_fill L (List.replicate xs.length d') d' (fun i => g (xs.getD i d)) (xs.map g) (fun i acc hi hl _ hs => ?_) ?_
 ·
  exact key
 ·
  rw [List.length_replicate] at hi hl
  exact step acc i hi hl _ hs
 ·
  rw [List.length_replicate, ← e]
  exact fin _
theorem toRepairS_evo (l : List S132) (h : okRepairS (cvRepairS l)) : Ev (fun k => laws_toRepairS.f k l) (cvRepairS l) := by
 have hl : l.length ≤ 1048576 := by have := h.1; simpa [cvRepairS] using this
 refine Ev.congr (f := fun k => laws_toRepairS.l0 k l (List.replicate l.length z43) 0) (fun k => ?_) ?_
 ·
  unfold laws_toRepairS.f
  rw [if_pos (by omega), if_pos (by omega), Int.toNat_natCast]
 ·
  refine ev_cmap (fun k ys i => laws_toRepairS.l0 k l ys i) l z132 z43 cvRepair (fun ys i hi hl r hr => ?_) (fun ys => ?_)
  ·
   refine Ev.step (fun k => ?_) hr
   simp only [laws_toRepairS.l0]
   rw [if_pos (by omega), if_pos (by omega), toRepair_eq]
   simp only [Option.bind_some]
   rw [if_pos (by omega), w64 (by omega) (by omega), Int.toNat_natCast]
   unfold rd_T132
   rw [Int.toNat_natCast]
   rfl
  ·
   refine Ev.step (f := fun _ => some ys) (fun k => ?_) (Ev.now _)
   simp only [laws_toRepairS.l0]
   rw [if_neg (by omega)]
theorem eqRepair_eq (x : S43) : laws_eqRepair.f (x.f0) (x.f1) (x.f2) (x.f3) (x.f0) (x.f1) (x.f2) (x.f3) = some true := by
 unfold laws_eqRepair.f
 simp
theorem eqRepairS_evo (l : List S43) (h : okRepairS l) : Ev (fun k => laws_eqRepairS.f k l l) true := by
 have h := h.1
 refine Ev.congr (f := fun k => laws_eqRepairS.l0 k l l 0) (fun k => ?_) ?_
 ·
  unfold laws_eqRepairS.f
  rw [if_pos rfl]
 ·
  refine ev_eq laws_eqRepairS.l0 l (fun i hi hr => ?_) ?_
  ·
   refine Ev.step (fun k => ?_) hr
   simp only [laws_eqRepairS.l0]
   rw [if_pos (by omega), if_pos (by omega), if_pos (by omega), eqRepair_eq]
   simp only [Option.bind_some, if_true]
   rw [w64 (by omega) (by omega)]
   rfl
  ·
   refine Ev.step (f := fun _ => some true) (fun k => ?_) (Ev.now _)
   simp only [laws_eqRepairS.l0]
   rw [if_neg (by omega)]
theorem markText_ev0 (m : Nat) : ∀ (n : Nat) (x : Int) (s : ByteArray), 0 ≤ x → x < n → s.size + n ≤ 1000000000000000001 → n ≤ m → ∃ t, Ev (fun k => laws_markText.l0 k x s) t := by
 induction m with
 | zero => intro n x s h0 h1 h2 h3; omega
 | succ m ih =>
  intro n x s h0 h1 h2 h3
  by_cases hx : x > 0
  ·
   have hd : Int.tdiv x 10 = x / 10 := Int.tdiv_eq_ediv_of_nonneg h0
   have hs : ∀ c : Int, (strOfNums [c]).size = 1 := fun _ => rfl
   have hs2 : ∀ c : Int, (strOfNums [c] ++ s).size = 1 + s.size := fun c => by rw [ByteArray.size_append, hs]
   obtain ⟨t, ht⟩ := ih (n - 1) (x / 10) (strOfNums [(wrap64 (48 + (Int.tmod x 10))) % 256] ++ s) (by omega) (by omega) (by rw [hs2]; omega) (by omega)
   refine ⟨t, Ev.succ ?_⟩
   simp only [laws_markText.l0, hx, if_true, Option.bind_some, hs, hd]
   rw [w64 (x := x / 10) (by omega) (by omega)]
   simp only [show 1 + s.size ≤ 9223372036854775807 by omega, if_true]
   exact ht
  ·
   refine ⟨(⟨#[109]⟩ : ByteArray) ++ s, Ev.succ ?_⟩
   simp only [laws_markText.l0, hx, if_false, show 1 + s.size ≤ 9223372036854775807 by omega, if_true]
   exact Ev.now _
theorem markText_ex (x : Int) : ∃ t, x ≤ 1000000000000000000 → Ev (fun k => laws_markText.f k x) t := by
 by_cases hb : x ≤ 1000000000000000000
 ·
  by_cases h : x ≤ 0
  ·
   refine ⟨⟨#[109, 48]⟩, fun _ => ?_⟩
   unfold laws_markText.f
   simp only [h, if_true]
   exact Ev.now _
  ·
   obtain ⟨t, ht⟩ := markText_ev0 _ (x.toNat + 1) x ⟨#[]⟩ (by omega) (by omega) (by show 0 + _ ≤ _; omega) (Nat.le_refl _)
   refine ⟨t, fun _ => ?_⟩
   unfold laws_markText.f
   simp only [h, if_false]
   exact ht
 ·
  exact ⟨⟨#[]⟩, fun h => absurd h hb⟩
noncomputable def mtx (x : Int) : ByteArray := Classical.choose (markText_ex x)
theorem markText_ev (x : Int) (h : x ≤ 1000000000000000000) : Ev (fun k => laws_markText.f k x) (mtx x) := Classical.choose_spec (markText_ex x) h
noncomputable def mk1Repair (k : Int) : S43 := ⟨mtx (k), k + 1, k + 1 + 1, k + 1 + 1 + 1⟩
noncomputable def mkRepairS (l : List S43) (k : Int) : List S43 := (List.range l.length).map fun i : Nat => mk1Repair (k + 4 * (i : Int))
def cntRepairS (l : List S43) : Int := 4 * (l.length : Int)
theorem cntRepairS_bd (l : List S43) (h : okRepairS l) : 0 ≤ cntRepairS l ∧ cntRepairS l ≤ 2000000000000 := by have h := h.1; unfold cntRepairS; omega
theorem rdsetRepair (l : List S43) (i : Nat) (v : S43) (h : i < l.length) : rd_T43 (l.set i v) (i : Int) = v := by
 unfold rd_T43
 rw [Int.toNat_natCast, getD_lt _ (by simpa using h), List.getElem_set_self]
set_option maxRecDepth 10000 in
theorem markRepairS_ev (l : List S43) (k0 : Int) (h : okRepairS l) (h0 : 0 ≤ k0) (h1 : k0 ≤ 1000000000000000) : Ev (fun k => laws_markRepairS.f k l k0) (k0 + cntRepairS l, mkRepairS l k0) := by
 have h := h.1
 unfold laws_markRepairS.f
 have key := ev_fill (fun k acc i => laws_markRepairS.l0 k acc (k0 + 4 * i) i) l z43 (fun i => mk1Repair (k0 + 4 * (i : Int))) (k0 + cntRepairS l, mkRepairS l k0) (fun i acc hi hl _ hs => ?_) ?_
 ·
  simpa using key
 ·
  refine Ev.succ ?_
  simp (disch := omega) only [laws_markRepairS.l0, if_pos, w64, Option.bind_some, Int.toNat_natCast]
  refine Ev.bind (markText_ev _ (by omega)) ?_
  (try simp (disch := omega) only [if_pos, w64, Option.bind_some, Int.toNat_natCast])
  simp (disch := (first | omega | (simp only [List.length_set]; omega))) only [rdsetRepair, List.set_set]
  refine Ev.congr (fun k => ?_) hs
  simp only [mk1Repair]
  congr 1
  all_goals first | rfl | omega | (push_cast; omega)
 ·
  refine Ev.succ ?_
  simp only [laws_markRepairS.l0]
  simp only [mkRepairS, List.length_map, List.length_range, Int.lt_irrefl, if_false]
  exact Ev.now' (by unfold cntRepairS; rfl)
theorem eqInt64S_ev (l : List Int) (h : l.length ≤ 9223372036854775806) : Ev (fun k => laws_eqInt64S.f k l l) true := by
 refine Ev.congr (f := fun k => laws_eqInt64S.l0 k l l 0) (fun k => ?_) ?_
 ·
  unfold laws_eqInt64S.f
  rw [if_pos rfl]
 ·
  refine ev_eq laws_eqInt64S.l0 l (fun i hi hr => ?_) ?_
  ·
   refine Ev.step (fun k => ?_) hr
   simp only [laws_eqInt64S.l0]
   rw [if_pos (by omega), if_pos (by omega), if_pos (by omega), if_pos trivial, w64 (by omega) (by omega)]
   rfl
  ·
   refine Ev.step (f := fun _ => some true) (fun k => ?_) (Ev.now _)
   simp only [laws_eqInt64S.l0]
   rw [if_neg (by omega)]
def okInt64S (l : List Int) : Prop := l.length ≤ 1048576
theorem eqInt64S_evo (l : List Int) (h : okInt64S l) : Ev (fun k => laws_eqInt64S.f k l l) true := eqInt64S_ev l (by unfold okInt64S at h; omega)
def mkInt64S (l : List Int) (k : Int) : List Int := (List.range l.length).map fun i : Nat => k + (i : Int)
def cntInt64S (l : List Int) : Int := l.length
theorem mkInt64S_len (l : List Int) (k : Int) : (mkInt64S l k).length = l.length := by simp [mkInt64S]
theorem cntInt64S_bd (l : List Int) (h : okInt64S l) : 0 ≤ cntInt64S l ∧ cntInt64S l ≤ 2000000000000 := by unfold okInt64S at h; unfold cntInt64S; omega
theorem markInt64S_ev (l : List Int) (k0 : Int) (h : okInt64S l) (h0 : 0 ≤ k0) (h1 : k0 ≤ 1000000000000000) : Ev (fun k => laws_markInt64S.f k l k0) (k0 + cntInt64S l, mkInt64S l k0) := by
 unfold okInt64S at h
 unfold laws_markInt64S.f
 have key := ev_fill (fun k acc i => laws_markInt64S.l0 k acc (k0 + i) i) l 0 (fun i => k0 + (i : Int)) (k0 + cntInt64S l, mkInt64S l k0) (fun i acc hi hl _ hs => ?_) ?_
 ·
  simpa using key
 ·
  refine Ev.step (fun k => ?_) hs
  simp only [laws_markInt64S.l0]
  rw [if_pos (by omega), if_pos (by omega), w64 (by omega) (by omega), w64 (by omega) (by omega), Int.toNat_natCast]
  congr 1
  omega
 ·
  refine Ev.step (f := fun _ => some (k0 + cntInt64S l, mkInt64S l k0)) (fun k => ?_) (Ev.now _)
  simp only [laws_markInt64S.l0]
  rw [if_neg (by simp)]
  rfl
theorem heldInt64S_ev (l : List Int) (k0 : Int) (h : okInt64S l) (h0 : 0 ≤ k0) (h1 : k0 ≤ 1000000000000000) : Ev (fun k => laws_heldInt64S.f k (mkInt64S l k0) k0) (k0 + cntInt64S l) := by
 unfold okInt64S at h
 unfold laws_heldInt64S.f
 have key : ∀ (m i : Nat), i + m = l.length → Ev (fun k => laws_heldInt64S.l0 k (mkInt64S l k0) (k0 + i) i) (k0 + cntInt64S l) := by
  intro m
  induction m with
  | zero =>
   intro i hi
   refine Ev.step (f := fun _ => some (k0 + cntInt64S l)) (fun k => ?_) (Ev.now _)
   simp only [laws_heldInt64S.l0]
   rw [if_neg (by rw [mkInt64S_len]; omega)]
   unfold cntInt64S
   congr 2
   omega
  | succ m ih =>
   intro i hi
   refine Ev.step (fun k => ?_) (ih (i + 1) (by omega))
   simp only [laws_heldInt64S.l0]
   rw [if_pos (by rw [mkInt64S_len]; omega), if_pos (by omega), rd_nat, show (mkInt64S l k0).getD i 0 = k0 + i from getD_map_range _ _ _ (by omega), if_pos rfl, w64 (by omega) (by omega), w64 (by omega) (by omega)]
   congr 1
   omega
 simpa using key l.length 0 (by omega)
def smallC (c : Int) : Bool := decide (97 ≤ c) && decide (c ≤ 122)
def digitC (c : Int) : Bool := decide (48 ≤ c) && decide (c ≤ 57)
def nameC (c : Int) : Bool := smallC c || digitC c
def nameOk (b : ByteArray) : Bool := decide (1 ≤ b.size) && (decide (b.size ≤ 10) && (smallC (bt b 0) && (List.range b.size).all fun i => nameC (bt b i)))
def zP : S43 := z43
def rdP (l : List S43) (i : Nat) : S43 := l.getD i zP
theorem rdP_eq (l : List S43) (i : Nat) : rd_T43 l (i : Int) = rdP l i := by
 unfold rd_T43 rdP zP
 rw [Int.toNat_natCast]
def repR (x : S43) : Bool := inB 1 100 x.f1 && (inB 0 100000 x.f2 && inB 0 1000 x.f3)
def repOk (x : S43) : Bool := nameOk x.f0 && repR x
def okP (l : List S43) (i : Nat) : Bool := repOk (rdP l i) && (i == 0 || Op.bytesLess (rdP l (i - 1)).f0.toList (rdP l i).f0.toList)
def repsOk (l : List S43) : Bool := decide ((l.length : Int) ≤ 8) && (List.range l.length).all (okP l)
theorem repsOk_facts {l : List S43} (h : repsOk l = true) : l.length ≤ 8 ∧ ∀ i, i < l.length → repR (rdP l i) = true := by
 unfold repsOk at h
 simp only [Bool.and_eq_true, decide_eq_true_eq, List.all_eq_true] at h
 refine ⟨by omega, fun i hi => ?_⟩
 have h2 := h.2 i (by simpa using hi)
 unfold okP repOk at h2
 simp only [Bool.and_eq_true] at h2
 exact h2.1.2
theorem getD_rangeP {n i : Nat} (h : i < n) : (List.range n).getD i 0 = i := by
 rw [getD_lt 0 (by simpa using h), List.getElem_range]
theorem specSmall_eq (c : Int) : spec_l01Small.f c = some (smallC c) := by
 unfold spec_l01Small.f smallC
 by_cases h : c ≥ 97
 ·
  rw [if_pos h, decide_eq_true (show 97 ≤ c from h)]; rfl
 ·
  rw [if_neg h, decide_eq_false (show ¬ 97 ≤ c from h)]; rfl
theorem specDigit_eq (c : Int) : spec_l01Digit.f c = some (digitC c) := by
 unfold spec_l01Digit.f digitC
 by_cases h : c ≥ 48
 ·
  rw [if_pos h, decide_eq_true (show 48 ≤ c from h)]; rfl
 ·
  rw [if_neg h, decide_eq_false (show ¬ 48 ≤ c from h)]; rfl
theorem specName_ev (b : ByteArray) : Ev (fun k => spec_l01Name.f k b) (nameOk b) := by
 unfold spec_l01Name.f nameOk
 have hz : b.toList = ([] : List UInt8) ↔ b.size = 0 := by
  rw [ByteArray.toList_eq, show b.size = b.data.toList.length from rfl]
  exact List.length_eq_zero_iff.symm
 by_cases h1 : b.size < 1
 ·
  rw [decide_eq_false (by omega), Bool.false_and]
  simp only [show b.toList = ([] : List UInt8) from hz.2 (by omega), if_true]
  exact Ev.step (f := fun _ => some false) (fun k => by simp [spec_l01Name.j0]) (Ev.now _)
 ·
  rw [decide_eq_true (show 1 ≤ b.size by omega), Bool.true_and]
  simp only [show ¬ b.toList = ([] : List UInt8) from fun e => by have := hz.1 e; omega, if_false]
  by_cases h10 : b.size > 10
  ·
   rw [decide_eq_false (show ¬ b.size ≤ 10 by omega), Bool.false_and]
   simp only [show (b.size : Int) > 10 by omega, if_true]
   exact Ev.step (f := fun _ => some false) (fun k => by simp [spec_l01Name.j0]) (Ev.now _)
  ·
   rw [decide_eq_true (show b.size ≤ 10 by omega), Bool.true_and]
   simp only [show ¬ (b.size : Int) > 10 by omega, if_false, show 0 < (b.size : Int) by omega, if_true, specSmall_eq, Option.bind_some]
   cases hs : smallC (bt b 0) with
   | false =>
    rw [Bool.false_and]
    exact Ev.step (f := fun _ => some false) (fun k => by simp [spec_l01Name.j0]) (Ev.now _)
   | true =>
    rw [Bool.true_and]
    refine Ev.step (f := fun k => spec_l01Name.l0 k b 0) (fun k => by simp [spec_l01Name.j0]) ?_
    have key := ev_all (fun k i => spec_l01Name.l0 k b i) (List.range b.size) 0 (fun i => nameC (bt b i)) false true (fun i hi hp s hs2 => ?_) (fun i hi hp => ?_) ?_
    ·
     revert key
     cases (List.range b.size).all fun i => nameC (bt b i) <;> exact id
    ·
     rw [List.length_range] at hi
     rw [getD_lt 0 (by simpa using hi), List.getElem_range] at hp
     refine Ev.step (fun k => ?_) hs2
     simp only [spec_l01Name.l0]
     rw [if_pos (by omega), if_pos (by omega), specSmall_eq, specDigit_eq]
     simp only [Option.bind_some]
     unfold nameC at hp
     cases h3 : smallC (bt b i) with
     | true => rw [if_pos rfl, w64 (by omega) (by omega)]; rfl
     | false =>
      rw [h3, Bool.false_or] at hp
      rw [hp, if_neg (by decide), if_pos rfl, w64 (by omega) (by omega)]
      rfl
    ·
     rw [List.length_range] at hi
     rw [getD_lt 0 (by simpa using hi), List.getElem_range] at hp
     refine Ev.step (f := fun _ => some false) (fun k => ?_) (Ev.now _)
     simp only [spec_l01Name.l0]
     unfold nameC at hp
     rw [Bool.or_eq_false_iff] at hp
     rw [if_pos (by omega), if_pos (by omega), specSmall_eq, specDigit_eq, hp.1, hp.2]
     rfl
    ·
     refine Ev.step (f := fun _ => some true) (fun k => ?_) (Ev.now _)
     simp only [spec_l01Name.l0]
     rw [List.length_range, if_neg (by omega)]
theorem specIn_eq (a lo hi : Int) : spec_l00In.f a lo hi = some (inB lo hi a) := by
 unfold spec_l00In.f inB
 by_cases h : a ≥ lo
 ·
  rw [if_pos h, decide_eq_true (show lo ≤ a from h)]; rfl
 ·
  rw [if_neg h, decide_eq_false (show ¬ lo ≤ a from h)]; rfl
theorem specRep_ev (x : S43) : Ev (fun k => spec_l20One.f k [x]) (repOk x) := by
 unfold spec_l20One.f repOk repR
 simp only [List.length_singleton, show (0 : Int) < ((1 : Nat) : Int) by decide, if_true]
 refine Ev.bind (specName_ev x.f0) ?_
 simp only [specIn_eq, Option.bind_some]
 show Ev (fun _ => if nameOk x.f0 = true then (if inB 1 100 x.f1 = true then (if inB 0 100000 x.f2 = true then some (inB 0 1000 x.f3) else some false) else some false) else some false) _
 cases nameOk x.f0 <;> cases inB 1 100 x.f1 <;> cases inB 0 100000 x.f2 <;> cases inB 0 1000 x.f3 <;> exact Ev.now _
theorem specReps_ev (l : List S43) (hl : l.length ≤ 4611686018427387904) : Ev (fun k => spec_l20Ok.f k l) (repsOk l) := by
 unfold spec_l20Ok.f
 have key := ev_all (fun k i => spec_l20Ok.l0 k l i) (List.range l.length) 0 (okP l) false (decide ((l.length : Int) ≤ 8)) (fun i hi hp r hr => ?_) (fun i hi hp => ?_) ?_
 ·
  revert key
  unfold repsOk
  cases (List.range l.length).all (okP l) with
  | true => rw [Bool.and_true]; exact id
  | false => rw [Bool.and_false]; exact id
 ·
  rw [List.length_range] at hi
  rw [getD_rangeP hi] at hp
  refine Ev.succ ?_
  simp only [spec_l20Ok.l0, if_pos (show (i : Int) < (l.length : Int) by omega), if_pos (show (0 : Int) ≤ i by omega), rdP_eq]
  refine Ev.bind (specRep_ev (rdP l i)) ?_
  unfold okP at hp
  rw [Bool.and_eq_true] at hp
  rw [hp.1]
  simp only [if_true, w64 (x := (i : Int) + 1) (by omega) (by omega)]
  by_cases h0 : i = 0
  ·
   subst h0
   simp only [if_neg (show ¬ ((0 : Nat) : Int) > 0 by decide)]
   exact hr
  ·
   have e : wrap64 ((i : Int) - 1) = ((i - 1 : Nat) : Int) := by
    rw [w64 (by omega) (by omega)]
    omega
   have e0 : (i == 0) = false := by simpa using h0
   have hb := hp.2
   rw [e0, Bool.false_or] at hb
   simp only [if_pos (show (i : Int) > 0 by omega), e, if_pos (show (0 : Int) ≤ ((i - 1 : Nat) : Int) by omega), if_pos (show ((i - 1 : Nat) : Int) < (l.length : Int) by omega), rdP_eq, hb, if_true]
   exact hr
 ·
  rw [List.length_range] at hi
  rw [getD_rangeP hi] at hp
  refine Ev.succ ?_
  simp only [spec_l20Ok.l0, if_pos (show (i : Int) < (l.length : Int) by omega), if_pos (show (0 : Int) ≤ i by omega), rdP_eq]
  refine Ev.bind (specRep_ev (rdP l i)) ?_
  unfold okP at hp
  cases hu : repOk (rdP l i) with
  | false => exact Ev.now _
  | true =>
   rw [hu, Bool.true_and] at hp
   by_cases h0 : i = 0
   ·
    subst h0
    simp at hp
   ·
    have e : wrap64 ((i : Int) - 1) = ((i - 1 : Nat) : Int) := by
     rw [w64 (by omega) (by omega)]
     omega
    have e0 : (i == 0) = false := by simpa using h0
    rw [e0, Bool.false_or] at hp
    simp only [if_true, if_pos (show (i : Int) > 0 by omega), e, if_pos (show (0 : Int) ≤ ((i - 1 : Nat) : Int) by omega), if_pos (show ((i - 1 : Nat) : Int) < (l.length : Int) by omega), rdP_eq, hp, Bool.false_eq_true, if_false]
    exact Ev.now _
 ·
  rw [List.length_range]
  refine Ev.succ ?_
  simp only [spec_l20Ok.l0, if_neg (show ¬ (l.length : Int) < (l.length : Int) by omega)]
  exact Ev.now _
theorem implBytes_ev (b : ByteArray) (hb : b.size ≤ 10) : Ev (fun k => impl_onlyNameBytes.f k b) ((List.range b.size).all fun i => nameC (bt b i)) := by
 unfold impl_onlyNameBytes.f
 have key := ev_all (fun k i => impl_onlyNameBytes.l0 k b b.size i) (List.range b.size) 0 (fun i => nameC (bt b i)) false true (fun i hi hp s hs2 => ?_) (fun i hi hp => ?_) ?_
 ·
  revert key
  cases (List.range b.size).all fun i => nameC (bt b i) <;> exact id
 ·
  rw [List.length_range] at hi
  rw [getD_lt 0 (by simpa using hi), List.getElem_range] at hp
  refine Ev.step (fun k => ?_) hs2
  simp only [impl_onlyNameBytes.l0]
  rw [if_pos (by omega), if_pos (by omega), if_pos (by omega), w64 (by omega) (by omega)]
  simp only [nameC, smallC, digitC, Bool.or_eq_true, Bool.and_eq_true, decide_eq_true_eq] at hp
  split
  ·
   rw [if_neg (by omega), if_neg (by omega)]; rfl
  ·
   split
   ·
    omega
   ·
    rfl
 ·
  rw [List.length_range] at hi
  rw [getD_lt 0 (by simpa using hi), List.getElem_range] at hp
  refine Ev.step (f := fun _ => some false) (fun k => ?_) (Ev.now _)
  simp only [impl_onlyNameBytes.l0]
  rw [if_pos (by omega), if_pos (by omega), if_pos (by omega)]
  simp only [nameC, smallC, digitC, Bool.or_eq_false_iff, Bool.and_eq_false_iff, decide_eq_false_iff_not] at hp
  split
  ·
   split
   ·
    rfl
   ·
    rw [if_pos (by omega)]
  ·
   split
   ·
    rw [if_neg (by omega), if_pos (by omega)]
   ·
    omega
 ·
  refine Ev.step (f := fun _ => some true) (fun k => ?_) (Ev.now _)
  simp only [impl_onlyNameBytes.l0]
  rw [List.length_range, if_neg (by omega)]
theorem implName_ev (b : ByteArray) : Ev (fun k => impl_IsName.f k b) (nameOk b) := by
 unfold impl_IsName.f nameOk
 by_cases h1 : b.size < 1
 ·
  rw [decide_eq_false (by omega), Bool.false_and]
  simp only [show (b.size : Int) < 1 by omega, if_true]
  exact Ev.now _
 ·
  rw [decide_eq_true (show 1 ≤ b.size by omega), Bool.true_and]
  simp only [show ¬ (b.size : Int) < 1 by omega, if_false]
  by_cases h10 : b.size > 10
  ·
   rw [decide_eq_false (show ¬ b.size ≤ 10 by omega), Bool.false_and]
   simp only [show (b.size : Int) > 10 by omega, if_true]
   exact Ev.now _
  ·
   rw [decide_eq_true (show b.size ≤ 10 by omega), Bool.true_and]
   simp only [show ¬ (b.size : Int) > 10 by omega, if_false, show 0 < (b.size : Int) by omega, if_true]
   unfold smallC
   by_cases g1 : bt b 0 < 97
   ·
    simp only [g1, if_true, decide_eq_false (show ¬ 97 ≤ bt b 0 by omega), Bool.false_and]
    exact Ev.now _
   ·
    simp only [g1, if_false, decide_eq_true (show 97 ≤ bt b 0 by omega), Bool.true_and]
    by_cases g2 : bt b 0 > 122
    ·
     simp only [g2, if_true, decide_eq_false (show ¬ bt b 0 ≤ 122 by omega), Bool.false_and]
     exact Ev.now _
    ·
     simp only [g2, if_false, decide_eq_true (show bt b 0 ≤ 122 by omega), Bool.true_and]
     refine Ev.bind (implBytes_ev b (by omega)) ?_
     exact Ev.now _
theorem implRep_ev (x : S43) : Ev (fun k => impl_Repair_valid.f k x.f0 x.f1 x.f2 x.f3) (repOk x) := by
 unfold impl_Repair_valid.f repOk repR
 refine Ev.bind (implName_ev x.f0) ?_
 simp only [impl_within.f, Option.bind_some]
 show Ev (fun _ => if nameOk x.f0 = true then (if inB 1 100 x.f1 = true then (if inB 0 100000 x.f2 = true then some (inB 0 1000 x.f3) else some false) else some false) else some false) _
 cases nameOk x.f0 <;> cases inB 1 100 x.f1 <;> cases inB 0 100000 x.f2 <;> cases inB 0 1000 x.f3 <;> exact Ev.now _
theorem implReps_ev (l : List S43) (hl : l.length ≤ 4611686018427387904) : Ev (fun k => impl_ValidRepairs.f k l) (repsOk l) := by
 unfold impl_ValidRepairs.f
 by_cases h8 : (l.length : Int) > 8
 ·
  simp only [if_pos h8]
  have : repsOk l = false := by
   unfold repsOk
   rw [decide_eq_false (by omega), Bool.false_and]
  rw [this]
  exact Ev.now _
 ·
  simp only [if_neg h8]
  have : repsOk l = (List.range l.length).all (okP l) := by
   unfold repsOk
   rw [decide_eq_true (by omega), Bool.true_and]
  rw [this]
  have key := ev_all (fun k i => impl_ValidRepairs.l0 k l l (l.length : Int) i) (List.range l.length) 0 (okP l) false true (fun i hi hp r hr => ?_) (fun i hi hp => ?_) ?_
  ·
   revert key
   cases (List.range l.length).all (okP l) <;> exact id
  ·
   rw [List.length_range] at hi
   rw [getD_rangeP hi] at hp
   refine Ev.succ ?_
   simp only [impl_ValidRepairs.l0, if_pos (show (i : Int) < (l.length : Int) by omega), if_pos (show (0 : Int) ≤ i by omega), rdP_eq]
   refine Ev.bind (implRep_ev (rdP l i)) ?_
   unfold okP at hp
   rw [Bool.and_eq_true] at hp
   rw [hp.1]
   simp only [if_true, w64 (x := (i : Int) + 1) (by omega) (by omega)]
   by_cases h0 : i = 0
   ·
    subst h0
    simp only [if_neg (show ¬ ((0 : Nat) : Int) > 0 by decide)]
    exact hr
   ·
    have e : wrap64 ((i : Int) - 1) = ((i - 1 : Nat) : Int) := by
     rw [w64 (by omega) (by omega)]
     omega
    have e0 : (i == 0) = false := by simpa using h0
    have hb := hp.2
    rw [e0, Bool.false_or] at hb
    simp only [if_pos (show (i : Int) > 0 by omega), e, if_pos (show (0 : Int) ≤ ((i - 1 : Nat) : Int) by omega), if_pos (show ((i - 1 : Nat) : Int) < (l.length : Int) by omega), rdP_eq, hb, if_true]
    exact hr
  ·
   rw [List.length_range] at hi
   rw [getD_rangeP hi] at hp
   refine Ev.succ ?_
   simp only [impl_ValidRepairs.l0, if_pos (show (i : Int) < (l.length : Int) by omega), if_pos (show (0 : Int) ≤ i by omega), rdP_eq]
   refine Ev.bind (implRep_ev (rdP l i)) ?_
   unfold okP at hp
   cases hu : repOk (rdP l i) with
   | false => exact Ev.now _
   | true =>
    rw [hu, Bool.true_and] at hp
    by_cases h0 : i = 0
    ·
     subst h0
     simp at hp
    ·
     have e : wrap64 ((i : Int) - 1) = ((i - 1 : Nat) : Int) := by
      rw [w64 (by omega) (by omega)]
      omega
     have e0 : (i == 0) = false := by simpa using h0
     rw [e0, Bool.false_or] at hp
     simp only [if_true, if_pos (show (i : Int) > 0 by omega), e, if_pos (show (0 : Int) ≤ ((i - 1 : Nat) : Int) by omega), if_pos (show ((i - 1 : Nat) : Int) < (l.length : Int) by omega), rdP_eq, hp, Bool.false_eq_true, if_false]
     exact Ev.now _
  ·
   rw [List.length_range]
   refine Ev.succ ?_
   simp only [impl_ValidRepairs.l0, if_neg (show ¬ (l.length : Int) < (l.length : Int) by omega)]
   exact Ev.now _
def stp (rec : List Int → Int × Bool × List Int × Int → Int × Bool × List Int × Int) (nb : Int) (ord : List Int) (st : Int × Bool × List Int × Int) (i : Nat) : Int × Bool × List Int × Int :=
 if st.2.1 = true then st else if (i : Int) ∈ ord then st else if st.1 = nb then (st.1, true, st.2.2) else rec (ord ++ [(i : Int)]) (st.1 + 1, st.2)
def srch (H : List Int → Int) (n : Nat) (nb : Int) : Nat → List Int → Int × Bool × List Int × Int → Int × Bool × List Int × Int
 | 0, ord, st => if st.2.2.2 < 0 ∨ H ord < st.2.2.2 then (st.1, st.2.1, ord, H ord) else st
 | m + 1, ord, st => (List.range' 0 n).foldl (stp (fun o s => srch H n nb m o s) nb ord) st
theorem stp_full {rec : List Int → Int × Bool × List Int × Int → Int × Bool × List Int × Int} {nb : Int} {ord : List Int} {st : Int × Bool × List Int × Int} (h : st.2.1 = true) : ∀ L : List Nat, L.foldl (stp rec nb ord) st = st
 | [] => rfl
 | i :: t => by
  rw [List.foldl_cons]
  have e : stp rec nb ord st i = st := by unfold stp; rw [if_pos h]
  rw [e]
  exact stp_full h t
theorem srch_bd (H : List Int → Int) (n : Nat) (nb : Int) : ∀ (m : Nat) (ord : List Int) (st : Int × Bool × List Int × Int), 0 ≤ st.1 ∧ st.1 ≤ nb → 0 ≤ (srch H n nb m ord st).1 ∧ (srch H n nb m ord st).1 ≤ nb := by
 intro m
 induction m with
 | zero => intro ord st h; unfold srch; split <;> exact h
 | succ m ih =>
  intro ord st h
  unfold srch
  have key : ∀ (L : List Nat) (st : Int × Bool × List Int × Int), 0 ≤ st.1 ∧ st.1 ≤ nb → 0 ≤ (L.foldl (stp (fun o s => srch H n nb m o s) nb ord) st).1 ∧ (L.foldl (stp (fun o s => srch H n nb m o s) nb ord) st).1 ≤ nb := by
   intro L
   induction L with
   | nil => intro st h; exact h
   | cons i t iht =>
    intro st h
    rw [List.foldl_cons]
    refine iht _ ?_
    unfold stp
    split
    ·
     exact h
    ·
     split
     ·
      exact h
     ·
      split
      ·
       exact h
      ·
       exact ih _ _ (by constructor <;> show _ <;> (simp only; omega))
  exact key _ _ h
theorem srch_len (H : List Int → Int) (n : Nat) (nb : Int) : ∀ (m : Nat) (ord : List Int) (st : Int × Bool × List Int × Int), ord.length + m = n → st.2.2.1.length ≤ n → (srch H n nb m ord st).2.2.1.length ≤ n := by
 intro m
 induction m with
 | zero =>
  intro ord st ho h
  unfold srch
  split
  ·
   show ord.length ≤ n
   omega
  ·
   exact h
 | succ m ih =>
  intro ord st ho h
  unfold srch
  have key : ∀ (L : List Nat) (st : Int × Bool × List Int × Int), st.2.2.1.length ≤ n → (L.foldl (stp (fun o s => srch H n nb m o s) nb ord) st).2.2.1.length ≤ n := by
   intro L
   induction L with
   | nil => intro st h; exact h
   | cons i t iht =>
    intro st h
    rw [List.foldl_cons]
    refine iht _ ?_
    unfold stp
    split
    ·
     exact h
    ·
     split
     ·
      exact h
     ·
      split
      ·
       exact h
      ·
       exact ih _ _ (by rw [List.length_append, List.length_singleton]; omega) h
  exact key _ _ h
def NN : Nat → Int
 | 0 => 0
 | m + 1 => ((m + 1 : Nat) : Int) * (1 + NN m)
theorem NN_pos : ∀ m, 0 ≤ NN m
 | 0 => Int.le_refl _
 | m + 1 => Int.mul_nonneg (by omega) (by have := NN_pos m; omega)
def cnt (L : List Nat) (ord : List Int) : Nat := L.countP fun i : Nat => decide (¬ (i : Int) ∈ ord)
theorem cnt_snoc (ord : List Int) (x : Nat) (hx : ¬ (x : Int) ∈ ord) : ∀ L : List Nat, L.Nodup → x ∈ L → cnt L (ord ++ [(x : Int)]) + 1 = cnt L ord := by
 have far : ∀ L : List Nat, ¬ x ∈ L → cnt L (ord ++ [(x : Int)]) = cnt L ord := by
  intro L hL
  unfold cnt
  refine List.countP_congr fun j hj => ?_
  have hne : j ≠ x := fun e => hL (e ▸ hj)
  simp only [List.mem_append, List.mem_singleton, not_or, decide_eq_true_eq]
  constructor
  ·
   exact fun h => h.1
  ·
   exact fun h => ⟨h, by omega⟩
 intro L
 induction L with
 | nil => intro _ h; cases h
 | cons a t ih =>
  intro hn hm
  rw [List.nodup_cons] at hn
  by_cases e : a = x
  ·
   subst e
   have h1 := far t hn.1
   unfold cnt at h1 ⊢
   rw [List.countP_cons, List.countP_cons, h1]
   simp [hx]
  ·
   have hm2 : x ∈ t := by
    rcases List.mem_cons.1 hm with h | h
    ·
     exact absurd h.symm e
    ·
     exact h
   have h1 := ih hn.2 hm2
   unfold cnt at h1 ⊢
   rw [List.countP_cons, List.countP_cons]
   have e2 : decide (¬ (a : Int) ∈ ord ++ [(x : Int)]) = decide (¬ (a : Int) ∈ ord) := by
    rw [decide_eq_decide]
    simp only [List.mem_append, List.mem_singleton, not_or]
    constructor
    ·
     exact fun h => h.1
    ·
     exact fun h => ⟨h, by omega⟩
   rw [e2]
   omega
theorem srch_free (H : List Int → Int) (n : Nat) (nb : Int) : ∀ (m : Nat) (ord : List Int) (st : Int × Bool × List Int × Int), st.2.1 = false → cnt (List.range' 0 n) ord = m → st.1 + NN m ≤ nb → (srch H n nb m ord st).2.1 = false ∧ (srch H n nb m ord st).1 ≤ st.1 + NN m := by
 intro m
 induction m with
 | zero =>
  intro ord st hf hc hn
  unfold srch NN
  split
  ·
   exact ⟨hf, by show st.1 ≤ st.1 + 0; omega⟩
  ·
   exact ⟨hf, by omega⟩
 | succ m ih =>
  intro ord st hf hc hn
  have hN := NN_pos m
  have key : ∀ (d i : Nat) (st : Int × Bool × List Int × Int), i + d = n → st.2.1 = false → st.1 + (cnt (List.range' i d) ord : Int) * (1 + NN m) ≤ nb → ((List.range' i d).foldl (stp (fun o s => srch H n nb m o s) nb ord) st).2.1 = false ∧ ((List.range' i d).foldl (stp (fun o s => srch H n nb m o s) nb ord) st).1 ≤ st.1 + (cnt (List.range' i d) ord : Int) * (1 + NN m) := by
   intro d
   induction d with
   | zero => intro i st hi hf hn; exact ⟨hf, by show st.1 ≤ st.1 + ((0 : Nat) : Int) * (1 + NN m); simp⟩
   | succ d ihd =>
    intro i st hi hf hn
    rw [List.range'_succ] at hn ⊢
    rw [List.foldl_cons]
    have hcs : cnt (i :: List.range' (i + 1) d) ord = cnt (List.range' (i + 1) d) ord + if ¬ (i : Int) ∈ ord then 1 else 0 := by
     unfold cnt
     rw [List.countP_cons]
     simp
    rw [hcs] at hn ⊢
    by_cases hin : (i : Int) ∈ ord
    ·
     have e : stp (fun o s => srch H n nb m o s) nb ord st i = st := by
      unfold stp
      rw [if_neg (by rw [hf]; decide), if_pos hin]
     rw [e]
     rw [if_neg (fun h => h hin)] at hn ⊢
     exact ihd (i + 1) st (by omega) hf hn
    ·
     rw [if_pos hin] at hn ⊢
     have ec : ((cnt (List.range' (i + 1) d) ord + 1 : Nat) : Int) * (1 + NN m) = (cnt (List.range' (i + 1) d) ord : Int) * (1 + NN m) + (1 + NN m) := by
      rw [Int.natCast_add, Int.add_mul, Int.natCast_one, Int.one_mul]
     have hc0 : 0 ≤ (cnt (List.range' (i + 1) d) ord : Int) * (1 + NN m) := Int.mul_nonneg (by omega) (by omega)
     rw [ec] at hn ⊢
     have e : stp (fun o s => srch H n nb m o s) nb ord st i = srch H n nb m (ord ++ [(i : Int)]) (st.1 + 1, st.2) := by
      unfold stp
      rw [if_neg (by rw [hf]; decide), if_neg hin, if_neg (by omega)]
     rw [e]
     have hc2 := cnt_snoc ord i hin (List.range' 0 n) List.nodup_range' (by rw [List.mem_range']; exact ⟨i, by omega, by omega⟩)
     obtain ⟨q1, q2⟩ := ih (ord ++ [(i : Int)]) (st.1 + 1, st.2) hf (by omega) (by show st.1 + 1 + NN m ≤ nb; omega)
     have q2' : (srch H n nb m (ord ++ [(i : Int)]) (st.1 + 1, st.2)).1 ≤ st.1 + 1 + NN m := q2
     obtain ⟨p1, p2⟩ := ihd (i + 1) _ (by omega) q1 (by omega)
     exact ⟨p1, by omega⟩
  have h := key n 0 st (by omega) hf (by rw [hc]; exact hn)
  rw [hc] at h
  exact h
theorem cont_ev (l : List Int) (x : Int) (hl : l.length ≤ 1000) : Ev (fun k => slices_Contains_int64_int64.f k l x) (decide (x ∈ l)) := by
 unfold slices_Contains_int64_int64.f slices_Index_int64_int64.f
 have key : ∀ (m i : Nat), i + m = l.length → ∃ r, Ev (fun k => slices_Index_int64_int64.l0 k l x (l.length : Int) (i : Int)) r ∧ decide (r ≥ 0) = decide (x ∈ l.drop i) := by
  intro m
  induction m with
  | zero =>
   intro i hi
   obtain rfl : i = l.length := by omega
   refine ⟨-1, Ev.succ ?_, by simp⟩
   simp only [slices_Index_int64_int64.l0, show ¬ (l.length : Int) < (l.length : Int) by omega, if_false]
   exact Ev.now _
  | succ m ih =>
   intro i hi
   have hlt : i < l.length := by omega
   have e : rd l (i : Int) = l[i] := by rw [rd_nat, getD_lt 0 hlt]
   by_cases c : x = l[i]
   ·
    refine ⟨i, Ev.succ ?_, by rw [List.drop_eq_getElem_cons hlt, ← c]; simp⟩
    simp only [slices_Index_int64_int64.l0, show (i : Int) < (l.length : Int) by omega, show (0 : Int) ≤ (i : Int) by omega, if_true, e, if_pos c]
    exact Ev.now _
   ·
    obtain ⟨r, h1, h2⟩ := ih (i + 1) (by omega)
    refine ⟨r, Ev.succ ?_, by rw [h2, List.drop_eq_getElem_cons hlt]; simp only [List.mem_cons, c, false_or]⟩
    simp only [slices_Index_int64_int64.l0, show (i : Int) < (l.length : Int) by omega, show (0 : Int) ≤ (i : Int) by omega, if_true, e, if_neg c]
    rw [w64 (by omega) (by omega)]
    exact h1
 obtain ⟨r, h1, h2⟩ := key l.length 0 (by omega)
 rw [List.drop_zero] at h2
 rw [← h2]
 exact Ev.bind h1 (Ev.now _)
theorem has_ev (l : List Int) (x : Int) (hl : l.length ≤ 1000) : Ev (fun k => spec_l00Has.f k l x) (decide (x ∈ l)) := by
 unfold spec_l00Has.f
 have key : ∀ (m i : Nat), i + m = l.length → Ev (fun k => spec_l00Has.l0 k l x (i : Int)) (decide (x ∈ l.drop i)) := by
  intro m
  induction m with
  | zero =>
   intro i hi
   obtain rfl : i = l.length := by omega
   refine Ev.succ ?_
   simp only [spec_l00Has.l0, show ¬ (l.length : Int) < (l.length : Int) by omega, if_false, List.drop_length, List.not_mem_nil, decide_false]
   exact Ev.now _
  | succ m ih =>
   intro i hi
   have hlt : i < l.length := by omega
   have e : rd l (i : Int) = l[i] := by rw [rd_nat, getD_lt 0 hlt]
   refine Ev.succ ?_
   simp only [spec_l00Has.l0, show (i : Int) < (l.length : Int) by omega, show (0 : Int) ≤ (i : Int) by omega, if_true, e]
   rw [List.drop_eq_getElem_cons hlt]
   by_cases c : l[i] = x
   ·
    simp only [c, if_true, List.mem_cons, true_or, decide_true]
    exact Ev.now _
   ·
    have h := ih (i + 1) (by omega)
    simp only [c, if_false, List.mem_cons, show ¬ x = l[i] from fun z => c z.symm, false_or]
    rw [w64 (by omega) (by omega)]
    exact h
 have h := key l.length 0 (by omega)
 rwa [List.drop_zero] at h
def am (f : List Int) : Nat → Nat → Nat → Nat
 | 0, g, _ => g
 | m + 1, g, j => if f.getD j 0 < f.getD g 0 then am f m j (j + 1) else am f m g (j + 1)
def amin (f : List Int) : Nat := am f (f.length - 1) 0 1
theorem am_spec (f : List Int) : ∀ (m g j : Nat), j + m = f.length → g < j → (∀ i, i < j → f.getD g 0 ≤ f.getD i 0) → (∀ i, i < g → f.getD g 0 < f.getD i 0) →
  am f m g j < f.length ∧ (∀ i, i < f.length → f.getD (am f m g j) 0 ≤ f.getD i 0) ∧ (∀ i, i < am f m g j → f.getD (am f m g j) 0 < f.getD i 0)
 | 0, g, j, h, hg, h1, h2 => ⟨by show g < _; omega, fun i hi => h1 i (by omega), h2⟩
 | m + 1, g, j, h, hg, h1, h2 => by
  unfold am
  split
  ·
   rename_i hlt
   refine am_spec f m j (j + 1) (by omega) (by omega) (fun i hi => ?_) (fun i hi => ?_)
   ·
    by_cases e : i = j
    ·
     subst e; exact Int.le_refl _
    ·
     have := h1 i (by omega); omega
   ·
    have := h1 i hi; omega
  ·
   rename_i hlt
   refine am_spec f m g (j + 1) (by omega) (by omega) (fun i hi => ?_) h2
   by_cases e : i = j
   ·
    subst e; omega
   ·
    exact h1 i (by omega)
theorem amin_spec (f : List Int) (h : 0 < f.length) : amin f < f.length ∧ (∀ i, i < f.length → f.getD (amin f) 0 ≤ f.getD i 0) ∧ (∀ i, i < amin f → f.getD (amin f) 0 < f.getD i 0) :=
 am_spec f (f.length - 1) 0 1 (by omega) (by omega) (fun i hi => by
  obtain rfl : i = 0 := by omega
  exact Int.le_refl _) (fun i hi => by omega)
theorem minI_ev (f : List Int) (h : 0 < f.length) (hl : f.length ≤ 1000) : Ev (fun k => slices_Min_int64_int64.f k f) (f.getD (amin f) 0) := by
 have key : ∀ (m i : Nat) (x : Int), i + m = f.length → (∃ j, j < f.length ∧ x = f.getD j 0) → (∀ j, j < i → x ≤ f.getD j 0) → ∃ r, Ev (fun k => slices_Min_int64_int64.l0 k f x (i : Int)) r ∧ (∃ j, j < f.length ∧ r = f.getD j 0) ∧ ∀ j, j < f.length → r ≤ f.getD j 0 := by
  intro m
  induction m with
  | zero =>
   intro i x hi hx hle
   obtain rfl : i = f.length := by omega
   refine ⟨x, Ev.succ ?_, hx, hle⟩
   simp only [slices_Min_int64_int64.l0, show ¬ (f.length : Int) < (f.length : Int) by omega, if_false]
   exact Ev.now _
  | succ m ih =>
   intro i x hi hx hle
   obtain ⟨r, h1, h2, h3⟩ := ih (i + 1) (mn x (f.getD i 0)) (by omega) (by unfold mn; split; exact ⟨i, by omega, rfl⟩; exact hx) (fun j hj => by
    unfold mn
    by_cases e : j = i
    ·
     subst e; split <;> omega
    ·
     have := hle j (by omega); split <;> omega)
   refine ⟨r, Ev.succ ?_, h2, h3⟩
   simp only [slices_Min_int64_int64.l0, show (i : Int) < (f.length : Int) by omega, show (0 : Int) ≤ (i : Int) by omega, if_true, rd_nat]
   rw [w64 (by omega) (by omega)]
   exact h1
 obtain ⟨r, h1, ⟨j, hj, h2⟩, h3⟩ := key (f.length - 1) 1 (f.getD 0 0) (by omega) ⟨0, h, rfl⟩ (fun j hj => by
  obtain rfl : j = 0 := by omega
  exact Int.le_refl _)
 obtain ⟨a1, a2, a3⟩ := amin_spec f h
 have e : r = f.getD (amin f) 0 := by
  have := h3 _ a1
  have := a2 j hj
  omega
 unfold slices_Min_int64_int64.f
 simp only [if_neg (show ¬ (f.length : Int) < 1 by omega), if_pos (show 0 < (f.length : Int) by omega), show rd f 0 = f.getD 0 0 from rfl]
 rw [← e]
 exact h1
theorem idxI_ev (f : List Int) (h : 0 < f.length) (hl : f.length ≤ 1000) : Ev (fun k => slices_Index_int64_int64.f k f (f.getD (amin f) 0)) (amin f : Int) := by
 obtain ⟨a1, a2, a3⟩ := amin_spec f h
 unfold slices_Index_int64_int64.f
 have key : ∀ (m i : Nat), i + m = amin f → Ev (fun k => slices_Index_int64_int64.l0 k f (f.getD (amin f) 0) (f.length : Int) (i : Int)) (amin f : Int) := by
  intro m
  induction m with
  | zero =>
   intro i hi
   obtain rfl : i = amin f := by omega
   refine Ev.succ ?_
   simp only [slices_Index_int64_int64.l0, show (amin f : Int) < (f.length : Int) by omega, show (0 : Int) ≤ (amin f : Int) by omega, if_true, rd_nat]
   exact Ev.now _
  | succ m ih =>
   intro i hi
   have h1 := a3 i (by omega)
   refine Ev.succ ?_
   simp only [slices_Index_int64_int64.l0, show (i : Int) < (f.length : Int) by omega, show (0 : Int) ≤ (i : Int) by omega, if_true, rd_nat, if_neg (show ¬ f.getD (amin f) 0 = f.getD i 0 by omega)]
   rw [w64 (by omega) (by omega)]
   exact ih (i + 1) (by omega)
 exact key (amin f) 0 (by omega)
def gst (l : List S43) (s : List Int × List Int × Int) (x : Int) : List Int × List Int × Int :=
 let b := mx (mx s.2.2 (s.1.getD (amin s.1) 0)) (rdP l x.toNat).f3
 let e := wrap64 (b + (rdP l x.toNat).f1)
 (s.1.set (amin s.1) e, s.2.1.set x.toNat e, b)
def gEnds (l : List S43) (ord : List Int) (g : Nat) : List Int := (ord.foldl (gst l) (List.replicate g 0, List.replicate l.length 0, 0)).2.1
def gHeat (l : List S43) (es : List Int) : Int := (List.range l.length).foldl (fun s i => wrap64 (s + wrap64 ((rdP l i).f2 * es.getD i 0))) 0
def hOf (l : List S43) (g : Nat) (ord : List Int) : Int := gHeat l (gEnds l ord g)
theorem gst_len (l : List S43) (s : List Int × List Int × Int) (x : Int) : (gst l s x).1.length = s.1.length ∧ (gst l s x).2.1.length = s.2.1.length := by
 simp [gst]
theorem gEnds_len (l : List S43) (ord : List Int) (g : Nat) : (gEnds l ord g).length = l.length := by
 unfold gEnds
 have key : ∀ (ord : List Int) (s : List Int × List Int × Int), (ord.foldl (gst l) s).2.1.length = s.2.1.length := by
  intro ord
  induction ord with
  | nil => intro s; rfl
  | cons x t ih => intro s; rw [List.foldl_cons, ih, (gst_len l s x).2]
 rw [key]
 simp
theorem foldl_take_succ {α σ : Type} (g : σ → α → σ) (xs : List α) (d : α) (s0 : σ) {i : Nat} (h : i < xs.length) : (xs.take (i + 1)).foldl g s0 = g ((xs.take i).foldl g s0) (xs.getD i d) := by
 rw [take_succ_getD xs d h, List.foldl_append]; rfl
theorem ev_fold {α σ ρ : Type} (L : Nat → σ → Int → Option ρ) (xs : List α) (d : α) (g : σ → α → σ) (I : Nat → σ → Prop) (r : ρ) (s0 : σ) (h0 : I 0 s0)
  (step : ∀ i s, i < xs.length → I i s → I (i + 1) (g s (xs.getD i d)) ∧ (Ev (fun k => L k (g s (xs.getD i d)) ((i + 1 : Nat) : Int)) r → Ev (fun k => L k s (i : Int)) r))
  (fin : I xs.length (xs.foldl g s0) → Ev (fun k => L k (xs.foldl g s0) (xs.length : Int)) r) : Ev (fun k => L k s0 0) r := by
 have key : ∀ (m i : Nat), i + m = xs.length → I i ((xs.take i).foldl g s0) → Ev (fun k => L k ((xs.take i).foldl g s0) (i : Int)) r := by
  intro m
  induction m with
  | zero =>
   intro i hi hI
   have : i = xs.length := by omega
   subst this
   rw [List.take_length] at hI ⊢
   exact fin hI
  | succ m ih =>
   intro i hi hI
   obtain ⟨h1, h2⟩ := step i _ (by omega) hI
   have := ih (i + 1) (by omega)
   rw [foldl_take_succ g xs d s0 (by omega)] at this
   exact h2 (this h1)
 exact key xs.length 0 (by omega) h0
theorem specEnds_ev (l : List S43) (ord : List Int) (g : Nat) (hl : l.length ≤ 1000) (hg : 0 < g ∧ g ≤ 1000) (ho : ord.length ≤ 1000) (hr : ∀ x ∈ ord, 0 ≤ x ∧ x < (l.length : Int)) : Ev (fun k => spec_l20Ends.f k l ord (g : Int)) (gEnds l ord g) := by
 unfold spec_l20Ends.f gEnds
 simp only [show (0 : Int) ≤ (g : Int) by omega, show g ≤ 35184372088832 by omega, show (0 : Int) ≤ (l.length : Int) by omega, show l.length ≤ 35184372088832 by omega, if_true, Int.toNat_natCast]
 have key := ev_fold (fun k s i => spec_l20Ends.l0 k l ord s.2.1 s.1 s.2.2 i) ord 0 (gst l) (fun _ s => s.1.length = g ∧ s.2.1.length = l.length) (ord.foldl (gst l) (List.replicate g 0, List.replicate l.length 0, 0)).2.1 (List.replicate g 0, List.replicate l.length 0, 0) ⟨List.length_replicate .., List.length_replicate ..⟩ (fun i s hi hI => by
  obtain ⟨h1, h2⟩ := hI
  have hg2 := gst_len l s (ord.getD i 0)
  refine ⟨⟨by omega, by omega⟩, fun hr2 => Ev.succ ?_⟩
  have hx := hr _ (getD_mem 0 hi)
  obtain ⟨ha, _, _⟩ := amin_spec s.1 (by omega)
  obtain ⟨j, hj⟩ : ∃ j : Nat, ord.getD i 0 = (j : Int) := ⟨(ord.getD i 0).toNat, by omega⟩
  rw [hj] at hx hr2
  simp only [spec_l20Ends.l0, show (i : Int) < (ord.length : Int) by omega, if_true]
  have key : ∀ (m q j2 : Nat), j2 + m = s.1.length → q < j2 → am s.1 m q j2 = amin s.1 → ∀ R, Ev (fun k => spec_l20Ends.l0 k l ord (gst l s (j : Int)).2.1 (gst l s (j : Int)).1 (gst l s (j : Int)).2.2 ((i + 1 : Nat) : Int)) R → Ev (fun k => spec_l20Ends.l1 k l ord s.2.1 s.1 s.2.2 (i : Int) (q : Int) (j2 : Int)) R := by
   intro m
   induction m with
   | zero =>
    intro q j2 hq1 hq2 hq3 R hR
    have e0 : q = amin s.1 := hq3
    subst e0
    refine Ev.succ ?_
    have eone : ∀ x : S43, rd_T43 [x] 0 = x := fun x => rfl
    simp only [spec_l20Ends.l1, show ¬ (j2 : Int) < (s.1.length : Int) by omega, show (0 : Int) ≤ (i : Int) by omega, show (i : Int) < (ord.length : Int) by omega, rd_nat, hj, hx.1, hx.2, show (0 : Int) ≤ (amin s.1 : Int) by omega, show (amin s.1 : Int) < (s.1.length : Int) by omega, show (j : Int) < (s.2.1.length : Int) by omega, if_true, if_false, eone, rdP_eq, Int.toNat_natCast, w64 (x := (i : Int) + 1) (by omega) (by omega)]
    have emax : ∀ a b c : Int, ((spec_l00Max.f a b).bind fun t => spec_l00Max.f t c) = some (mx (mx c a) b) := by
     intro a b c
     have e1 : ∀ x y : Int, spec_l00Max.f x y = some (if x > y then x else y) := fun x y => by unfold spec_l00Max.f; split <;> rfl
     simp only [e1, Option.bind_some]
     unfold mx
     congr 1
     repeat' split
     all_goals omega
    have emx := emax (s.1.getD (amin s.1) 0) (rdP l j).f3 s.2.2
    obtain ⟨t1, ht1, ht2⟩ := Option.bind_eq_some_iff.mp emx
    simp only [ht1, ht2, Option.bind_some]
    have e : (s.1.set (amin s.1) (wrap64 (mx (mx s.2.2 (s.1.getD (amin s.1) 0)) (rdP l j).f3 + (rdP l j).f1))).getD (amin s.1) 0 = wrap64 (mx (mx s.2.2 (s.1.getD (amin s.1) 0)) (rdP l j).f3 + (rdP l j).f1) := by
     rw [List.getD_eq_getElem?_getD, List.getElem?_set_self (by omega)]
     rfl
    rw [e]
    exact hR
   | succ m ih =>
    intro q j2 hq1 hq2 hq3 R hR
    refine Ev.succ ?_
    simp only [spec_l20Ends.l1, show (j2 : Int) < (s.1.length : Int) by omega, show (0 : Int) ≤ (j2 : Int) by omega, show (0 : Int) ≤ (q : Int) by omega, show (q : Int) < (s.1.length : Int) by omega, if_true, rd_nat, w64 (x := (j2 : Int) + 1) (by omega) (by omega)]
    unfold am at hq3
    by_cases hlt : s.1.getD j2 0 < s.1.getD q 0
    ·
     rw [if_pos hlt] at hq3
     simp only [if_pos hlt]
     exact ih j2 (j2 + 1) (by omega) (by omega) hq3 R hR
    ·
     rw [if_neg hlt] at hq3
     simp only [if_neg hlt]
     exact ih q (j2 + 1) (by omega) (by omega) hq3 R hR
  exact key (s.1.length - 1) 0 1 (by omega) (by omega) rfl _ hr2) (fun hI => Ev.succ (by
  simp only [spec_l20Ends.l0, show ¬ (ord.length : Int) < (ord.length : Int) by omega, if_false]
  exact Ev.now _))
 exact key
theorem specHeat_ev (l : List S43) (es : List Int) (hl : l.length ≤ 1000) (hn : es.length = l.length) : Ev (fun k => spec_l20Heat.f k l es) (gHeat l es) := by
 unfold spec_l20Heat.f gHeat
 have key := ev_fold (fun k (s : Int) i => spec_l20Heat.l0 k l es s i) (List.range l.length) 0 (fun s i => wrap64 (s + wrap64 ((rdP l i).f2 * es.getD i 0))) (fun _ _ => True) ((List.range l.length).foldl (fun s i => wrap64 (s + wrap64 ((rdP l i).f2 * es.getD i 0))) 0) 0 trivial (fun i s hi hI => by
  rw [List.length_range] at hi
  refine ⟨trivial, fun hr2 => Ev.succ ?_⟩
  rw [getD_rangeP hi] at hr2
  simp only [spec_l20Heat.l0, show (i : Int) < (es.length : Int) by omega, show (0 : Int) ≤ (i : Int) by omega, show (i : Int) < (l.length : Int) by omega, if_true, rd_nat, rdP_eq, w64 (x := (i : Int) + 1) (by omega) (by omega)]
  exact hr2) (fun hI => Ev.succ (by
  rw [List.length_range]
  simp only [spec_l20Heat.l0, show ¬ (l.length : Int) < (l.length : Int) by omega, if_false]
  exact Ev.now _))
 exact key
theorem own_eq (o : List Int) (h : o.length ≤ 1000) : spec_l00Own.f o = some o := by
 unfold spec_l00Own.f
 simp only [Option.bind_some, List.length_nil, show 0 + o.length < 17592186044416 by omega, if_true, List.nil_append]
theorem specSrch_ev (l : List S43) (g : Nat) (nb : Int) (hl : l.length ≤ 8) (hg : 0 < g ∧ g ≤ 3) (hnb : nb ≤ 1000000) : ∀ (m : Nat) (ord : List Int) (st : Int × Bool × List Int × Int), ord.length + m = l.length → (∀ x ∈ ord, 0 ≤ x ∧ x < (l.length : Int)) → 0 ≤ st.1 ∧ st.1 ≤ nb →
  Ev (fun k => srS k l (g : Int) nb none st.1 st.2.1 st.2.2.1 st.2.2.2 ord) (srch (hOf l g) l.length nb m ord st) := by
 intro m
 induction m with
 | zero =>
  intro ord st ho hr hb
  refine Ev.succ ?_
  simp only [srS, if_pos (show ord.length = l.length by omega)]
  refine Ev.bind (specEnds_ev l ord g (by omega) (by omega) (by omega) hr) ?_
  refine Ev.bind (specHeat_ev l _ (by omega) (gEnds_len l ord g)) ?_
  unfold srch
  show Ev (fun k => if st.2.2.2 < 0 ∨ hOf l g ord < st.2.2.2 then _ else _) _
  by_cases hc : st.2.2.2 < 0 ∨ hOf l g ord < st.2.2.2
  ·
   simp only [if_pos hc, own_eq ord (by omega), Option.bind_some]
   exact Ev.now _
  ·
   simp only [if_neg hc]
   exact Ev.now _
 | succ m ih =>
  intro ord st ho hr hb
  refine Ev.succ ?_
  simp only [srS, if_neg (show ¬ ord.length = l.length by omega)]
  unfold srch
  have key : ∀ (d i : Nat) (st : Int × Bool × List Int × Int), i + d = l.length → 0 ≤ st.1 ∧ st.1 ≤ nb → Ev (fun k => srS k l (g : Int) nb (some i) st.1 st.2.1 st.2.2.1 st.2.2.2 ord) ((List.range' i d).foldl (stp (fun o s => srch (hOf l g) l.length nb m o s) nb ord) st) := by
   intro d
   induction d with
   | zero =>
    intro i st hi hb
    refine Ev.succ ?_
    simp only [srS, if_neg (show ¬ i < l.length by omega)]
    exact Ev.now _
   | succ d ihd =>
    intro i st hi hb
    rw [List.range'_succ, List.foldl_cons]
    refine Ev.succ ?_
    simp only [srS, if_pos (show i < l.length by omega)]
    by_cases hf : st.2.1 = true
    ·
     have e : stp (fun o s => srch (hOf l g) l.length nb m o s) nb ord st i = st := by unfold stp; rw [if_pos hf]
     rw [e, stp_full hf]
     simp only [if_pos hf]
     exact Ev.now _
    ·
     simp only [if_neg hf]
     refine Ev.bind (has_ev ord (i : Int) (by omega)) ?_
     by_cases hin : (i : Int) ∈ ord
     ·
      have e : stp (fun o s => srch (hOf l g) l.length nb m o s) nb ord st i = st := by unfold stp; rw [if_neg hf, if_pos hin]
      rw [e]
      simp only [decide_eq_true hin, if_true]
      exact ihd (i + 1) st (by omega) hb
     ·
      simp only [decide_eq_false hin, Bool.false_eq_true, if_false]
      by_cases hz : st.1 = nb
      ·
       have e : stp (fun o s => srch (hOf l g) l.length nb m o s) nb ord st i = (st.1, true, st.2.2) := by unfold stp; rw [if_neg hf, if_neg hin, if_pos hz]
       rw [e, stp_full rfl]
       simp only [if_pos hz]
       exact Ev.now _
      ·
       have e : stp (fun o s => srch (hOf l g) l.length nb m o s) nb ord st i = srch (hOf l g) l.length nb m (ord ++ [(i : Int)]) (st.1 + 1, st.2) := by unfold stp; rw [if_neg hf, if_neg hin, if_neg hz]
       rw [e]
       simp only [if_neg hz, if_pos (show ord.length < 1000 by omega), w64 (x := st.1 + 1) (by omega) (by omega)]
       refine Ev.bind (ih (ord ++ [(i : Int)]) (st.1 + 1, st.2) (by rw [List.length_append, List.length_singleton]; omega) (fun x hx => ?_) (by show 0 ≤ st.1 + 1 ∧ st.1 + 1 ≤ nb; omega)) ?_
       ·
        rcases List.mem_append.1 hx with h | h
        ·
         exact hr x h
        ·
         rw [List.mem_singleton.1 h]; omega
       ·
        exact ihd (i + 1) _ (by omega) (srch_bd _ _ _ _ _ _ (by show 0 ≤ st.1 + 1 ∧ st.1 + 1 ≤ nb; omega))
  exact key l.length 0 st (by omega) hb
theorem implEnds_ev (l : List S43) (ord : List Int) (g : Nat) (hl : l.length ≤ 1000) (hg : 0 < g ∧ g ≤ 1000) (ho : ord.length ≤ 1000) (hr : ∀ x ∈ ord, 0 ≤ x ∧ x < (l.length : Int)) : Ev (fun k => impl_gangEnds.f k l ord (g : Int)) (gEnds l ord g) := by
 unfold impl_gangEnds.f gEnds
 simp only [show (0 : Int) ≤ (g : Int) by omega, show g ≤ 35184372088832 by omega, show (0 : Int) ≤ (l.length : Int) by omega, show l.length ≤ 35184372088832 by omega, if_true, Int.toNat_natCast]
 have key := ev_fold (fun k s i => impl_gangEnds.l0 k l s.1 s.2.1 s.2.2 ord (ord.length : Int) i) ord 0 (gst l) (fun _ s => s.1.length = g ∧ s.2.1.length = l.length) (ord.foldl (gst l) (List.replicate g 0, List.replicate l.length 0, 0)).2.1 (List.replicate g 0, List.replicate l.length 0, 0) ⟨List.length_replicate .., List.length_replicate ..⟩ (fun i s hi hI => by
  obtain ⟨h1, h2⟩ := hI
  have hg2 := gst_len l s (ord.getD i 0)
  refine ⟨⟨by omega, by omega⟩, fun hr2 => Ev.succ ?_⟩
  have hx := hr _ (getD_mem 0 hi)
  have ha := (amin_spec s.1 (by omega)).1
  obtain ⟨j, hj⟩ : ∃ j : Nat, ord.getD i 0 = (j : Int) := ⟨(ord.getD i 0).toNat, by omega⟩
  simp only [impl_gangEnds.l0, show (i : Int) < (ord.length : Int) by omega, show (0 : Int) ≤ (i : Int) by omega, if_true, rd_nat, hj]
  refine Ev.bind (minI_ev s.1 (by omega) (by omega)) ?_
  refine Ev.bind (idxI_ev s.1 (by omega) (by omega)) ?_
  rw [hj] at hx
  simp only [show (0 : Int) ≤ (amin s.1 : Int) by omega, show (amin s.1 : Int) < (s.1.length : Int) by omega, hx.1, hx.2, show (j : Int) < (s.2.1.length : Int) by omega, if_true, Option.bind_some, Int.toNat_natCast, rd_nat, rdP_eq, w64 (x := (i : Int) + 1) (by omega) (by omega)]
  have e : (s.2.1.set j (wrap64 (mx (mx s.2.2 (s.1.getD (amin s.1) 0)) (rdP l j).f3 + (rdP l j).f1))).getD j 0 = wrap64 (mx (mx s.2.2 (s.1.getD (amin s.1) 0)) (rdP l j).f3 + (rdP l j).f1) := by
   rw [List.getD_eq_getElem?_getD, List.getElem?_set_self (by omega)]
   rfl
  rw [e]
  rw [hj] at hr2
  exact hr2) (fun hI => Ev.succ (by
  simp only [impl_gangEnds.l0, show ¬ (ord.length : Int) < (ord.length : Int) by omega, if_false]
  exact Ev.now _))
 exact key
theorem implHeat_ev (l : List S43) (ord : List Int) (g : Nat) (hl : l.length ≤ 1000) (hg : 0 < g ∧ g ≤ 1000) (ho : ord.length ≤ 1000) (hr : ∀ x ∈ ord, 0 ≤ x ∧ x < (l.length : Int)) : Ev (fun k => impl_gangHeat.f k l ord (g : Int)) (hOf l g ord) := by
 unfold impl_gangHeat.f hOf gHeat
 refine Ev.bind (implEnds_ev l ord g hl hg ho hr) ?_
 have hn := gEnds_len l ord g
 generalize gEnds l ord g = es at *
 have key := ev_fold (fun k (s : Int) i => impl_gangHeat.l0 k l s es (es.length : Int) i) (List.range l.length) 0 (fun s i => wrap64 (s + wrap64 ((rdP l i).f2 * es.getD i 0))) (fun _ _ => True) ((List.range l.length).foldl (fun s i => wrap64 (s + wrap64 ((rdP l i).f2 * es.getD i 0))) 0) 0 trivial (fun i s hi hI => by
  rw [List.length_range] at hi
  refine ⟨trivial, fun hr2 => Ev.succ ?_⟩
  rw [getD_rangeP hi] at hr2
  simp only [impl_gangHeat.l0, show (i : Int) < (es.length : Int) by omega, show (0 : Int) ≤ (i : Int) by omega, show (i : Int) < (l.length : Int) by omega, if_true, rd_nat, rdP_eq, w64 (x := (i : Int) + 1) (by omega) (by omega)]
  exact hr2) (fun hI => Ev.succ (by
  rw [List.length_range]
  simp only [impl_gangHeat.l0, show ¬ (l.length : Int) < (es.length : Int) by omega, if_false]
  exact Ev.now _))
 exact key
def toI (c : Bool) (nb : Int) (st : Int × Bool × List Int × Int) : Int × List Int × Int := (if c = true then (if st.2.1 = true then -1 else nb - st.1) else 0, st.2.2.1, st.2.2.2)
theorem clone_eq (o : List Int) (h : o.length ≤ 1000) : slices_Clone_int64_int64.f o = some o := by
 unfold slices_Clone_int64_int64.f
 rw [if_pos (by omega)]
theorem implSrch_ev (l : List S43) (g : Nat) (c : Bool) (nb : Int) (hl : l.length ≤ 8) (hg : 0 < g ∧ g ≤ 3) (hnb : nb ≤ 1000000) : ∀ (m : Nat) (ord : List Int) (st : Int × Bool × List Int × Int), ord.length + m = l.length → (∀ x ∈ ord, 0 ≤ x ∧ x < (l.length : Int)) → 0 ≤ st.1 ∧ st.1 ≤ nb → st.2.1 = false →
  (c = true ∨ (cnt (List.range' 0 l.length) ord = m ∧ st.1 + NN m ≤ nb)) →
  Ev (fun k => srI k l (g : Int) c none (toI c nb st).1 st.2.2.1 st.2.2.2 ord) (toI c nb (srch (hOf l g) l.length nb m ord st)) := by
 intro m
 induction m with
 | zero =>
  intro ord st ho hr hb hf hc
  refine Ev.succ ?_
  simp only [srI, if_pos (show ord.length = l.length by omega)]
  refine Ev.bind (implHeat_ev l ord g (by omega) (by omega) (by omega) hr) ?_
  unfold srch
  by_cases hc : st.2.2.2 < 0 ∨ hOf l g ord < st.2.2.2
  ·
   simp only [if_pos hc, clone_eq ord (by omega), Option.bind_some]
   exact Ev.now _
  ·
   simp only [if_neg hc]
   exact Ev.now _
 | succ m ih =>
  intro ord st ho hr hb hf hc
  have hN := NN_pos m
  refine Ev.succ ?_
  simp only [srI, if_neg (show ¬ ord.length = l.length by omega)]
  have key : ∀ (d i : Nat) (st : Int × Bool × List Int × Int), i + d = l.length → 0 ≤ st.1 ∧ st.1 ≤ nb → st.2.1 = false → (c = true ∨ (cnt (List.range' 0 l.length) ord = m + 1 ∧ st.1 + (cnt (List.range' i d) ord : Int) * (1 + NN m) ≤ nb)) →
    Ev (fun k => srI k l (g : Int) c (some i) (toI c nb st).1 st.2.2.1 st.2.2.2 ord) (toI c nb ((List.range' i d).foldl (stp (fun o s => srch (hOf l g) l.length nb m o s) nb ord) st)) := by
   intro d
   induction d with
   | zero =>
    intro i st hi hb hf hc
    refine Ev.succ ?_
    simp only [srI, if_neg (show ¬ i < l.length by omega)]
    exact Ev.now _
   | succ d ihd =>
    intro i st hi hb hf hc
    rw [List.range'_succ, List.foldl_cons]
    have hcs : cnt (List.range' i (d + 1)) ord = cnt (List.range' (i + 1) d) ord + if ¬ (i : Int) ∈ ord then 1 else 0 := by
     unfold cnt
     rw [List.range'_succ, List.countP_cons]
     simp
    rw [hcs] at hc
    refine Ev.succ ?_
    simp only [srI, if_pos (show i < l.length by omega)]
    refine Ev.bind (cont_ev ord (i : Int) (by omega)) ?_
    by_cases hin : (i : Int) ∈ ord
    ·
     have e : stp (fun o s => srch (hOf l g) l.length nb m o s) nb ord st i = st := by unfold stp; rw [if_neg (by rw [hf]; decide), if_pos hin]
     rw [e]
     rw [if_neg (fun h => h hin)] at hc
     simp only [decide_eq_true hin, if_true]
     exact ihd (i + 1) st (by omega) hb hf hc
    ·
     rw [if_pos hin] at hc
     simp only [decide_eq_false hin, Bool.false_eq_true, if_false]
     have hrx : ∀ x ∈ ord ++ [(i : Int)], 0 ≤ x ∧ x < (l.length : Int) := fun x hx => by
      rcases List.mem_append.1 hx with h | h
      ·
       exact hr x h
      ·
       rw [List.mem_singleton.1 h]; omega
     have hox : (ord ++ [(i : Int)]).length + m = l.length := by rw [List.length_append, List.length_singleton]; omega
     cases c with
     | true =>
      have e0 : (toI true nb st).1 = nb - st.1 := by unfold toI; rw [if_pos rfl, if_neg (by rw [hf]; decide)]
      simp only [e0, w64 (x := nb - st.1 - 1) (by omega) (by omega)]
      by_cases hz : st.1 = nb
      ·
       have e : stp (fun o s => srch (hOf l g) l.length nb m o s) nb ord st i = (st.1, true, st.2.2) := by unfold stp; rw [if_neg (by rw [hf]; decide), if_neg hin, if_pos hz]
       rw [e, stp_full rfl]
       simp only [show nb - st.1 - 1 < 0 by omega, and_self, if_true]
       refine Ev.now' ?_
       unfold toI
       simp only [if_true]
       rw [show nb - st.1 - 1 = -1 by omega]
      ·
       have e : stp (fun o s => srch (hOf l g) l.length nb m o s) nb ord st i = srch (hOf l g) l.length nb m (ord ++ [(i : Int)]) (st.1 + 1, st.2) := by unfold stp; rw [if_neg (by rw [hf]; decide), if_neg hin, if_neg hz]
       rw [e]
       simp only [show ¬ nb - st.1 - 1 < 0 by omega, and_false, if_false, if_true, if_pos (show ord.length < 1000 by omega)]
       have h1 := ih (ord ++ [(i : Int)]) (st.1 + 1, st.2) hox hrx (by show 0 ≤ st.1 + 1 ∧ st.1 + 1 ≤ nb; omega) hf (.inl rfl)
       have e1 : (toI true nb (st.1 + 1, st.2)).1 = nb - st.1 - 1 := by
        unfold toI
        show (if true = true then (if st.2.1 = true then -1 else nb - (st.1 + 1)) else 0) = _
        rw [if_pos rfl, if_neg (by rw [hf]; decide)]
        omega
       rw [e1] at h1
       refine Ev.bind h1 ?_
       have hbd := srch_bd (hOf l g) l.length nb m (ord ++ [(i : Int)]) (st.1 + 1, st.2) (by show 0 ≤ st.1 + 1 ∧ st.1 + 1 ≤ nb; omega)
       generalize srch (hOf l g) l.length nb m (ord ++ [(i : Int)]) (st.1 + 1, st.2) = s2 at *
       cases hf2 : s2.2.1 with
       | true =>
        rw [stp_full hf2]
        have e2 : (toI true nb s2).1 = -1 := by unfold toI; rw [if_pos rfl, if_pos hf2]
        simp only [e2, show (-1 : Int) < 0 by decide, if_true]
        exact Ev.now _
       | false =>
        have e2 : (toI true nb s2).1 = nb - s2.1 := by unfold toI; rw [if_pos rfl, if_neg (by rw [hf2]; decide)]
        simp only [if_neg (show ¬ (toI true nb s2).1 < 0 by rw [e2]; omega)]
        exact ihd (i + 1) s2 (by omega) hbd hf2 (.inl rfl)
     | false =>
      obtain ⟨hc1, hc2⟩ := hc.resolve_left (by decide)
      have ec : ((cnt (List.range' (i + 1) d) ord + 1 : Nat) : Int) * (1 + NN m) = (cnt (List.range' (i + 1) d) ord : Int) * (1 + NN m) + (1 + NN m) := by
       rw [Int.natCast_add, Int.add_mul, Int.natCast_one, Int.one_mul]
      have hc0 : 0 ≤ (cnt (List.range' (i + 1) d) ord : Int) * (1 + NN m) := Int.mul_nonneg (by omega) (by omega)
      rw [ec] at hc2
      have e0 : ∀ s, (toI false nb s).1 = 0 := fun s => by unfold toI; rw [if_neg (by decide)]
      have e : stp (fun o s => srch (hOf l g) l.length nb m o s) nb ord st i = srch (hOf l g) l.length nb m (ord ++ [(i : Int)]) (st.1 + 1, st.2) := by unfold stp; rw [if_neg (by rw [hf]; decide), if_neg hin, if_neg (by omega)]
      rw [e]
      have hcn := cnt_snoc ord i hin (List.range' 0 l.length) List.nodup_range' (by rw [List.mem_range']; exact ⟨i, by omega, by omega⟩)
      have hfr : st.1 + 1 + NN m ≤ nb := by omega
      have h1 := ih (ord ++ [(i : Int)]) (st.1 + 1, st.2) hox hrx (by show 0 ≤ st.1 + 1 ∧ st.1 + 1 ≤ nb; omega) hf (.inr ⟨by omega, hfr⟩)
      rw [e0] at h1
      simp only [e0, Bool.false_eq_true, false_and, if_false, if_pos (show ord.length < 1000 by omega)]
      refine Ev.bind h1 ?_
      obtain ⟨q1, q2⟩ := srch_free (hOf l g) l.length nb m (ord ++ [(i : Int)]) (st.1 + 1, st.2) hf (by omega) hfr
      have q2' : (srch (hOf l g) l.length nb m (ord ++ [(i : Int)]) (st.1 + 1, st.2)).1 ≤ st.1 + 1 + NN m := q2
      have hbd := srch_bd (hOf l g) l.length nb m (ord ++ [(i : Int)]) (st.1 + 1, st.2) (by show 0 ≤ st.1 + 1 ∧ st.1 + 1 ≤ nb; omega)
      generalize srch (hOf l g) l.length nb m (ord ++ [(i : Int)]) (st.1 + 1, st.2) = s2 at *
      simp only [e0, Int.lt_irrefl, if_false]
      have h2 := ihd (i + 1) s2 (by omega) hbd q1 (.inr ⟨hc1, by omega⟩)
      rw [e0] at h2
      exact h2
  have h := key l.length 0 st (by omega) hb hf (hc.imp_right fun ⟨a, b⟩ => ⟨a, by rw [a]; exact b⟩)
  exact h
def fin (l : List S43) : Int × Bool × List Int × Int := srch (hOf l 1) l.length 1000000 l.length [] (0, false, [], -1)
def res (l : List S43) : List Int × Int × Int := if repsOk l = true then ((fin l).2.2.1, (fin l).2.2.2, 0) else ([], 0, 1)
theorem spec_ev (l : List S43) (h1 : l.length ≤ 1048576) : Ev (fun k => spec_BestOrder.f k l) (res l) := by
 unfold spec_BestOrder.f res
 refine Ev.bind (specReps_ev l (by omega)) ?_
 cases hu : repsOk l with
 | false => exact Ev.now _
 | true =>
  simp only [if_true]
  have hl := (repsOk_facts hu).1
  have h := specSrch_ev l 1 1000000 hl (by omega) (by omega) l.length [] (0, false, [], -1) (by simp) (fun x hx => by cases hx) (by show (0 : Int) ≤ 0 ∧ (0 : Int) ≤ 1000000; omega)
  refine Ev.bind h ?_
  exact Ev.now _
theorem NN_le : ∀ m : Fin 9, NN m.val ≤ 1000000 := by decide
theorem cnt_nil (n : Nat) : cnt (List.range' 0 n) [] = n := by
 unfold cnt
 have : ∀ L : List Nat, L.countP (fun i : Nat => decide (¬ (i : Int) ∈ ([] : List Int))) = L.length := by
  intro L
  rw [List.countP_eq_length]
  intro a _
  simp
 rw [this, List.length_range']
theorem impl_ev (l : List S43) (h1 : l.length ≤ 1048576) : Ev (fun k => impl_BestOrder.f k l) (res l) := by
 unfold impl_BestOrder.f res
 refine Ev.bind (implReps_ev l (by omega)) ?_
 cases hu : repsOk l with
 | false => exact Ev.now _
 | true =>
  simp only [if_true]
  have hl := (repsOk_facts hu).1
  have hN := NN_le ⟨l.length, by omega⟩
  have h := implSrch_ev l 1 false 1000000 hl (by omega) (by omega) l.length [] (0, false, [], -1) (by simp) (fun x hx => by cases hx) (by show (0 : Int) ≤ 0 ∧ (0 : Int) ≤ 1000000; omega) rfl (.inr ⟨cnt_nil _, by show 0 + NN l.length ≤ 1000000; rw [Int.zero_add]; exact hN⟩)
  refine Ev.bind h ?_
  exact Ev.now _
theorem core : ∀ (l0 : List (S43)) (o0 : okRepairS l0), ∃ (r1 : List Int) (r2 : Int) (r3 : Int), Ev (fun k => spec_BestOrder.f k l0) (r1, r2, r3) ∧ Ev (fun k => impl_BestOrder.f k l0) (r1, r2, r3) ∧ okInt64S r1 := by
 intro l0 o0
 refine ⟨(res l0).1, (res l0).2.1, (res l0).2.2, spec_ev l0 o0.1, impl_ev l0 o0.1, ?_⟩
 unfold res okInt64S
 cases hu : repsOk l0 with
 | false => simp
 | true =>
  have hl := (repsOk_facts hu).1
  have h := srch_len (hOf l0 1) l0.length 1000000 l0.length [] (0, false, [], -1) (by simp) (by simp)
  have h2 : (fin l0).2.2.1.length ≤ l0.length := h
  simp only [if_true]
  show (fin l0).2.2.1.length ≤ 1048576
  omega
end Go.Proofs.Ytffmkjnjopflnaa.Pure
