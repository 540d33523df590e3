/- The program's UndoVersion returns what the reference's returns, for all arguments. No condition beyond the statement's own; the card ties three variables of Go's library to the program's text (they are not read: the numbers that are written have one or two digits). -/
import Derived.Test.YtenjhbkpcelidaaDoorPFnExactUndoVersionx0
import Derived.Test.YtenjhbkpcelidaaDoorPFnExactUndoVersionx1
import Derived.Test.YtenjhbkpcelidaaDoorPFnExactUndoVersionx2
import Derived.Test.YtenjhbkpcelidaaDoorPFnExactUndoVersionx3
import Derived.Test.YtenjhbkpcelidaaDoorPFnExactUndoVersionx4
import Derived.Test.YtenjhbkpcelidaaDoorPFnExactUndoVersionx5
import Derived.Test.YtenjhbkpcelidaaDoorPFnExactUndoVersionx6
import Derived.Test.YtenjhbkpcelidaaDoorPFnExactUndoVersionx7
import Derived.Test.YtenjhbkpcelidaaDoorPFnExactUndoVersionx8
import Derived.Test.YtenjhbkpcelidaaDoorPFnExactUndoVersionx9
import Derived.Test.YtenjhbkpcelidaaDoorPFnExactUndoVersionx10
import Derived.Test.YtenjhbkpcelidaaDoorPFnExactUndoVersionx11
namespace Go.Proofs.YtenjhbkpcelidaaDoor.Pure
open Go.RowKit Go.Proofs.YtenjhbkpcelidaaDoor.PFnExactUndoVersion Go.Proofs.YtenjhbkpcelidaaDoorW.PrintWords Go.Proofs.YtenjhbkpcelidaaDoorW.PrintLast Go.Proofs.YtenjhbkpcelidaaDoorW.PrintMore
set_option linter.unusedVariables false
set_option linter.unusedSimpArgs false
def smallC (c : Int) : Bool := decide (97 ≤ c) && decide (c ≤ 122)
def digitC (c : Int) : Bool := decide (48 ≤ c) && decide (c ≤ 57)
def nameC (c : Int) : Bool := smallC c || digitC c
def nameOk (b : ByteArray) : Bool := decide (1 ≤ b.size) && (decide (b.size ≤ 10) && (smallC (bt b 0) && (List.range b.size).all fun i => nameC (bt b i)))
theorem w64 {x : Int} (h0 : -9223372036854775808 ≤ x) (h1 : x ≤ 9223372036854775807) : wrap64 x = x := by unfold wrap64; omega
theorem getD_mem {α : Type} {l : List α} {i : Nat} (d : α) (h : i < l.length) : l.getD i d ∈ l := by
 rw [List.getD_eq_getElem?_getD, List.getElem?_eq_getElem h]; exact List.getElem_mem _
theorem getD_lt {α : Type} {l : List α} {i : Nat} (d : α) (h : i < l.length) : l.getD i d = l[i] := by
 rw [List.getD_eq_getElem?_getD, List.getElem?_eq_getElem h]; rfl
theorem take_succ_getD {α : Type} (l : List α) (d : α) {i : Nat} (h : i < l.length) : l.take (i + 1) = l.take i ++ [l.getD i d] := by
 rw [List.take_succ_eq_append_getElem h, getD_lt d h]
theorem ev_eq {α : Type} (L : Nat → List α → List α → Int → Option Bool) (xs : List α) 
  (step : ∀ i, i < xs.length → Ev (fun k => L k xs xs ((i + 1 : Nat) : Int)) true → Ev (fun k => L k xs xs (i : Int)) true)
  (fin : Ev (fun k => L k xs xs (xs.length : Int)) true) : Ev (fun k => L k xs xs 0) true := by
 have key : ∀ (m i : Nat), i + m = xs.length → Ev (fun k => L k xs xs (i : Int)) true := by
  intro m
  induction m with
  | zero =>
   intro i hi
   have : i = xs.length := by omega
   subst this
   exact fin
  | succ m ih => intro i hi; exact step i (by omega) (ih (i + 1) (by omega))
 exact key xs.length 0 (by omega)
theorem ev_all {α ρ : Type} (L : Nat → Int → Option ρ) (xs : List α) (d : α) (p : α → Bool) (b c : ρ)
  (step : ∀ i, i < xs.length → p (xs.getD i d) = true → ∀ r, Ev (fun k => L k ((i + 1 : Nat) : Int)) r → Ev (fun k => L k (i : Int)) r)
  (bad : ∀ i, i < xs.length → p (xs.getD i d) = false → Ev (fun k => L k (i : Int)) b)
  (fin : Ev (fun k => L k (xs.length : Int)) c) : Ev (fun k => L k 0) (if xs.all p = true then c else b) := by
 have key : ∀ (m i : Nat), i + m = xs.length → Ev (fun k => L k (i : Int)) (if (xs.drop i).all p = true then c else b) := by
  intro m
  induction m with
  | zero =>
   intro i hi
   have : i = xs.length := by omega
   subst this
   rw [List.drop_length]
   exact fin
  | succ m ih =>
   intro i hi
   have hlt : i < xs.length := by omega
   rw [List.drop_eq_getElem_cons hlt, List.all_cons, ← getD_lt d hlt]
   cases hp : p (xs.getD i d) with
   | true => rw [Bool.true_and]; exact step i hlt hp _ (ih (i + 1) (by omega))
   | false => rw [Bool.false_and, if_neg (by decide)]; exact bad i hlt hp
 exact key xs.length 0 (by omega)
theorem ev_sz {α : Type} (L : Nat → Int → Int → Option Int) (xs : List α) (d : α) (B : α → Prop)
  (step : ∀ i a, i < xs.length → 0 ≤ a → a ≤ 1048576 → Ev (fun k => L k a (i : Int)) (-1) ∨ (∃ a', 0 ≤ a' ∧ a' ≤ a ∧ B (xs.getD i d) ∧ ∀ r, Ev (fun k => L k a' ((i + 1 : Nat) : Int)) r → Ev (fun k => L k a (i : Int)) r))
  (fin : ∀ a, Ev (fun k => L k a (xs.length : Int)) a) : ∀ a, 0 ≤ a → a ≤ 1048576 → ∃ r, Ev (fun k => L k a 0) r ∧ (r < 0 ∨ (0 ≤ r ∧ r ≤ a ∧ ∀ x ∈ xs, B x)) := by
 have key : ∀ (m i : Nat) (a : Int), i + m = xs.length → 0 ≤ a → a ≤ 1048576 → ∃ r, Ev (fun k => L k a (i : Int)) r ∧ (r < 0 ∨ (0 ≤ r ∧ r ≤ a ∧ ∀ j, i ≤ j → j < xs.length → B (xs.getD j d))) := by
  intro m
  induction m with
  | zero =>
   intro i a hi h0 h1
   have : i = xs.length := by omega
   subst this
   exact ⟨a, fin a, .inr ⟨h0, Int.le_refl _, fun j h2 h3 => by omega⟩⟩
  | succ m ih =>
   intro i a hi h0 h1
   rcases step i a (by omega) h0 h1 with h | ⟨a', h2, h3, hB, h⟩
   ·
    exact ⟨-1, h, .inl (by decide)⟩
   ·
    obtain ⟨r, hr, hq⟩ := ih (i + 1) a' (by omega) h2 (by omega)
    refine ⟨r, h r hr, ?_⟩
    rcases hq with hq | ⟨q0, q1, q2⟩
    ·
     exact .inl hq
    ·
     refine .inr ⟨q0, by omega, fun j h4 h5 => ?_⟩
     by_cases e : j = i
     ·
      subst e; exact hB
     ·
      exact q2 j (by omega) h5
 intro a h0 h1
 obtain ⟨r, hr, hq⟩ := key xs.length 0 a (by omega) h0 h1
 refine ⟨r, hr, hq.imp_right fun ⟨q0, q1, q2⟩ => ⟨q0, q1, fun x hx => ?_⟩⟩
 obtain ⟨j, hj, rfl⟩ := List.mem_iff_getElem.1 hx
 rw [← getD_lt d hj]
 exact q2 j (Nat.zero_le _) hj
theorem Ev.succ {α : Type} {g : Nat → Option α} {r : α} (h : Ev (fun k => g (k + 1)) r) : Ev g r := Ev.step (fun _ => rfl) h
theorem Ev.now' {α : Type} {a b : α} (h : a = b) : Ev (fun _ => some a) b := h ▸ Ev.now a
theorem lit_i64 {x : Int} (h : (Lit.int .i64 x).wf = true) : -9223372036854775808 ≤ x ∧ x ≤ 9223372036854775807 := by
 have h2 : (decide (IntKind.i64.min ≤ x) && decide (x ≤ IntKind.i64.max)) = true := h
 simp only [Bool.and_eq_true, decide_eq_true_eq] at h2
 exact h2
def memoOk (b : ByteArray) : Bool := decide (b.size ≤ 20) && (List.range b.size).all fun i : Nat => decide (32 ≤ bt b (i : Int)) && decide (bt b (i : Int) ≤ 126)
theorem specMemo_ev (b : ByteArray) (hb : b.size ≤ 1048576) : Ev (fun k => spec_l27Memo.f k b) (memoOk b) := by
 unfold spec_l27Memo.f
 have key := ev_all (fun k i => spec_l27Memo.l0 k b i) (List.range b.size) 0 (fun i : Nat => decide (32 ≤ bt b (i : Int)) && decide (bt b (i : Int) ≤ 126)) false (decide (b.size ≤ 20)) (fun i hi hp s hs => ?_) (fun i hi hp => ?_) ?_
 ·
  unfold memoOk
  revert key
  cases (List.range b.size).all (fun i : Nat => decide (32 ≤ bt b (i : Int)) && decide (bt b (i : Int) ≤ 126)) with
  | true => rw [Bool.and_true]; exact id
  | false => rw [Bool.and_false]; exact id
 ·
  rw [List.length_range] at hi
  rw [getD_lt 0 (by simpa using hi), List.getElem_range, Bool.and_eq_true, decide_eq_true_eq, decide_eq_true_eq] at hp
  refine Ev.succ ?_
  simp (disch := omega) only [spec_l27Memo.l0, if_pos, if_neg, w64]
  exact hs
 ·
  rw [List.length_range] at hi
  rw [getD_lt 0 (by simpa using hi), List.getElem_range, Bool.and_eq_false_iff, decide_eq_false_iff_not, decide_eq_false_iff_not] at hp
  refine Ev.succ ?_
  by_cases c : bt b (i : Int) < 32
  ·
   simp (disch := omega) only [spec_l27Memo.l0, if_pos]; exact Ev.now _
  ·
   simp (disch := omega) only [spec_l27Memo.l0, if_pos, if_neg]; exact Ev.now _
 ·
  refine Ev.succ ?_
  simp only [spec_l27Memo.l0, List.length_range, Int.lt_irrefl, if_false]
  exact Ev.now' (by rw [decide_eq_decide]; omega)
theorem implMemo_ev (b : ByteArray) (hb : b.size ≤ 1048576) : Ev (fun k => impl_memoValid.f k b) (memoOk b) := by
 unfold impl_memoValid.f memoOk
 by_cases hn : b.size ≤ 20
 ·
  rw [decide_eq_true hn, Bool.true_and]
  simp only [show ((b.size : Nat) : Int) ≤ 20 by omega, if_true]
  have key := ev_all (fun k i => impl_bytesWithin.l0 k b 32 126 (b.size : Int) i) (List.range b.size) 0 (fun i : Nat => decide (32 ≤ bt b (i : Int)) && decide (bt b (i : Int) ≤ 126)) false true (fun i hi hp s hs => ?_) (fun i hi hp => ?_) ?_
  ·
   have hk : Ev (fun k => impl_bytesWithin.f k b 32 126) ((List.range b.size).all (fun i : Nat => decide (32 ≤ bt b (i : Int)) && decide (bt b (i : Int) ≤ 126))) := by
    unfold impl_bytesWithin.f
    revert key
    cases (List.range b.size).all (fun i : Nat => decide (32 ≤ bt b (i : Int)) && decide (bt b (i : Int) ≤ 126)) <;> exact id
   exact Ev.bind hk (Ev.now _)
  ·
   rw [List.length_range] at hi
   rw [getD_lt 0 (by simpa using hi), List.getElem_range, Bool.and_eq_true, decide_eq_true_eq, decide_eq_true_eq] at hp
   refine Ev.succ ?_
   simp (disch := omega) only [impl_bytesWithin.l0, if_pos, if_neg, w64]
   exact hs
  ·
   rw [List.length_range] at hi
   rw [getD_lt 0 (by simpa using hi), List.getElem_range, Bool.and_eq_false_iff, decide_eq_false_iff_not, decide_eq_false_iff_not] at hp
   refine Ev.succ ?_
   by_cases c : bt b (i : Int) < 32
   ·
    simp (disch := omega) only [impl_bytesWithin.l0, if_pos]; exact Ev.now _
   ·
    simp (disch := omega) only [impl_bytesWithin.l0, if_pos, if_neg]; exact Ev.now _
  ·
   refine Ev.succ ?_
   simp only [impl_bytesWithin.l0, List.length_range, Int.lt_irrefl, if_false]
   exact Ev.now _
 ·
  rw [decide_eq_false hn, Bool.false_and]
  simp only [show ¬ ((b.size : Nat) : Int) ≤ 20 by omega, if_false]
  exact Ev.now _
def inR (lo hi x : Int) : Bool := decide (lo ≤ x) && decide (x ≤ hi)
theorem bytesLess_iff : ∀ (a b : List UInt8), Op.bytesLess a b = true ↔ a < b
 | [], [] => by simp [Op.bytesLess]
 | [], y :: ys => by simp [Op.bytesLess]
 | x :: xs, [] => by simp [Op.bytesLess]
 | x :: xs, y :: ys => by
  have ih := bytesLess_iff xs ys
  simp only [Op.bytesLess, List.cons_lt_cons_iff]
  by_cases h : x = y
  ·
   subst h
   simp [ih]
  ·
   simp [h]
theorem bltB (a b : ByteArray) : (Op.bytesLess a.toList b.toList = true) ↔ a.data.toList < b.data.toList := by
 rw [bytesLess_iff, ByteArray.toList_eq, ByteArray.toList_eq]
def settOk (x : S59) : Bool := nameOk x.f0 && inR 0 1000 x.f1
def settAt (l : List S59) (i : Nat) : Bool := settOk (l.getD i z59) && (decide (i = 0) || decide ((l.getD (i - 1) z59).f0.data.toList < (l.getD i z59).f0.data.toList))
def stateOk (l : List S59) : Bool := decide (l.length ≤ 24) && (List.range l.length).all (settAt l)
theorem rdSt (l : List S59) (i : Nat) : rd_T59 l (i : Int) = l.getD i z59 := by unfold rd_T59; rw [Int.toNat_natCast]
theorem rdSts (l : List S59) (i : Nat) (h : 0 < i) : rd_T59 l ((i : Int) - 1) = l.getD (i - 1) z59 := by
 unfold rd_T59
 congr 1
 omega
def verAt (l : List S42) (i : Nat) : Bool := decide ((l.getD i z42).f0 = (i : Int) + 1) && (inR 0 (i : Int) (l.getD i z42).f1 && (memoOk (l.getD i z42).f2 && stateOk (l.getD i z42).f3))
def histOk (l : List S42) : Bool := decide (l.length ≤ 32) && (List.range l.length).all (verAt l)
theorem rdV (l : List S42) (i : Nat) : rd_T42 l (i : Int) = l.getD i z42 := by unfold rd_T42; rw [Int.toNat_natCast]
theorem histOk_facts {l : List S42} (h : histOk l = true) : l.length ≤ 32 ∧ ∀ i, i < l.length → (l.getD i z42).f0 = (i : Int) + 1 ∧ 0 ≤ (l.getD i z42).f1 ∧ (l.getD i z42).f1 ≤ i ∧ memoOk (l.getD i z42).f2 = true ∧ stateOk (l.getD i z42).f3 = true := by
 unfold histOk at h
 rw [Bool.and_eq_true, decide_eq_true_eq, List.all_eq_true] at h
 refine ⟨h.1, fun i hi => ?_⟩
 have := h.2 i (List.mem_range.2 hi)
 unfold verAt inR at this
 simp only [Bool.and_eq_true, decide_eq_true_eq] at this
 obtain ⟨a, ⟨b, c⟩, d, e⟩ := this
 exact ⟨a, b, c, d, e⟩
theorem specIn_eq (a lo hi : Int) : spec_l00In.f a lo hi = some (inR lo hi a) := by
 unfold spec_l00In.f inR
 by_cases h : a ≥ lo
 ·
  rw [if_pos h, decide_eq_true (show lo ≤ a from h)]; rfl
 ·
  rw [if_neg h, decide_eq_false (show ¬ lo ≤ a from h)]; rfl
theorem specSmall_eq (c : Int) : spec_l01Small.f c = some (smallC c) := by
 unfold spec_l01Small.f smallC
 by_cases h : c ≥ 97
 ·
  rw [if_pos h, decide_eq_true (show 97 ≤ c from h)]; rfl
 ·
  rw [if_neg h, decide_eq_false (show ¬ 97 ≤ c from h)]; rfl
theorem specDigit_eq (c : Int) : spec_l01Digit.f c = some (digitC c) := by
 unfold spec_l01Digit.f digitC
 by_cases h : c ≥ 48
 ·
  rw [if_pos h, decide_eq_true (show 48 ≤ c from h)]; rfl
 ·
  rw [if_neg h, decide_eq_false (show ¬ 48 ≤ c from h)]; rfl
theorem specName_ev (b : ByteArray) : Ev (fun k => spec_l01Name.f k b) (nameOk b) := by
 unfold spec_l01Name.f nameOk
 have hz : b.toList = ([] : List UInt8) ↔ b.size = 0 := by
  rw [ByteArray.toList_eq, show b.size = b.data.toList.length from rfl]
  exact List.length_eq_zero_iff.symm
 by_cases h1 : b.size < 1
 ·
  rw [decide_eq_false (by omega), Bool.false_and]
  simp only [show b.toList = ([] : List UInt8) from hz.2 (by omega), if_true]
  exact Ev.step (f := fun _ => some false) (fun k => by simp [spec_l01Name.j0]) (Ev.now _)
 ·
  rw [decide_eq_true (show 1 ≤ b.size by omega), Bool.true_and]
  simp only [show ¬ b.toList = ([] : List UInt8) from fun e => by have := hz.1 e; omega, if_false]
  by_cases h10 : b.size > 10
  ·
   rw [decide_eq_false (show ¬ b.size ≤ 10 by omega), Bool.false_and]
   simp only [show (b.size : Int) > 10 by omega, if_true]
   exact Ev.step (f := fun _ => some false) (fun k => by simp [spec_l01Name.j0]) (Ev.now _)
  ·
   rw [decide_eq_true (show b.size ≤ 10 by omega), Bool.true_and]
   simp only [show ¬ (b.size : Int) > 10 by omega, if_false, show 0 < (b.size : Int) by omega, if_true, specSmall_eq, Option.bind_some]
   cases hs : smallC (bt b 0) with
   | false =>
    rw [Bool.false_and]
    exact Ev.step (f := fun _ => some false) (fun k => by simp [spec_l01Name.j0]) (Ev.now _)
   | true =>
    rw [Bool.true_and]
    refine Ev.step (f := fun k => spec_l01Name.l0 k b 0) (fun k => by simp [spec_l01Name.j0]) ?_
    have key := ev_all (fun k i => spec_l01Name.l0 k b i) (List.range b.size) 0 (fun i => nameC (bt b i)) false true (fun i hi hp s hs2 => ?_) (fun i hi hp => ?_) ?_
    ·
     revert key
     cases (List.range b.size).all fun i => nameC (bt b i) <;> exact id
    ·
     rw [List.length_range] at hi
     rw [getD_lt 0 (by simpa using hi), List.getElem_range] at hp
     refine Ev.step (fun k => ?_) hs2
     simp only [spec_l01Name.l0]
     rw [if_pos (by omega), if_pos (by omega), specSmall_eq, specDigit_eq]
     simp only [Option.bind_some]
     unfold nameC at hp
     cases h3 : smallC (bt b i) with
     | true => rw [if_pos rfl, w64 (by omega) (by omega)]; rfl
     | false =>
      rw [h3, Bool.false_or] at hp
      rw [hp, if_neg (by decide), if_pos rfl, w64 (by omega) (by omega)]
      rfl
    ·
     rw [List.length_range] at hi
     rw [getD_lt 0 (by simpa using hi), List.getElem_range] at hp
     refine Ev.step (f := fun _ => some false) (fun k => ?_) (Ev.now _)
     simp only [spec_l01Name.l0]
     unfold nameC at hp
     rw [Bool.or_eq_false_iff] at hp
     rw [if_pos (by omega), if_pos (by omega), specSmall_eq, specDigit_eq, hp.1, hp.2]
     rfl
    ·
     refine Ev.step (f := fun _ => some true) (fun k => ?_) (Ev.now _)
     simp only [spec_l01Name.l0]
     rw [List.length_range, if_neg (by omega)]
theorem specSett_ev (x : S59) : Ev (fun k => spec_l27Setting.f k [x]) (settOk x) := by
 unfold spec_l27Setting.f settOk
 have e : rd_T59 [x] 0 = x := rfl
 simp only [e, List.length_singleton, show (0 : Int) < ((1 : Nat) : Int) by decide, if_true, specIn_eq, Option.bind_some]
 refine Ev.bind (specName_ev x.f0) ?_
 cases nameOk x.f0 with
 | false => exact Ev.now _
 | true => exact Ev.now _
theorem specState_ev (l : List S59) (hl : l.length ≤ 1048576) : Ev (fun k => spec_l27State.f k l) (stateOk l) := by
 unfold spec_l27State.f
 have key := ev_all (fun k i => spec_l27State.l0 k l i) (List.range l.length) 0 (settAt l) false (decide (l.length ≤ 24)) (fun i hi hp s hs => ?_) (fun i hi hp => ?_) ?_
 ·
  unfold stateOk
  revert key
  cases (List.range l.length).all (settAt l) with
  | true => rw [Bool.and_true]; exact id
  | false => rw [Bool.and_false]; exact id
 ·
  rw [List.length_range] at hi
  rw [getD_lt 0 (by simpa using hi), List.getElem_range] at hp
  unfold settAt at hp
  rw [Bool.and_eq_true, Bool.or_eq_true, decide_eq_true_eq, decide_eq_true_eq] at hp
  refine Ev.succ ?_
  simp (disch := omega) only [spec_l27State.l0, if_pos, w64, rdSt]
  have h1 := specSett_ev (l.getD i z59)
  rw [hp.1] at h1
  refine Ev.bind h1 ?_
  by_cases h0 : 0 < i
  ·
   have := hp.2.resolve_left (by omega)
   simp (disch := omega) only [rdSts, if_pos, if_neg, bltB, this, if_true]
   exact hs
  ·
   simp (disch := omega) only [if_pos, if_neg]
   exact hs
 ·
  rw [List.length_range] at hi
  rw [getD_lt 0 (by simpa using hi), List.getElem_range] at hp
  unfold settAt at hp
  refine Ev.succ ?_
  simp (disch := omega) only [spec_l27State.l0, if_pos, w64, rdSt]
  refine Ev.bind (specSett_ev (l.getD i z59)) ?_
  cases ho : settOk (l.getD i z59) with
  | false => exact Ev.now _
  | true =>
   rw [ho, Bool.true_and, Bool.or_eq_false_iff, decide_eq_false_iff_not, decide_eq_false_iff_not] at hp
   simp (disch := omega) only [rdSts, if_pos, if_neg, bltB, hp.2, if_false]
   exact Ev.now _
 ·
  refine Ev.succ ?_
  simp only [spec_l27State.l0, List.length_range, Int.lt_irrefl, if_false]
  exact Ev.now' (by rw [decide_eq_decide]; omega)
theorem specHist_ev (l : List S42) (hl : l.length ≤ 1048576) (h2 : ∀ x ∈ l, x.f2.size ≤ 1048576 ∧ x.f3.length ≤ 1048576) : Ev (fun k => spec_l27Ok.f k l) (histOk l) := by
 unfold spec_l27Ok.f
 have key := ev_all (fun k i => spec_l27Ok.l0 k l i) (List.range l.length) 0 (verAt l) false (decide (l.length ≤ 32)) (fun i hi hp s hs => ?_) (fun i hi hp => ?_) ?_
 ·
  unfold histOk
  revert key
  cases (List.range l.length).all (verAt l) with
  | true => rw [Bool.and_true]; exact id
  | false => rw [Bool.and_false]; exact id
 ·
  rw [List.length_range] at hi
  rw [getD_lt 0 (by simpa using hi), List.getElem_range] at hp
  obtain ⟨m2, m3⟩ := h2 _ (getD_mem z42 hi)
  unfold verAt at hp
  simp only [Bool.and_eq_true, decide_eq_true_eq] at hp
  obtain ⟨a1, a2, a3, a4⟩ := hp
  refine Ev.succ ?_
  simp (disch := omega) only [spec_l27Ok.l0, if_pos, w64, rdV, a1, if_true, specIn_eq, Option.bind_some, a2]
  have e1 := specMemo_ev _ m2
  rw [a3] at e1
  have e2 := specState_ev _ m3
  rw [a4] at e2
  refine Ev.bind e1 ?_
  simp only [if_true]
  refine Ev.bind e2 ?_
  simp only [if_true]
  exact hs
 ·
  rw [List.length_range] at hi
  rw [getD_lt 0 (by simpa using hi), List.getElem_range] at hp
  obtain ⟨m2, m3⟩ := h2 _ (getD_mem z42 hi)
  unfold verAt at hp
  refine Ev.succ ?_
  simp (disch := omega) only [spec_l27Ok.l0, if_pos, w64, rdV, specIn_eq, Option.bind_some]
  by_cases c1 : (l.getD i z42).f0 = (i : Int) + 1
  ·
   rw [decide_eq_true c1, Bool.true_and] at hp
   simp only [c1, if_true]
   cases c2 : inR 0 (i : Int) (l.getD i z42).f1 with
   | false => exact Ev.now _
   | true =>
    rw [c2, Bool.true_and] at hp
    simp only [if_true]
    refine Ev.bind (specMemo_ev _ m2) ?_
    cases c3 : memoOk (l.getD i z42).f2 with
    | false => exact Ev.now _
    | true =>
     rw [c3, Bool.true_and] at hp
     simp only [if_true]
     have e2 := specState_ev _ m3
     rw [hp] at e2
     refine Ev.bind e2 ?_
     exact Ev.now _
  ·
   simp only [c1, if_false]
   exact Ev.now _
 ·
  refine Ev.succ ?_
  simp only [spec_l27Ok.l0, List.length_range, Int.lt_irrefl, if_false]
  exact Ev.now' (by rw [decide_eq_decide]; omega)
theorem implIn_eq (a lo hi : Int) : impl_within.f a lo hi = some (inR lo hi a) := rfl
theorem implBytes_ev (b : ByteArray) (hb : b.size ≤ 10) : Ev (fun k => impl_onlyNameBytes.f k b) ((List.range b.size).all fun i => nameC (bt b i)) := by
 unfold impl_onlyNameBytes.f
 have key := ev_all (fun k i => impl_onlyNameBytes.l0 k b b.size i) (List.range b.size) 0 (fun i => nameC (bt b i)) false true (fun i hi hp s hs2 => ?_) (fun i hi hp => ?_) ?_
 ·
  revert key
  cases (List.range b.size).all fun i => nameC (bt b i) <;> exact id
 ·
  rw [List.length_range] at hi
  rw [getD_lt 0 (by simpa using hi), List.getElem_range] at hp
  refine Ev.step (fun k => ?_) hs2
  simp only [impl_onlyNameBytes.l0]
  rw [if_pos (by omega), if_pos (by omega), if_pos (by omega), w64 (by omega) (by omega)]
  simp only [nameC, smallC, digitC, Bool.or_eq_true, Bool.and_eq_true, decide_eq_true_eq] at hp
  split
  ·
   rw [if_neg (by omega), if_neg (by omega)]; rfl
  ·
   split
   ·
    omega
   ·
    rfl
 ·
  rw [List.length_range] at hi
  rw [getD_lt 0 (by simpa using hi), List.getElem_range] at hp
  refine Ev.step (f := fun _ => some false) (fun k => ?_) (Ev.now _)
  simp only [impl_onlyNameBytes.l0]
  rw [if_pos (by omega), if_pos (by omega), if_pos (by omega)]
  simp only [nameC, smallC, digitC, Bool.or_eq_false_iff, Bool.and_eq_false_iff, decide_eq_false_iff_not] at hp
  split
  ·
   split
   ·
    rfl
   ·
    rw [if_pos (by omega)]
  ·
   split
   ·
    rw [if_neg (by omega), if_pos (by omega)]
   ·
    omega
 ·
  refine Ev.step (f := fun _ => some true) (fun k => ?_) (Ev.now _)
  simp only [impl_onlyNameBytes.l0]
  rw [List.length_range, if_neg (by omega)]
theorem implName_ev (b : ByteArray) : Ev (fun k => impl_IsName.f k b) (nameOk b) := by
 unfold impl_IsName.f nameOk
 by_cases h1 : b.size < 1
 ·
  rw [decide_eq_false (by omega), Bool.false_and]
  simp only [show (b.size : Int) < 1 by omega, if_true]
  exact Ev.now _
 ·
  rw [decide_eq_true (show 1 ≤ b.size by omega), Bool.true_and]
  simp only [show ¬ (b.size : Int) < 1 by omega, if_false]
  by_cases h10 : b.size > 10
  ·
   rw [decide_eq_false (show ¬ b.size ≤ 10 by omega), Bool.false_and]
   simp only [show (b.size : Int) > 10 by omega, if_true]
   exact Ev.now _
  ·
   rw [decide_eq_true (show b.size ≤ 10 by omega), Bool.true_and]
   simp only [show ¬ (b.size : Int) > 10 by omega, if_false, show 0 < (b.size : Int) by omega, if_true]
   unfold smallC
   by_cases g1 : bt b 0 < 97
   ·
    simp only [g1, if_true, decide_eq_false (show ¬ 97 ≤ bt b 0 by omega), Bool.false_and]
    exact Ev.now _
   ·
    simp only [g1, if_false, decide_eq_true (show 97 ≤ bt b 0 by omega), Bool.true_and]
    by_cases g2 : bt b 0 > 122
    ·
     simp only [g2, if_true, decide_eq_false (show ¬ bt b 0 ≤ 122 by omega), Bool.false_and]
     exact Ev.now _
    ·
     simp only [g2, if_false, decide_eq_true (show bt b 0 ≤ 122 by omega), Bool.true_and]
     refine Ev.bind (implBytes_ev b (by omega)) ?_
     exact Ev.now _
theorem implSett_ev (x : S59) : Ev (fun k => impl_Setting_valid.f k x.f0 x.f1) (settOk x) := by
 unfold impl_Setting_valid.f settOk
 simp only [implIn_eq, Option.bind_some]
 refine Ev.bind (implName_ev x.f0) ?_
 cases nameOk x.f0 with
 | false => exact Ev.now _
 | true => exact Ev.now _
theorem implState_ev (l : List S59) (hl : l.length ≤ 1048576) : Ev (fun k => impl_ValidState.f k l) (stateOk l) := by
 unfold impl_ValidState.f stateOk
 by_cases hn : l.length > 24
 ·
  rw [decide_eq_false (by omega), Bool.false_and]
  simp only [show (l.length : Int) > 24 by omega, if_true]
  exact Ev.now _
 rw [decide_eq_true (show l.length ≤ 24 by omega), Bool.true_and]
 simp only [show ¬ (l.length : Int) > 24 by omega, if_false]
 have key := ev_all (fun k i => impl_ValidState.l0 k l l l.length i) (List.range l.length) 0 (settAt l) false true (fun i hi hp s hs => ?_) (fun i hi hp => ?_) ?_
 ·
  revert key
  cases (List.range l.length).all (settAt l) <;> exact id
 ·
  rw [List.length_range] at hi
  rw [getD_lt 0 (by simpa using hi), List.getElem_range] at hp
  unfold settAt at hp
  rw [Bool.and_eq_true, Bool.or_eq_true, decide_eq_true_eq, decide_eq_true_eq] at hp
  refine Ev.succ ?_
  simp (disch := omega) only [impl_ValidState.l0, if_pos, w64, rdSt]
  have h1 := implSett_ev (l.getD i z59)
  rw [hp.1] at h1
  refine Ev.bind h1 ?_
  by_cases h0 : 0 < i
  ·
   have := hp.2.resolve_left (by omega)
   simp (disch := omega) only [rdSts, if_pos, if_neg, bltB, this, if_true]
   exact hs
  ·
   simp (disch := omega) only [if_pos, if_neg]
   exact hs
 ·
  rw [List.length_range] at hi
  rw [getD_lt 0 (by simpa using hi), List.getElem_range] at hp
  unfold settAt at hp
  refine Ev.succ ?_
  simp (disch := omega) only [impl_ValidState.l0, if_pos, w64, rdSt]
  refine Ev.bind (implSett_ev (l.getD i z59)) ?_
  cases ho : settOk (l.getD i z59) with
  | false => exact Ev.now _
  | true =>
   rw [ho, Bool.true_and, Bool.or_eq_false_iff, decide_eq_false_iff_not, decide_eq_false_iff_not] at hp
   simp (disch := omega) only [rdSts, if_pos, if_neg, bltB, hp.2, if_false]
   exact Ev.now _
 ·
  refine Ev.succ ?_
  simp only [impl_ValidState.l0, List.length_range, Int.lt_irrefl, if_false]
  exact Ev.now _
theorem implHist_ev (l : List S42) (hl : l.length ≤ 1048576) (h2 : ∀ x ∈ l, x.f2.size ≤ 1048576 ∧ x.f3.length ≤ 1048576) : Ev (fun k => impl_ValidHistory.f k l) (histOk l) := by
 unfold impl_ValidHistory.f histOk
 by_cases hn : l.length ≤ 32
 rotate_left
 ·
  rw [decide_eq_false hn, Bool.false_and]
  simp only [show ((l.length : Nat) : Int) > 32 by omega, if_true]
  exact Ev.now _
 rw [decide_eq_true hn, Bool.true_and]
 simp only [show ¬ ((l.length : Nat) : Int) > 32 by omega, if_false]
 have key := ev_all (fun k i => impl_ValidHistory.l0 k l (l.length : Int) i) (List.range l.length) 0 (verAt l) false true (fun i hi hp s hs => ?_) (fun i hi hp => ?_) ?_
 ·
  revert key
  cases (List.range l.length).all (verAt l) <;> exact id
 ·
  rw [List.length_range] at hi
  rw [getD_lt 0 (by simpa using hi), List.getElem_range] at hp
  obtain ⟨m2, m3⟩ := h2 _ (getD_mem z42 hi)
  unfold verAt at hp
  simp only [Bool.and_eq_true, decide_eq_true_eq] at hp
  obtain ⟨a1, a2, a3, a4⟩ := hp
  refine Ev.succ ?_
  simp (disch := omega) only [impl_ValidHistory.l0, if_pos, w64, rdV, a1, if_true, implIn_eq, Option.bind_some, a2]
  have e1 := implMemo_ev _ m2
  rw [a3] at e1
  have e2 := implState_ev _ m3
  rw [a4] at e2
  refine Ev.bind e1 ?_
  simp only [if_true]
  refine Ev.bind e2 ?_
  simp only [if_true]
  exact hs
 ·
  rw [List.length_range] at hi
  rw [getD_lt 0 (by simpa using hi), List.getElem_range] at hp
  obtain ⟨m2, m3⟩ := h2 _ (getD_mem z42 hi)
  unfold verAt at hp
  refine Ev.succ ?_
  simp (disch := omega) only [impl_ValidHistory.l0, if_pos, w64, rdV, implIn_eq, Option.bind_some]
  by_cases c1 : (l.getD i z42).f0 = (i : Int) + 1
  ·
   rw [decide_eq_true c1, Bool.true_and] at hp
   simp only [c1, if_true]
   cases c2 : inR 0 (i : Int) (l.getD i z42).f1 with
   | false => exact Ev.now _
   | true =>
    rw [c2, Bool.true_and] at hp
    simp only [if_true]
    refine Ev.bind (implMemo_ev _ m2) ?_
    cases c3 : memoOk (l.getD i z42).f2 with
    | false => exact Ev.now _
    | true =>
     rw [c3, Bool.true_and] at hp
     simp only [if_true]
     have e2 := implState_ev _ m3
     rw [hp] at e2
     refine Ev.bind e2 ?_
     exact Ev.now _
  ·
   simp only [c1, if_false]
   exact Ev.now _
 ·
  refine Ev.succ ?_
  simp only [impl_ValidHistory.l0, List.length_range, Int.lt_irrefl, if_false]
  exact Ev.now _
theorem code1_ev (l : List S42) (hl : l.length ≤ 1048576) (h2 : ∀ x ∈ l, x.f2.size ≤ 1048576 ∧ x.f3.length ≤ 1048576) (p : Int) : Ev (fun k => impl_versionsCode.f k l [p]) (if histOk l = true then (if inR 1 (l.length : Int) p = true then 0 else 3) else 1) := by
 unfold impl_versionsCode.f
 refine Ev.bind (implHist_ev l hl h2) ?_
 cases histOk l with
 | false => exact Ev.now _
 | true =>
  have e : impl_allWithin.f [p] 1 (l.length : Int) = some (inR 1 (l.length : Int) p) := by
   unfold impl_allWithin.f inB inR
   simp
  simp only [if_true, e, Option.bind_some]
  cases inR 1 (l.length : Int) p <;> exact Ev.now _
def addR (l : List S42) (p : Int) (b : ByteArray) (st : List S59) : List S42 × Int := if l.length = 32 then ([], 5) else (l ++ [⟨(l.length : Int) + 1, p, b, st⟩], 0)
theorem own_ev (l : List S42) (hl : l.length ≤ 1048576) (h2 : ∀ x ∈ l, x.f3.length ≤ 1048576) : Ev (fun k => spec_l27Own.f k l) l := by
 unfold spec_l27Own.f
 have key : ∀ (m i : Nat), i + m = l.length → Ev (fun k => spec_l27Own.l0 k l (l.take i) (i : Int)) l := by
  intro m
  induction m with
  | zero =>
   intro i hi
   refine Ev.succ ?_
   rw [List.take_of_length_le (by omega)]
   simp only [spec_l27Own.l0, show ¬ (i : Int) < (l.length : Int) by omega, if_false]
   exact Ev.now _
  | succ m ih =>
   intro i hi
   have ht : (l.take i).length = i := by rw [List.length_take]; omega
   have hx := h2 (l.getD i z42) (getD_mem _ (by omega))
   refine Ev.succ ?_
   simp only [spec_l27Own.l0, show (i : Int) < (l.length : Int) by omega, show (0 : Int) ≤ (i : Int) by omega, if_true, rdV, ht, Option.bind_some, List.length_nil, Nat.zero_add, List.nil_append]
   simp (disch := omega) only [if_pos, w64]
   have e : l.take i ++ [(⟨(l.getD i z42).f0, (l.getD i z42).f1, (l.getD i z42).f2, (l.getD i z42).f3⟩ : S42)] = l.take (i + 1) := by
    rw [getD_lt _ (by omega : i < l.length), List.take_succ_eq_append_getElem (by omega)]
   rw [e]
   exact ih (i + 1) (by omega)
 exact key l.length 0 (by omega)
theorem addS_ev (l : List S42) (hl : l.length ≤ 32) (h2 : ∀ x ∈ l, x.f3.length ≤ 1048576) (p : Int) (b : ByteArray) (st : List S59) (hst : st.length ≤ 1048576) : Ev (fun k => spec_l27Add.f k l p b st) (addR l p b st) := by
 unfold spec_l27Add.f addR
 by_cases c : l.length = 32
 ·
  simp only [c, show ((32 : Nat) : Int) = 32 from rfl, if_true]
  exact Ev.now _
 ·
  simp only [c, show ¬ (l.length : Int) = 32 by omega, if_false, Option.bind_some, List.length_nil, Nat.zero_add, List.nil_append]
  simp (disch := omega) only [if_pos, w64]
  refine Ev.bind (own_ev l (by omega) h2) ?_
  simp (disch := (simp only [List.length_singleton]; omega)) only [if_pos]
  exact Ev.now _
theorem addI_ev (l : List S42) (hl : l.length ≤ 32) (h2 : ∀ x ∈ l, x.f3.length ≤ 1048576) (p : Int) (b : ByteArray) (st : List S59) (hst : st.length ≤ 1048576) : Ev (fun k => impl_withVersion.f k l p b st) (addR l p b st) := by
 unfold impl_withVersion.f impl_Version.f addR
 by_cases c : l.length = 32
 ·
  simp only [c, show ((32 : Nat) : Int) = 32 from rfl, if_true]
  exact Ev.now _
 simp only [c, show ¬ (l.length : Int) = 32 by omega, if_false]
 simp (disch := omega) only [if_pos, Option.bind_some, w64]
 have hs : ∀ v ∈ l ++ [(⟨(l.length : Int) + 1, p, b, st⟩ : S42)], v.f3.length ≤ 1048576 := fun v hv => by
  rcases List.mem_append.1 hv with hv | hv
  ·
   exact h2 v hv
  ·
   obtain rfl := List.mem_singleton.1 hv
   exact hst
 have hlen : (l ++ [(⟨(l.length : Int) + 1, p, b, st⟩ : S42)]).length ≤ 33 := by rw [List.length_append, List.length_singleton]; omega
 generalize l ++ [(⟨(l.length : Int) + 1, p, b, st⟩ : S42)] = a at hs hlen ⊢
 have key : ∀ (m i : Nat), i + m = a.length → Ev (fun k => impl_withVersion.l0 k (a.take i) a (a.length : Int) (i : Int)) (a, 0) := by
  intro m
  induction m with
  | zero =>
   intro i hi
   refine Ev.succ ?_
   rw [List.take_of_length_le (by omega)]
   simp only [impl_withVersion.l0, show ¬ (i : Int) < (a.length : Int) by omega, if_false]
   exact Ev.now _
  | succ m ih =>
   intro i hi
   have ht : (a.take i).length = i := by rw [List.length_take]; omega
   have hx := hs (a.getD i z42) (getD_mem _ (by omega))
   have es : impl_Setting.f (a.getD i z42).f3 = some (a.getD i z42).f3 := by
    unfold impl_Setting.f
    rw [if_pos (by omega)]
   refine Ev.succ ?_
   simp only [impl_withVersion.l0, show (i : Int) < (a.length : Int) by omega, show (0 : Int) ≤ (i : Int) by omega, if_true, rdV, es, Option.bind_some, ht]
   simp (disch := omega) only [if_pos, w64]
   have e : a.take i ++ [(⟨(a.getD i z42).f0, (a.getD i z42).f1, (a.getD i z42).f2, (a.getD i z42).f3⟩ : S42)] = a.take (i + 1) := by
    rw [getD_lt _ (by omega : i < a.length), List.take_succ_eq_append_getElem (by omega)]
   rw [e]
   exact ih (i + 1) (by omega)
 exact key a.length 0 (by omega)
def stV (l : List S42) (p : Int) : List S59 := if p = 0 then [] else (l.getD (p - 1).toNat z42).f3
theorem stS_eq (l : List S42) (hl : l.length ≤ 32) (p : Int) (p0 : 0 ≤ p) (p1 : p ≤ l.length) : spec_l27StateOf.f l p = some (stV l p) := by
 unfold spec_l27StateOf.f stV
 by_cases c : p = 0
 ·
  rw [if_pos c, if_pos c]
 ·
  rw [if_neg c, if_neg c, w64 (by omega) (by omega), if_pos (by omega), if_pos (by omega)]
  rfl
theorem stI_eq (l : List S42) (hl : l.length ≤ 32) (p : Int) (p0 : 0 ≤ p) (p1 : p ≤ l.length) : impl_versionState.f l p = some (stV l p) := by
 unfold impl_versionState.f stV
 by_cases c : p = 0
 ·
  rw [if_pos c, if_pos c]
 ·
  rw [if_neg c, if_neg c, w64 (by omega) (by omega), if_pos (by omega), if_pos (by omega)]
  rfl
theorem ev_of_mono {α : Type} {g : Nat → Option α} {r : α} (hm : ∀ k, LeO (g k) (g (k + 1))) (k : Nat) (h : g k = some r) : Ev g r := by
 refine ⟨k, fun n hn => ?_⟩
 obtain ⟨d, rfl⟩ : ∃ d, n = k + d := ⟨n - k, by omega⟩
 clear hn
 induction d with
 | zero => exact h
 | succ d ih => exact hm _ _ ih
def decB (n : Nat) : ByteArray := ⟨(Lib.decDigits n).toArray⟩
theorem dec32 : ∀ m : Fin 33, 1 ≤ m.val → spec_l01Dec.f 9 (m.val : Int) = some (decB m.val) ∧ (decB m.val).size ≤ 2 := by decide +kernel
theorem decSmall_ev (n : Int) (h0 : 1 ≤ n) (h1 : n ≤ 32) : Ev (fun k => spec_l01Dec.f k n) (decB n.toNat) ∧ (decB n.toNat).size ≤ 2 := by
 have h := dec32 ⟨n.toNat, by omega⟩ (by show 1 ≤ n.toNat; omega)
 have e : ((n.toNat : Nat) : Int) = n := Int.toNat_of_nonneg (by omega)
 rw [show ((⟨n.toNat, by omega⟩ : Fin 33).val : Int) = n from e] at h
 exact ⟨ev_of_mono (fun k => spec_l01Dec.mono n k) 9 h.1, h.2⟩
theorem implDec_eq (n : Int) (h0 : 1 ≤ n) (h1 : n ≤ 32) : impl_Decimal.f n = some (decB n.toNat) := by
 unfold impl_Decimal.f decB
 rw [if_pos (by omega)]
def cvSetting (x : S63) : S59 := ⟨x.f0, x.f1⟩
def okSetting1 (x : S59) : Prop := x.f0.size ≤ 1048576 ∧ (-9223372036854775808 ≤ x.f1 ∧ x.f1 ≤ 9223372036854775807)
def okSettingS (l : List S59) : Prop := l.length ≤ 1048576 ∧ ∀ x ∈ l, okSetting1 x
def cvSettingS (l : List S63) : List S59 := l.map cvSetting
def cvVersion (x : S34) : S42 := ⟨x.f0, x.f1, x.f2, cvSettingS x.f3⟩
def okVersion1 (x : S42) : Prop := (-9223372036854775808 ≤ x.f0 ∧ x.f0 ≤ 9223372036854775807) ∧ (-9223372036854775808 ≤ x.f1 ∧ x.f1 ≤ 9223372036854775807) ∧ x.f2.size ≤ 1048576 ∧ okSettingS x.f3
theorem szSetting_eq (x : S63) (a : Int) (w0 : x.f0.size ≤ maxLen) (h0 : 0 ≤ a) (h1 : a ≤ 1048576) : ∃ r, laws_szSetting.f (x.f0) (x.f1) a = some r ∧ (r < 0 ∨ (0 ≤ r ∧ r ≤ a ∧ x.f0.size ≤ 1048576)) := by
 unfold maxLen at w0
 unfold laws_szSetting.f wrap64
 repeat' split
 all_goals exact ⟨_, rfl, by omega⟩
theorem szSettingS_evo (l : List S63) (a : Int) (hw : l.length ≤ maxLen ∧ ∀ x0 ∈ l, x0.f0.size ≤ maxLen ∧ (Lit.int .i64 x0.f1).wf = true) (h0 : 0 ≤ a) (h1 : a ≤ 1048576) :
  ∃ r, Ev (fun k => laws_szSettingS.f k l a) r ∧ (r < 0 ∨ (0 ≤ r ∧ r ≤ a ∧ okSettingS (cvSettingS l))) := by
 obtain ⟨hl, hw⟩ := hw
 unfold maxLen at hl
 unfold laws_szSettingS.f
 rw [w64 (by omega) (by omega)]
 by_cases h : a - l.length < 0
 ·
  simp only [h, if_true]
  exact ⟨-1, Ev.now _, .inl (by decide)⟩
 ·
  simp only [h, if_false]
  obtain ⟨r, hr, hq⟩ := ev_sz (fun k a i => laws_szSettingS.l0 k l a i) l z63 (fun x => x.f0.size ≤ 1048576) (fun i a hi h0 h1 => by
   have hx := hw _ (getD_mem z63 hi)
   obtain ⟨r, hr, hq⟩ := szSetting_eq (l.getD i z63) a (hx.1) h0 h1
   have e : ∀ k, laws_szSettingS.l0 (k + 1) l a i = if r < 0 then some (-1) else laws_szSettingS.l0 k l r ((i + 1 : Nat) : Int) := fun k => by
    simp only [laws_szSettingS.l0]
    rw [if_pos (by omega), if_pos (by omega)]
    unfold rd_T63
    rw [Int.toNat_natCast, hr]
    simp only [Option.bind_some]
    rw [w64 (by omega) (by omega)]
    rfl
   rcases hq with hq | ⟨q0, q1, q2⟩
   ·
    exact .inl (Ev.step (f := fun _ => some (-1)) (fun k => by rw [e, if_pos hq]) (Ev.now _))
   ·
    exact .inr ⟨r, q0, q1, q2, fun s hs => Ev.step (fun k => by rw [e, if_neg (by omega)]) hs⟩) (fun a => Ev.step (f := fun _ => some a) (fun k => by simp only [laws_szSettingS.l0]; rw [if_neg (by omega)]) (Ev.now _)) (a - l.length) (by omega) (by omega)
  refine ⟨r, hr, hq.imp_right fun ⟨q0, q1, q2⟩ => ⟨q0, by omega, by simp only [cvSettingS, List.length_map]; omega, fun x hx => ?_⟩⟩
  obtain ⟨y, hy, rfl⟩ := List.mem_map.1 hx
  have hs := q2 y hy
  have hw := hw y hy
  exact ⟨hs, lit_i64 (hw.2)⟩
theorem szVersion_ev (x : S34) (a : Int) (w0 : x.f2.size ≤ maxLen) (w1 : x.f3.length ≤ maxLen ∧ ∀ x0 ∈ x.f3, x0.f0.size ≤ maxLen ∧ (Lit.int .i64 x0.f1).wf = true) (h0 : 0 ≤ a) (h1 : a ≤ 1048576) : ∃ r, Ev (fun k => laws_szVersion.f k x.f0 x.f1 x.f2 x.f3 a) r ∧ (r < 0 ∨ (0 ≤ r ∧ r ≤ a ∧ (x.f2.size ≤ 1048576 ∧ okSettingS (cvSettingS x.f3)))) := by
 unfold maxLen at w0
 unfold laws_szVersion.f
 rw [w64 (by omega) (by omega)]
 by_cases h : a - x.f2.size < 0
 ·
  simp only [h, if_true]
  exact ⟨-1, Ev.now _, .inl (by decide)⟩
 ·
  simp only [h, if_false]
  obtain ⟨r, hr, hq⟩ := szSettingS_evo x.f3 (a - x.f2.size) w1 (by omega) (by omega)
  rcases hq with hq | ⟨q0, q1, q2⟩
  ·
   refine ⟨-1, Ev.bind hr ?_, .inl (by decide)⟩
   simp only [hq, if_true]
   exact Ev.now _
  ·
   refine ⟨r, Ev.bind hr ?_, .inr ⟨q0, by omega, by omega, q2⟩⟩
   simp only [show ¬ r < 0 by omega, if_false]
   exact Ev.now _
def okVersionS (l : List S42) : Prop := l.length ≤ 1048576 ∧ ∀ x ∈ l, okVersion1 x
def cvVersionS (l : List S34) : List S42 := l.map cvVersion
theorem szVersionS_evo (l : List S34) (a : Int) (hw : l.length ≤ maxLen ∧ ∀ x0 ∈ l, (Lit.int .i64 x0.f0).wf = true ∧ (Lit.int .i64 x0.f1).wf = true ∧ x0.f2.size ≤ maxLen ∧ (x0.f3.length ≤ maxLen ∧ ∀ x1 ∈ x0.f3, x1.f0.size ≤ maxLen ∧ (Lit.int .i64 x1.f1).wf = true)) (h0 : 0 ≤ a) (h1 : a ≤ 1048576) :
  ∃ r, Ev (fun k => laws_szVersionS.f k l a) r ∧ (r < 0 ∨ (0 ≤ r ∧ r ≤ a ∧ okVersionS (cvVersionS l))) := by
 obtain ⟨hl, hw⟩ := hw
 unfold maxLen at hl
 unfold laws_szVersionS.f
 rw [w64 (by omega) (by omega)]
 by_cases h : a - l.length < 0
 ·
  simp only [h, if_true]
  exact ⟨-1, Ev.now _, .inl (by decide)⟩
 ·
  simp only [h, if_false]
  obtain ⟨r, hr, hq⟩ := ev_sz (fun k a i => laws_szVersionS.l0 k l a i) l z34 (fun x => x.f2.size ≤ 1048576 ∧ okSettingS (cvSettingS x.f3)) (fun i a hi h0 h1 => by
   have hx := hw _ (getD_mem z34 hi)
   have er : rd_T34 l (i : Int) = l.getD i z34 := by unfold rd_T34; rw [Int.toNat_natCast]
   obtain ⟨r, hr, hq⟩ := szVersion_ev (l.getD i z34) a hx.2.2.1 hx.2.2.2 h0 h1
   rcases hq with hq | ⟨q0, q1, q2⟩
   ·
    refine .inl (Ev.succ ?_)
    simp (disch := omega) only [laws_szVersionS.l0, if_pos, er]
    refine Ev.bind hr ?_
    simp only [hq, if_true]
    exact Ev.now _
   ·
    refine .inr ⟨r, q0, q1, q2, fun s hs => Ev.succ ?_⟩
    simp (disch := omega) only [laws_szVersionS.l0, if_pos, er, w64]
    refine Ev.bind hr ?_
    simp only [show ¬ r < 0 by omega, if_false]
    exact hs) (fun a => Ev.succ (by simp only [laws_szVersionS.l0, Int.lt_irrefl, if_false]; exact Ev.now _)) (a - l.length) (by omega) (by omega)
  refine ⟨r, hr, hq.imp_right fun ⟨q0, q1, q2⟩ => ⟨q0, by omega, by simp only [cvVersionS, List.length_map]; omega, fun x hx => ?_⟩⟩
  obtain ⟨y, hy, rfl⟩ := List.mem_map.1 hx
  have hs := q2 y hy
  have hw := hw y hy
  exact ⟨lit_i64 hw.1, lit_i64 hw.2.1, hs.1, hs.2⟩
theorem toSetting_eq (x : S63) : laws_toSetting.f (x.f0) (x.f1) = some (x.f0, x.f1) := by
 unfold laws_toSetting.f
 rfl
theorem ev_fill {β ρ : Type} (L : Nat → List β → Int → Option ρ) (base : List β) (d : β) (f : Nat → β) (r : ρ)
  (step : ∀ i acc, i < base.length → acc.length = base.length → acc.getD i d = base.getD i d → Ev (fun k => L k (acc.set i (f i)) ((i + 1 : Nat) : Int)) r → Ev (fun k => L k acc (i : Int)) r)
  (fin : Ev (fun k => L k ((List.range base.length).map f) (base.length : Int)) r) : Ev (fun k => L k base 0) r := by
 have key : ∀ (m i : Nat), i + m = base.length → Ev (fun k => L k ((List.range i).map f ++ base.drop i) (i : Int)) r := by
  intro m
  induction m with
  | zero =>
   intro i hi
   have : i = base.length := by omega
   subst this
   rw [List.drop_length, List.append_nil]
   exact fin
  | succ m ih =>
   intro i hi
   have hlt : i < base.length := by omega
   refine step i _ hlt (by simp; omega) ?_ ?_
   ·
    rw [List.getD_eq_getElem?_getD, List.getD_eq_getElem?_getD, List.getElem?_append_right (by simp)]
    simp
   ·
    have := ih (i + 1) (by omega)
    rw [List.range_succ, List.map_append, List.append_assoc] at this
    have e : ((List.range i).map f ++ base.drop i).set i (f i) = (List.range i).map f ++ ([i].map f ++ base.drop (i + 1)) := by
     rw [List.set_append_right _ _ (by simp), List.drop_eq_getElem_cons hlt, List.length_map, List.length_range, Nat.sub_self, List.set_cons_zero]
     rfl
    rw [e]
    exact this
 exact key base.length 0 (by omega)
theorem getD_map_range {β : Type} (n : Nat) (f : Nat → β) (d : β) {i : Nat} (h : i < n) : ((List.range n).map f).getD i d = f i := by
 rw [List.getD_eq_getElem?_getD, List.getElem?_map, List.getElem?_range h]; rfl
theorem ev_cmap {α β : Type} (L : Nat → List β → Int → Option (List β)) (xs : List α) (d : α) (d' : β) (g : α → β)
  (step : ∀ (ys : List β) (i : Nat), i < xs.length → ys.length = xs.length → ∀ r, Ev (fun k => L k (ys.set i (g (xs.getD i d))) ((i + 1 : Nat) : Int)) r → Ev (fun k => L k ys (i : Int)) r)
  (fin : ∀ ys, Ev (fun k => L k ys (xs.length : Int)) ys) : Ev (fun k => L k (List.replicate xs.length d') 0) (xs.map g) := by
 have e : xs.map g = (List.range xs.length).map (fun i => g (xs.getD i d)) := by
  refine List.ext_getElem (by simp) fun i h1 h2 => ?_
  rw [List.getElem_map, List.getElem_map, List.getElem_range, getD_lt d (by simpa using h1)]
 have key := ev_fill L (List.replicate xs.length d') d' (fun i => g (xs.getD i d)) (xs.map g) (fun i acc hi hl _ hs => ?_) ?_
 ·
  exact key
 ·
  rw [List.length_replicate] at hi hl
  exact step acc i hi hl _ hs
 ·
  rw [List.length_replicate, ← e]
  exact fin _
theorem toSettingS_evo (l : List S63) (h : okSettingS (cvSettingS l)) : Ev (fun k => laws_toSettingS.f k l) (cvSettingS l) := by
 have hl : l.length ≤ 1048576 := by have := h.1; simpa [cvSettingS] using this
 refine Ev.congr (f := fun k => laws_toSettingS.l0 k l (List.replicate l.length z59) 0) (fun k => ?_) ?_
 ·
  unfold laws_toSettingS.f
  rw [if_pos (by omega), if_pos (by omega), Int.toNat_natCast]
 ·
  refine ev_cmap (fun k ys i => laws_toSettingS.l0 k l ys i) l z63 z59 cvSetting (fun ys i hi hl r hr => ?_) (fun ys => ?_)
  ·
   refine Ev.step (fun k => ?_) hr
   simp only [laws_toSettingS.l0]
   rw [if_pos (by omega), if_pos (by omega), toSetting_eq]
   simp only [Option.bind_some]
   rw [if_pos (by omega), w64 (by omega) (by omega), Int.toNat_natCast]
   unfold rd_T63
   rw [Int.toNat_natCast]
   rfl
  ·
   refine Ev.step (f := fun _ => some ys) (fun k => ?_) (Ev.now _)
   simp only [laws_toSettingS.l0]
   rw [if_neg (by omega)]
theorem toVersion_ev (x : S34) (h : okSettingS (cvSettingS x.f3)) : Ev (fun k => laws_toVersion.f k x.f0 x.f1 x.f2 x.f3) (x.f0, x.f1, x.f2, cvSettingS x.f3) := by
 unfold laws_toVersion.f
 exact Ev.bind (toSettingS_evo x.f3 h) (Ev.now _)
theorem toVersionS_evo (l : List S34) (h : okVersionS (cvVersionS l)) : Ev (fun k => laws_toVersionS.f k l) (cvVersionS l) := by
 have hl : l.length ≤ 1048576 := by have := h.1; simpa [cvVersionS] using this
 have hx : ∀ x ∈ l, okSettingS (cvSettingS x.f3) := fun x hx => (h.2 _ (List.mem_map.2 ⟨x, hx, rfl⟩)).2.2.2
 refine Ev.congr (f := fun k => laws_toVersionS.l0 k l (List.replicate l.length z42) 0) (fun k => ?_) ?_
 ·
  unfold laws_toVersionS.f
  rw [if_pos (by omega), if_pos (by omega), Int.toNat_natCast]
 ·
  refine ev_cmap (fun k ys i => laws_toVersionS.l0 k l ys i) l z34 z42 cvVersion (fun ys i hi hl r hr => ?_) (fun ys => ?_)
  ·
   have er : rd_T34 l (i : Int) = l.getD i z34 := by unfold rd_T34; rw [Int.toNat_natCast]
   refine Ev.succ ?_
   simp (disch := omega) only [laws_toVersionS.l0, if_pos, er]
   refine Ev.bind (toVersion_ev _ (hx _ (getD_mem _ hi))) ?_
   simp (disch := omega) only [if_pos, w64, Int.toNat_natCast]
   exact hr
  ·
   refine Ev.succ ?_
   simp only [laws_toVersionS.l0, Int.lt_irrefl, if_false]
   exact Ev.now _
theorem eqSetting_eq (x : S59) : laws_eqSetting.f (x.f0) (x.f1) (x.f0) (x.f1) = some true := by
 unfold laws_eqSetting.f
 simp
theorem eqSettingS_evo (l : List S59) (h : okSettingS l) : Ev (fun k => laws_eqSettingS.f k l l) true := by
 have h := h.1
 refine Ev.congr (f := fun k => laws_eqSettingS.l0 k l l 0) (fun k => ?_) ?_
 ·
  unfold laws_eqSettingS.f
  rw [if_pos rfl]
 ·
  refine ev_eq laws_eqSettingS.l0 l (fun i hi hr => ?_) ?_
  ·
   refine Ev.step (fun k => ?_) hr
   simp only [laws_eqSettingS.l0]
   rw [if_pos (by omega), if_pos (by omega), if_pos (by omega), eqSetting_eq]
   simp only [Option.bind_some, if_true]
   rw [w64 (by omega) (by omega)]
   rfl
  ·
   refine Ev.step (f := fun _ => some true) (fun k => ?_) (Ev.now _)
   simp only [laws_eqSettingS.l0]
   rw [if_neg (by omega)]
theorem eqVersion_ev (x : S42) (h : okSettingS x.f3) : Ev (fun k => laws_eqVersion.f k x.f0 x.f1 x.f2 x.f3 x.f0 x.f1 x.f2 x.f3) true := by
 unfold laws_eqVersion.f
 simp only [if_true]
 refine Ev.bind (eqSettingS_evo x.f3 h) ?_
 simp only [if_true]
 exact Ev.now _
theorem eqVersionS_evo (l : List S42) (h : okVersionS l) : Ev (fun k => laws_eqVersionS.f k l l) true := by
 have hx := h.2
 have h := h.1
 refine Ev.congr (f := fun k => laws_eqVersionS.l0 k l l 0) (fun k => ?_) ?_
 ·
  unfold laws_eqVersionS.f
  rw [if_pos rfl]
 ·
  refine ev_eq laws_eqVersionS.l0 l (fun i hi hr => ?_) ?_
  ·
   have er : rd_T42 l (i : Int) = l.getD i z42 := by unfold rd_T42; rw [Int.toNat_natCast]
   refine Ev.succ ?_
   simp (disch := omega) only [laws_eqVersionS.l0, if_pos, er]
   refine Ev.bind (eqVersion_ev _ (hx _ (getD_mem _ hi)).2.2.2) ?_
   simp (disch := omega) only [if_true, w64]
   exact hr
  ·
   refine Ev.succ ?_
   simp only [laws_eqVersionS.l0, Int.lt_irrefl, if_false]
   exact Ev.now _
theorem markText_ev0 (m : Nat) : ∀ (n : Nat) (x : Int) (s : ByteArray), 0 ≤ x → x < n → s.size + n ≤ 1000000000000000001 → n ≤ m → ∃ t, Ev (fun k => laws_markText.l0 k x s) t := by
 induction m with
 | zero => intro n x s h0 h1 h2 h3; omega
 | succ m ih =>
  intro n x s h0 h1 h2 h3
  by_cases hx : x > 0
  ·
   have hd : Int.tdiv x 10 = x / 10 := Int.tdiv_eq_ediv_of_nonneg h0
   have hs : ∀ c : Int, (strOfNums [c]).size = 1 := fun _ => rfl
   have hs2 : ∀ c : Int, (strOfNums [c] ++ s).size = 1 + s.size := fun c => by rw [ByteArray.size_append, hs]
   obtain ⟨t, ht⟩ := ih (n - 1) (x / 10) (strOfNums [(wrap64 (48 + (Int.tmod x 10))) % 256] ++ s) (by omega) (by omega) (by rw [hs2]; omega) (by omega)
   refine ⟨t, Ev.succ ?_⟩
   simp only [laws_markText.l0, hx, if_true, Option.bind_some, hs, hd]
   rw [w64 (x := x / 10) (by omega) (by omega)]
   simp only [show 1 + s.size ≤ 9223372036854775807 by omega, if_true]
   exact ht
  ·
   refine ⟨(⟨#[109]⟩ : ByteArray) ++ s, Ev.succ ?_⟩
   simp only [laws_markText.l0, hx, if_false, show 1 + s.size ≤ 9223372036854775807 by omega, if_true]
   exact Ev.now _
theorem markText_ex (x : Int) : ∃ t, x ≤ 1000000000000000000 → Ev (fun k => laws_markText.f k x) t := by
 by_cases hb : x ≤ 1000000000000000000
 ·
  by_cases h : x ≤ 0
  ·
   refine ⟨⟨#[109, 48]⟩, fun _ => ?_⟩
   unfold laws_markText.f
   simp only [h, if_true]
   exact Ev.now _
  ·
   obtain ⟨t, ht⟩ := markText_ev0 _ (x.toNat + 1) x ⟨#[]⟩ (by omega) (by omega) (by show 0 + _ ≤ _; omega) (Nat.le_refl _)
   refine ⟨t, fun _ => ?_⟩
   unfold laws_markText.f
   simp only [h, if_false]
   exact ht
 ·
  exact ⟨⟨#[]⟩, fun h => absurd h hb⟩
noncomputable def mtx (x : Int) : ByteArray := Classical.choose (markText_ex x)
theorem markText_ev (x : Int) (h : x ≤ 1000000000000000000) : Ev (fun k => laws_markText.f k x) (mtx x) := Classical.choose_spec (markText_ex x) h
noncomputable def mk1Setting (k : Int) : S59 := ⟨mtx (k), k + 1⟩
noncomputable def mkSettingS (l : List S59) (k : Int) : List S59 := (List.range l.length).map fun i : Nat => mk1Setting (k + 2 * (i : Int))
def cntSettingS (l : List S59) : Int := 2 * (l.length : Int)
theorem mkSettingS_len (l : List S59) (k : Int) : (mkSettingS l k).length = l.length := by simp [mkSettingS]
theorem cntSettingS_bd (l : List S59) (h : okSettingS l) : 0 ≤ cntSettingS l ∧ cntSettingS l ≤ 2000000000000 := by have h := h.1; unfold cntSettingS; omega
theorem rdsetSetting (l : List S59) (i : Nat) (v : S59) (h : i < l.length) : rd_T59 (l.set i v) (i : Int) = v := by
 unfold rd_T59
 rw [Int.toNat_natCast, getD_lt _ (by simpa using h), List.getElem_set_self]
set_option maxRecDepth 10000 in
theorem markSettingS_ev (l : List S59) (k0 : Int) (h : okSettingS l) (h0 : 0 ≤ k0) (h1 : k0 ≤ 1000000000000000) : Ev (fun k => laws_markSettingS.f k l k0) (k0 + cntSettingS l, mkSettingS l k0) := by
 have h := h.1
 unfold laws_markSettingS.f
 have key := ev_fill (fun k acc i => laws_markSettingS.l0 k acc (k0 + 2 * i) i) l z59 (fun i => mk1Setting (k0 + 2 * (i : Int))) (k0 + cntSettingS l, mkSettingS l k0) (fun i acc hi hl _ hs => ?_) ?_
 ·
  simpa using key
 ·
  refine Ev.succ ?_
  simp (disch := omega) only [laws_markSettingS.l0, if_pos, w64, Option.bind_some, Int.toNat_natCast]
  refine Ev.bind (markText_ev _ (by omega)) ?_
  (try simp (disch := omega) only [if_pos, w64, Option.bind_some, Int.toNat_natCast])
  simp (disch := (first | omega | (simp only [List.length_set]; omega))) only [rdsetSetting, List.set_set]
  refine Ev.congr (fun k => ?_) hs
  simp only [mk1Setting]
  congr 1
  all_goals first | rfl | omega | (push_cast; omega)
 ·
  refine Ev.succ ?_
  simp only [laws_markSettingS.l0]
  simp only [mkSettingS, List.length_map, List.length_range, Int.lt_irrefl, if_false]
  exact Ev.now' (by unfold cntSettingS; rfl)
theorem heldSettingS_ev (l : List S59) (k0 : Int) (h : okSettingS l) (h0 : 0 ≤ k0) (h1 : k0 ≤ 1000000000000000) : Ev (fun k => laws_heldSettingS.f k (mkSettingS l k0) k0) (k0 + cntSettingS l) := by
 have h := h.1
 unfold laws_heldSettingS.f
 have key : ∀ (m i : Nat), i + m = l.length → Ev (fun k => laws_heldSettingS.l0 k (mkSettingS l k0) (k0 + 2 * i) i) (k0 + cntSettingS l) := by
  intro m
  induction m with
  | zero =>
   intro i hi
   refine Ev.succ ?_
   simp only [laws_heldSettingS.l0, mkSettingS_len, show ¬ (i : Int) < (l.length : Int) by omega, if_false]
   exact Ev.now' (by unfold cntSettingS; omega)
  | succ m ih =>
   intro i hi
   have hs := ih (i + 1) (by omega)
   have e : rd_T59 (mkSettingS l k0) (i : Int) = mk1Setting (k0 + 2 * (i : Int)) := by
    unfold rd_T59
    rw [Int.toNat_natCast]
    exact getD_map_range _ _ _ (by omega)
   refine Ev.succ ?_
   simp only [laws_heldSettingS.l0, mkSettingS_len, e, mk1Setting]
   simp (disch := first | omega | rfl) only [if_pos, if_true, w64, Option.bind_some]
   refine Ev.bind (markText_ev _ (by omega)) ?_
   (try simp (disch := first | omega | rfl) only [if_pos, if_true, w64, Option.bind_some])
   refine Ev.congr (fun k => ?_) hs
   congr 1
   all_goals first | rfl | omega | (push_cast; omega)
 simpa using key l.length 0 (by omega)
noncomputable def mk1Version (x : S42) (k : Int) : S42 := ⟨k, k + 1, mtx (k + 2), mkSettingS x.f3 (k + 3)⟩
def cnt1Version (x : S42) : Int := 3 + cntSettingS x.f3
def cntVersionS : List S42 → Int
 | [] => 0
 | x :: xs => cnt1Version x + cntVersionS xs
noncomputable def mkVersionS : List S42 → Int → List S42
 | [], _ => []
 | x :: xs, k => mk1Version x k :: mkVersionS xs (k + cnt1Version x)
theorem mkVersionS_len : ∀ (l : List S42) (k : Int), (mkVersionS l k).length = l.length
 | [], _ => rfl
 | x :: xs, k => by simp [mkVersionS, mkVersionS_len xs]
theorem cntVersionS_bd0 : ∀ (l : List S42), (∀ x ∈ l, x.f3.length ≤ 1048576) → 0 ≤ cntVersionS l ∧ cntVersionS l ≤ l.length * 2097155
 | [], _ => by simp [cntVersionS]
 | x :: xs, h => by
  have h1 := cntVersionS_bd0 xs (fun y hy => h y (List.mem_cons_of_mem _ hy))
  have h2 := h x List.mem_cons_self
  simp only [cntVersionS, cnt1Version, cntSettingS, List.length_cons]
  omega
theorem cntVersionS_bd (l : List S42) (h : okVersionS l) : 0 ≤ cntVersionS l ∧ cntVersionS l ≤ 3000000000000 := by
 have := cntVersionS_bd0 l (fun x hx => (h.2 x hx).2.2.2.1)
 have := h.1
 omega
theorem cntVersionS_append : ∀ (a b : List S42), cntVersionS (a ++ b) = cntVersionS a + cntVersionS b
 | [], b => by simp [cntVersionS]
 | x :: xs, b => by simp only [List.cons_append, cntVersionS, cntVersionS_append xs b]; omega
theorem mkVersionS_append : ∀ (a b : List S42) (k : Int), mkVersionS (a ++ b) k = mkVersionS a k ++ mkVersionS b (k + cntVersionS a)
 | [], b, k => by simp [mkVersionS, cntVersionS]
 | x :: xs, b, k => by simp only [List.cons_append, mkVersionS, cntVersionS, mkVersionS_append xs b]; congr 3; omega
theorem heldVersionS_ev (l : List S42) (k0 : Int) (h : okVersionS l) (h0 : 0 ≤ k0) (h1 : k0 ≤ 900000000000000) : Ev (fun k => laws_heldVersionS.f k (mkVersionS l k0) k0) (k0 + cntVersionS l) := by
 have hb := cntVersionS_bd l h
 obtain ⟨hlen, hrow⟩ := h
 unfold laws_heldVersionS.f
 have key : ∀ (rest done : List S42), done ++ rest = l → Ev (fun k => laws_heldVersionS.l0 k (mkVersionS l k0) (k0 + cntVersionS done) (done.length : Nat)) (k0 + cntVersionS l) := by
  intro rest
  induction rest with
  | nil =>
   intro done hd
   rw [List.append_nil] at hd
   subst hd
   refine Ev.succ ?_
   simp only [laws_heldVersionS.l0, mkVersionS_len, Int.lt_irrefl, if_false]
   exact Ev.now _
  | cons x rest ih =>
   intro done hd
   have hl : l.length = done.length + (rest.length + 1) := by rw [← hd, List.length_append, List.length_cons]
   have hx : okSettingS x.f3 := (hrow x (by rw [← hd]; simp)).2.2.2
   have hc : cntVersionS l = cntVersionS done + (cnt1Version x + cntVersionS rest) := by rw [← hd, cntVersionS_append]; rfl
   have hb1 := cntVersionS_bd0 done (fun y hy => (hrow y (by rw [← hd]; exact List.mem_append_left _ hy)).2.2.2.1)
   have hb2 := cntVersionS_bd0 rest (fun y hy => (hrow y (by rw [← hd]; simp [hy])).2.2.2.1)
   have hb3 := cntSettingS_bd _ hx
   have e : rd_T42 (mkVersionS l k0) (done.length : Int) = mk1Version x (k0 + cntVersionS done) := by
    unfold rd_T42
    rw [Int.toNat_natCast, ← hd, mkVersionS_append, List.getD_eq_getElem?_getD, List.getElem?_append_right (by rw [mkVersionS_len]; exact Nat.le_refl _), mkVersionS_len, Nat.sub_self]
    rfl
   have ihx := ih (done ++ [x]) (by rw [List.append_assoc]; exact hd)
   have e1 : k0 + cntVersionS done + 3 + cntSettingS x.f3 = k0 + cntVersionS (done ++ [x]) := by rw [cntVersionS_append]; simp only [cntVersionS, cnt1Version]; omega
   unfold cnt1Version at hc
   refine Ev.succ ?_
   simp only [laws_heldVersionS.l0, mkVersionS_len, e, mk1Version]
   simp (disch := first | omega | rfl) only [if_pos, if_true, w64, Option.bind_some]
   rw [show k0 + cntVersionS done + 1 + 1 = k0 + cntVersionS done + 2 by omega]
   refine Ev.bind (markText_ev _ (by omega)) ?_
   (try simp (disch := first | omega | rfl) only [if_pos, if_true, w64, Option.bind_some])
   rw [show k0 + cntVersionS done + 2 + 1 = k0 + cntVersionS done + 3 by omega]
   refine Ev.bind (heldSettingS_ev x.f3 _ hx (by omega) (by omega)) ?_
   simp only [show ¬ k0 + cntVersionS done + 3 + cntSettingS x.f3 < 0 by omega, if_false]
   rw [e1]
   simpa using ihx
 simpa [cntVersionS] using key l [] rfl
def undoMemo (n : Int) : ByteArray := (⟨#[117, 110, 100, 111, 32]⟩ : ByteArray) ++ decB n.toNat
theorem core : ∀ (l0 : List (S42)) (a1 : Int) (o0 : okVersionS l0) (w1 : (Lit.int .i64 a1).wf = true), ∃ (r1 : List (S42)) (r2 : Int), Ev (fun k => spec_UndoVersion.f k l0 a1) (r1, r2) ∧ Ev (fun k => impl_UndoVersion.f k l0 a1) (r1, r2) ∧ okVersionS r1 := by
 intro l p o0 w1
 have okn : okVersionS [] := ⟨by simp, fun x hx => by cases hx⟩
 have wp := lit_i64 w1
 have h2 : ∀ x ∈ l, x.f2.size ≤ 1048576 ∧ x.f3.length ≤ 1048576 := fun x hx => ⟨(o0.2 x hx).2.2.1, (o0.2 x hx).2.2.2.1⟩
 have h3 : ∀ x ∈ l, x.f3.length ≤ 1048576 := fun x hx => (h2 x hx).2
 have s0 := specHist_ev l o0.1 h2
 have i0 := code1_ev l o0.1 h2 p
 unfold spec_UndoVersion.f impl_UndoVersion.f
 cases hh : histOk l with
 | false =>
  rw [hh] at s0 i0
  exact ⟨[], 1, Ev.bind s0 (Ev.now _), Ev.bind i0 (Ev.now _), okn⟩
 | true =>
  rw [hh] at s0 i0
  obtain ⟨hl, hv⟩ := histOk_facts hh
  have n1 : spec_l27Number.f l p = some (inR 1 (l.length : Int) p) := by unfold spec_l27Number.f; rw [specIn_eq]; rfl
  cases hr : inR 1 (l.length : Int) p with
  | false =>
   rw [hr] at i0 n1
   refine ⟨[], 3, Ev.bind s0 ?_, Ev.bind i0 (Ev.now _), okn⟩
   simp only [if_true, n1, Option.bind_some, Bool.false_eq_true, if_false]
   exact Ev.now _
  | true =>
   rw [hr] at i0 n1
   unfold inR at hr
   rw [Bool.and_eq_true, decide_eq_true_eq, decide_eq_true_eq] at hr
   obtain ⟨d1, d2⟩ := decSmall_ev p (by omega) (by omega)
   have di := implDec_eq p (by omega) (by omega)
   have hm : (undoMemo p).size ≤ 7 := by
    unfold undoMemo
    rw [ByteArray.size_append]
    show 5 + _ ≤ 7
    omega
   obtain ⟨_, v1, v2, _⟩ := hv (p - 1).toNat (by omega)
   have er : rd_T42 l (p - 1) = l.getD (p - 1).toNat z42 := rfl
   have hst : okSettingS (stV l (l.getD (p - 1).toNat z42).f1) := by
    unfold stV
    split
    ·
     exact ⟨by simp, fun x hx => by cases hx⟩
    ·
     exact (o0.2 _ (getD_mem _ (by omega))).2.2.2
   refine ⟨(addR l p (undoMemo p) (stV l (l.getD (p - 1).toNat z42).f1)).1, (addR l p (undoMemo p) (stV l (l.getD (p - 1).toNat z42).f1)).2, Ev.bind s0 ?_, Ev.bind i0 ?_, ?_⟩
   ·
    simp only [if_true, n1, Option.bind_some]
    refine Ev.bind d1 ?_
    simp (disch := omega) only [if_pos, w64, er]
    simp only [stS_eq l hl _ v1 (show (l.getD (p - 1).toNat z42).f1 ≤ l.length by omega), Option.bind_some]
    exact Ev.bind (addS_ev l hl h3 p _ _ hst.1) (Ev.now _)
   ·
    simp only [if_true, di, Option.bind_some]
    simp (disch := omega) only [if_pos, w64, er]
    simp only [stI_eq l hl _ v1 (show (l.getD (p - 1).toNat z42).f1 ≤ l.length by omega), Option.bind_some]
    exact Ev.bind (addI_ev l hl h3 p _ _ hst.1) (Ev.now _)
   ·
    unfold addR
    split
    ·
     exact okn
    ·
     refine ⟨by rw [List.length_append, List.length_singleton]; omega, fun x hx => ?_⟩
     rcases List.mem_append.1 hx with hx | hx
     ·
      exact o0.2 x hx
     ·
      obtain rfl := List.mem_singleton.1 hx
      exact ⟨⟨by show -9223372036854775808 ≤ (l.length : Int) + 1; omega, by show (l.length : Int) + 1 ≤ 9223372036854775807; omega⟩, ⟨by show -9223372036854775808 ≤ p; omega, by show p ≤ 9223372036854775807; omega⟩, by show (undoMemo p).size ≤ 1048576; omega, hst⟩
end Go.Proofs.YtenjhbkpcelidaaDoor.Pure
