/- The program's OverdrawnAt returns what the reference's returns, for all arguments. No condition beyond the statement's own. -/
import Derived.Test.YthnjmdjhpipopabPFnExactOverdrawnAtx0
import Derived.Test.YthnjmdjhpipopabPFnExactOverdrawnAtx1
import Derived.Test.YthnjmdjhpipopabPFnExactOverdrawnAtx2
import Derived.Test.YthnjmdjhpipopabPFnExactOverdrawnAtx3
import Derived.Test.YthnjmdjhpipopabPFnExactOverdrawnAtx4
import Derived.Test.YthnjmdjhpipopabPFnExactOverdrawnAtx5
import Derived.Test.YthnjmdjhpipopabPFnExactOverdrawnAtx6
import Derived.Test.YthnjmdjhpipopabPFnExactOverdrawnAtx7
namespace Go.Proofs.Ythnjmdjhpipopab.Pure
open Go.RowKit Go.Proofs.Ythnjmdjhpipopab.PFnExactOverdrawnAt Go.Proofs.YthnjmdjhpipopabW.PrintWords Go.Proofs.YthnjmdjhpipopabW.PrintLast Go.Proofs.YthnjmdjhpipopabW.PrintMore
set_option linter.unusedVariables false
set_option linter.unusedSimpArgs false

def smallC (c : Int) : Bool := decide (97 ≤ c) && decide (c ≤ 122)
def digitC (c : Int) : Bool := decide (48 ≤ c) && decide (c ≤ 57)
def nameC (c : Int) : Bool := smallC c || digitC c
/-- A name: 1 to 10 bytes, the first one a small letter, all of them small letters or digits. -/
def nameOk (b : ByteArray) : Bool := decide (1 ≤ b.size) && (decide (b.size ≤ 10) && (smallC (bt b 0) && (List.range b.size).all fun i => nameC (bt b i)))

def inR (lo hi x : Int) : Bool := decide (lo ≤ x) && decide (x ≤ hi)
theorem inR_iff {lo hi x : Int} : inR lo hi x = true ↔ lo ≤ x ∧ x ≤ hi := by simp [inR]
theorem inR_no {lo hi x : Int} : inR lo hi x = false ↔ ¬ (lo ≤ x ∧ x ≤ hi) := by rw [← inR_iff]; simp

def postOk (x : S52) : Bool := nameOk x.f0 && (inR (-1000000000) 1000000000 x.f1 && (!decide (x.f1 = 0) && inR 0 100000 x.f2))
def postAt (l : List S52) (i : Nat) : Bool := postOk (l.getD i z52) && (decide (i = 0) || decide ((l.getD (i - 1) z52).f2 ≤ (l.getD i z52).f2))
def postsOk (l : List S52) : Bool := decide (l.length ≤ 32) && (List.range l.length).all (postAt l)
theorem rdP (l : List S52) (i : Nat) : rd_T52 l (i : Int) = l.getD i z52 := by unfold rd_T52; rw [Int.toNat_natCast]
theorem rdPs (l : List S52) (i : Nat) (h : 0 < i) : rd_T52 l ((i : Int) - 1) = l.getD (i - 1) z52 := by
  unfold rd_T52
  congr 1
  omega

theorem specIn_eq (a lo hi : Int) : spec_l00In.f a lo hi = some (inR lo hi a) := by
  unfold spec_l00In.f inR
  by_cases h : a ≥ lo
  · rw [if_pos h, decide_eq_true (show lo ≤ a from h)]; rfl
  · rw [if_neg h, decide_eq_false (show ¬ lo ≤ a from h)]; rfl

theorem w64 {x : Int} (h0 : -9223372036854775808 ≤ x) (h1 : x ≤ 9223372036854775807) : wrap64 x = x := by unfold wrap64; omega
theorem rd_nat (l : List Int) (i : Nat) : rd l (i : Int) = l.getD i 0 := by unfold rd; rw [Int.toNat_natCast]
theorem getD_mem {α : Type} {l : List α} {i : Nat} (d : α) (h : i < l.length) : l.getD i d ∈ l := by
  rw [List.getD_eq_getElem?_getD, List.getElem?_eq_getElem h]; exact List.getElem_mem _
theorem getD_lt {α : Type} {l : List α} {i : Nat} (d : α) (h : i < l.length) : l.getD i d = l[i] := by
  rw [List.getD_eq_getElem?_getD, List.getElem?_eq_getElem h]; rfl
theorem take_succ_getD {α : Type} (l : List α) (d : α) {i : Nat} (h : i < l.length) : l.take (i + 1) = l.take i ++ [l.getD i d] := by
  rw [List.take_succ_eq_append_getElem h, getD_lt d h]
/-- A loop that copies a list, element by element. -/
theorem ev_copy {α : Type} (L : Nat → List α → List α → Int → Option (List α)) (xs : List α) (d d' : α)
    (step : ∀ ys i, i < xs.length → ys.length = xs.length → ∀ r, Ev (fun k => L k xs (ys.set i (xs.getD i d)) ((i + 1 : Nat) : Int)) r → Ev (fun k => L k xs ys (i : Int)) r)
    (fin : ∀ ys, Ev (fun k => L k xs ys (xs.length : Int)) ys) : Ev (fun k => L k xs (List.replicate xs.length d') 0) xs := by
  have key : ∀ (m i : Nat) (ys : List α), i + m = xs.length → ys.length = xs.length → (∀ j, j < i → ys[j]? = xs[j]?) → Ev (fun k => L k xs ys (i : Int)) xs := by
    intro m
    induction m with
    | zero =>
      intro i ys hi hl hj
      have e : ys = xs := List.ext_getElem? (fun j => by
        by_cases h : j < xs.length
        · exact hj j (by omega)
        · rw [List.getElem?_eq_none (by omega), List.getElem?_eq_none (by omega)])
      have : i = xs.length := by omega
      subst this
      rw [e]
      exact fin xs
    | succ m ih =>
      intro i ys hi hl hj
      refine step ys i (by omega) hl xs (ih (i + 1) _ (by omega) (by rw [List.length_set]; exact hl) (fun j hjj => ?_))
      by_cases h : j = i
      · subst h
        rw [List.getElem?_set_self (by omega), getD_lt d (by omega), List.getElem?_eq_getElem (by omega)]
      · rw [List.getElem?_set_ne (by omega)]
        exact hj j (by omega)
  exact key xs.length 0 _ (by omega) (List.length_replicate ..) (fun j hj => absurd hj (Nat.not_lt_zero _))
/-- A loop that compares two lists. -/
theorem ev_eq {α : Type} (L : Nat → List α → List α → Int → Option Bool) (xs : List α) 
    (step : ∀ i, i < xs.length → Ev (fun k => L k xs xs ((i + 1 : Nat) : Int)) true → Ev (fun k => L k xs xs (i : Int)) true)
    (fin : Ev (fun k => L k xs xs (xs.length : Int)) true) : Ev (fun k => L k xs xs 0) true := by
  have key : ∀ (m i : Nat), i + m = xs.length → Ev (fun k => L k xs xs (i : Int)) true := by
    intro m
    induction m with
    | zero =>
      intro i hi
      have : i = xs.length := by omega
      subst this
      exact fin
    | succ m ih => intro i hi; exact step i (by omega) (ih (i + 1) (by omega))
  exact key xs.length 0 (by omega)

/-- A loop that looks at all elements: on, or out with b; at the end c. -/
theorem ev_all {α ρ : Type} (L : Nat → Int → Option ρ) (xs : List α) (d : α) (p : α → Bool) (b c : ρ)
    (step : ∀ i, i < xs.length → p (xs.getD i d) = true → ∀ r, Ev (fun k => L k ((i + 1 : Nat) : Int)) r → Ev (fun k => L k (i : Int)) r)
    (bad : ∀ i, i < xs.length → p (xs.getD i d) = false → Ev (fun k => L k (i : Int)) b)
    (fin : Ev (fun k => L k (xs.length : Int)) c) : Ev (fun k => L k 0) (if xs.all p = true then c else b) := by
  have key : ∀ (m i : Nat), i + m = xs.length → Ev (fun k => L k (i : Int)) (if (xs.drop i).all p = true then c else b) := by
    intro m
    induction m with
    | zero =>
      intro i hi
      have : i = xs.length := by omega
      subst this
      rw [List.drop_length]
      exact fin
    | succ m ih =>
      intro i hi
      have hlt : i < xs.length := by omega
      rw [List.drop_eq_getElem_cons hlt, List.all_cons, ← getD_lt d hlt]
      cases hp : p (xs.getD i d) with
      | true => rw [Bool.true_and]; exact step i hlt hp _ (ih (i + 1) (by omega))
      | false => rw [Bool.false_and, if_neg (by decide)]; exact bad i hlt hp
  exact key xs.length 0 (by omega)
/-- The loop that counts what is read. -/
theorem ev_sz {α : Type} (L : Nat → Int → Int → Option Int) (xs : List α) (d : α) (B : α → Prop)
    (step : ∀ i a, i < xs.length → 0 ≤ a → a ≤ 1048576 → Ev (fun k => L k a (i : Int)) (-1) ∨ (∃ a', 0 ≤ a' ∧ a' ≤ a ∧ B (xs.getD i d) ∧ ∀ r, Ev (fun k => L k a' ((i + 1 : Nat) : Int)) r → Ev (fun k => L k a (i : Int)) r))
    (fin : ∀ a, Ev (fun k => L k a (xs.length : Int)) a) : ∀ a, 0 ≤ a → a ≤ 1048576 → ∃ r, Ev (fun k => L k a 0) r ∧ (r < 0 ∨ (0 ≤ r ∧ r ≤ a ∧ ∀ x ∈ xs, B x)) := by
  have key : ∀ (m i : Nat) (a : Int), i + m = xs.length → 0 ≤ a → a ≤ 1048576 → ∃ r, Ev (fun k => L k a (i : Int)) r ∧ (r < 0 ∨ (0 ≤ r ∧ r ≤ a ∧ ∀ j, i ≤ j → j < xs.length → B (xs.getD j d))) := by
    intro m
    induction m with
    | zero =>
      intro i a hi h0 h1
      have : i = xs.length := by omega
      subst this
      exact ⟨a, fin a, .inr ⟨h0, Int.le_refl _, fun j h2 h3 => by omega⟩⟩
    | succ m ih =>
      intro i a hi h0 h1
      rcases step i a (by omega) h0 h1 with h | ⟨a', h2, h3, hB, h⟩
      · exact ⟨-1, h, .inl (by decide)⟩
      · obtain ⟨r, hr, hq⟩ := ih (i + 1) a' (by omega) h2 (by omega)
        refine ⟨r, h r hr, ?_⟩
        rcases hq with hq | ⟨q0, q1, q2⟩
        · exact .inl hq
        · refine .inr ⟨q0, by omega, fun j h4 h5 => ?_⟩
          by_cases e : j = i
          · subst e; exact hB
          · exact q2 j (by omega) h5
  intro a h0 h1
  obtain ⟨r, hr, hq⟩ := key xs.length 0 a (by omega) h0 h1
  refine ⟨r, hr, hq.imp_right fun ⟨q0, q1, q2⟩ => ⟨q0, q1, fun x hx => ?_⟩⟩
  obtain ⟨j, hj, rfl⟩ := List.mem_iff_getElem.1 hx
  rw [← getD_lt d hj]
  exact q2 j (Nat.zero_le _) hj

theorem specSmall_eq (c : Int) : spec_l01Small.f c = some (smallC c) := by
  unfold spec_l01Small.f smallC
  by_cases h : c ≥ 97
  · rw [if_pos h, decide_eq_true (show 97 ≤ c from h)]; rfl
  · rw [if_neg h, decide_eq_false (show ¬ 97 ≤ c from h)]; rfl
theorem specDigit_eq (c : Int) : spec_l01Digit.f c = some (digitC c) := by
  unfold spec_l01Digit.f digitC
  by_cases h : c ≥ 48
  · rw [if_pos h, decide_eq_true (show 48 ≤ c from h)]; rfl
  · rw [if_neg h, decide_eq_false (show ¬ 48 ≤ c from h)]; rfl
theorem specName_ev (b : ByteArray) : Ev (fun k => spec_l01Name.f k b) (nameOk b) := by
  unfold spec_l01Name.f nameOk
  have hz : b.toList = ([] : List UInt8) ↔ b.size = 0 := by
    rw [ByteArray.toList_eq, show b.size = b.data.toList.length from rfl]
    exact List.length_eq_zero_iff.symm
  by_cases h1 : b.size < 1
  · rw [decide_eq_false (by omega), Bool.false_and]
    simp only [show b.toList = ([] : List UInt8) from hz.2 (by omega), if_true]
    exact Ev.step (f := fun _ => some false) (fun k => by simp [spec_l01Name.j0]) (Ev.now _)
  · rw [decide_eq_true (show 1 ≤ b.size by omega), Bool.true_and]
    simp only [show ¬ b.toList = ([] : List UInt8) from fun e => by have := hz.1 e; omega, if_false]
    by_cases h10 : b.size > 10
    · rw [decide_eq_false (show ¬ b.size ≤ 10 by omega), Bool.false_and]
      simp only [show (b.size : Int) > 10 by omega, if_true]
      exact Ev.step (f := fun _ => some false) (fun k => by simp [spec_l01Name.j0]) (Ev.now _)
    · rw [decide_eq_true (show b.size ≤ 10 by omega), Bool.true_and]
      simp only [show ¬ (b.size : Int) > 10 by omega, if_false, show 0 < (b.size : Int) by omega, if_true, specSmall_eq, Option.bind_some]
      cases hs : smallC (bt b 0) with
      | false =>
        rw [Bool.false_and]
        exact Ev.step (f := fun _ => some false) (fun k => by simp [spec_l01Name.j0]) (Ev.now _)
      | true =>
        rw [Bool.true_and]
        refine Ev.step (f := fun k => spec_l01Name.l0 k b 0) (fun k => by simp [spec_l01Name.j0]) ?_
        have key := ev_all (fun k i => spec_l01Name.l0 k b i) (List.range b.size) 0 (fun i => nameC (bt b i)) false true (fun i hi hp s hs2 => ?_) (fun i hi hp => ?_) ?_
        · revert key
          cases (List.range b.size).all fun i => nameC (bt b i) <;> exact id
        · rw [List.length_range] at hi
          rw [getD_lt 0 (by simpa using hi), List.getElem_range] at hp
          refine Ev.step (fun k => ?_) hs2
          simp only [spec_l01Name.l0]
          rw [if_pos (by omega), if_pos (by omega), specSmall_eq, specDigit_eq]
          simp only [Option.bind_some]
          unfold nameC at hp
          cases h3 : smallC (bt b i) with
          | true => rw [if_pos rfl, w64 (by omega) (by omega)]; rfl
          | false =>
            rw [h3, Bool.false_or] at hp
            rw [hp, if_neg (by decide), if_pos rfl, w64 (by omega) (by omega)]
            rfl
        · rw [List.length_range] at hi
          rw [getD_lt 0 (by simpa using hi), List.getElem_range] at hp
          refine Ev.step (f := fun _ => some false) (fun k => ?_) (Ev.now _)
          simp only [spec_l01Name.l0]
          unfold nameC at hp
          rw [Bool.or_eq_false_iff] at hp
          rw [if_pos (by omega), if_pos (by omega), specSmall_eq, specDigit_eq, hp.1, hp.2]
          rfl
        · refine Ev.step (f := fun _ => some true) (fun k => ?_) (Ev.now _)
          simp only [spec_l01Name.l0]
          rw [List.length_range, if_neg (by omega)]

theorem Ev.succ {α : Type} {g : Nat → Option α} {r : α} (h : Ev (fun k => g (k + 1)) r) : Ev g r := Ev.step (fun _ => rfl) h
theorem Ev.now' {α : Type} {a b : α} (h : a = b) : Ev (fun _ => some a) b := h ▸ Ev.now a
theorem Ev.uniq {α : Type} {g : Nat → Option α} {a b : α} (h : Ev g a) (k : Ev g b) : a = b := by
  obtain ⟨K, h⟩ := h
  obtain ⟨K', k⟩ := k
  have h1 := h (max K K') (by omega)
  have h2 := k (max K K') (by omega)
  rw [h1] at h2
  exact Option.some.inj h2
theorem lit_i64 {x : Int} (h : (Lit.int .i64 x).wf = true) : -9223372036854775808 ≤ x ∧ x ≤ 9223372036854775807 := by
  have h2 : (decide (IntKind.i64.min ≤ x) && decide (x ≤ IntKind.i64.max)) = true := h
  simp only [Bool.and_eq_true, decide_eq_true_eq] at h2
  exact h2
/-- A loop over a list: on with another state, or out. -/
def runL {α σ ρ : Type} (body : Nat → σ → α → σ ⊕ ρ) (fin : σ → ρ) : Nat → List α → σ → ρ
  | _, [], s => fin s
  | i, x :: xs, s => match body i s x with | .inl s' => runL body fin (i + 1) xs s' | .inr r => r
theorem ev_run {α σ ρ : Type} (L : Nat → σ → Int → Option ρ) (body : Nat → σ → α → σ ⊕ ρ) (f : σ → ρ) (xs : List α) (d : α) (I : Nat → σ → Prop) (s0 : σ) (h0 : I 0 s0)
    (step : ∀ i s, i < xs.length → I i s → ∀ r, (match body i s (xs.getD i d) with | .inl s' => I (i + 1) s' ∧ Ev (fun k => L k s' ((i : Int) + 1)) r | .inr r' => r' = r) → Ev (fun k => L k s i) r)
    (keep : ∀ i s s', i < xs.length → I i s → body i s (xs.getD i d) = .inl s' → I (i + 1) s')
    (fin : ∀ s, I xs.length s → Ev (fun k => L k s xs.length) (f s)) : Ev (fun k => L k s0 0) (runL body f 0 xs s0) := by
  have key : ∀ (m i : Nat) (s : σ), i + m = xs.length → I i s → Ev (fun k => L k s (i : Int)) (runL body f i (xs.drop i) s) := by
    intro m
    induction m with
    | zero =>
      intro i s hi hI
      have : i = xs.length := by omega
      subst this
      rw [List.drop_length]
      exact fin s hI
    | succ m ih =>
      intro i s hi hI
      have hlt : i < xs.length := by omega
      refine step i s hlt hI _ ?_
      rw [List.drop_eq_getElem_cons hlt]
      simp only [runL]
      rw [← getD_lt d hlt]
      cases hb : body i s (xs.getD i d) with
      | inl s' => exact ⟨keep i s s' hlt hI hb, ih (i + 1) s' (by omega) (keep i s s' hlt hI hb)⟩
      | inr r => rfl
  exact key xs.length 0 s0 (by omega) h0

theorem specPost_ev (x : S52) : Ev (fun k => spec_l23One.f k [x]) (postOk x) := by
  unfold spec_l23One.f postOk
  have e : rd_T52 [x] 0 = x := rfl
  simp only [e, List.length_singleton, show (0 : Int) < ((1 : Nat) : Int) by decide, if_true, specIn_eq, Option.bind_some]
  refine Ev.bind (specName_ev x.f0) ?_
  cases nameOk x.f0 with
  | false => exact Ev.now _
  | true =>
    simp only [if_true, Bool.true_and]
    cases inR (-1000000000) 1000000000 x.f1 with
    | false => exact Ev.now _
    | true =>
      simp only [if_true, Bool.true_and]
      unfold spec_l23Day.f
      simp only [specIn_eq, Option.bind_some]
      by_cases h : x.f1 = 0
      · simp only [h, if_true, decide_true, Bool.not_true, Bool.false_and]
        exact Ev.now _
      · simp only [h, if_false, decide_false, Bool.not_false, Bool.true_and]
        exact Ev.now _
theorem specPosts_ev (l : List S52) (hl : l.length ≤ 1048576) : Ev (fun k => spec_l23Ok.f k l) (postsOk l) := by
  unfold spec_l23Ok.f
  have key := ev_all (fun k i => spec_l23Ok.l0 k l i) (List.range l.length) 0 (postAt l) false (decide (l.length ≤ 32)) (fun i hi hp s hs => ?_) (fun i hi hp => ?_) ?_
  · unfold postsOk
    revert key
    cases (List.range l.length).all (postAt l) with
    | true => rw [Bool.and_true]; exact id
    | false => rw [Bool.and_false]; exact id
  · rw [List.length_range] at hi
    rw [getD_lt 0 (by simpa using hi), List.getElem_range] at hp
    unfold postAt at hp
    rw [Bool.and_eq_true, Bool.or_eq_true, decide_eq_true_eq, decide_eq_true_eq] at hp
    refine Ev.succ ?_
    simp (disch := omega) only [spec_l23Ok.l0, if_pos, w64, rdP]
    have h1 := specPost_ev (l.getD i z52)
    rw [hp.1] at h1
    refine Ev.bind h1 ?_
    by_cases h0 : 0 < i
    · have := hp.2.resolve_left (by omega)
      simp (disch := omega) only [rdPs, if_pos, if_neg]
      exact hs
    · simp (disch := omega) only [if_pos, if_neg]
      exact hs
  · rw [List.length_range] at hi
    rw [getD_lt 0 (by simpa using hi), List.getElem_range] at hp
    unfold postAt at hp
    refine Ev.succ ?_
    simp (disch := omega) only [spec_l23Ok.l0, if_pos, w64, rdP]
    refine Ev.bind (specPost_ev (l.getD i z52)) ?_
    cases ho : postOk (l.getD i z52) with
    | false => exact Ev.now _
    | true =>
      rw [ho, Bool.true_and, Bool.or_eq_false_iff, decide_eq_false_iff_not, decide_eq_false_iff_not] at hp
      simp (disch := omega) only [rdPs, if_pos, if_neg]
      exact Ev.now _
  · refine Ev.succ ?_
    simp only [spec_l23Ok.l0, List.length_range, Int.lt_irrefl, if_false]
    exact Ev.now' (by rw [decide_eq_decide]; omega)

theorem implIn_eq (a lo hi : Int) : impl_within.f a lo hi = some (inR lo hi a) := rfl

theorem implBytes_ev (b : ByteArray) (hb : b.size ≤ 10) : Ev (fun k => impl_onlyNameBytes.f k b) ((List.range b.size).all fun i => nameC (bt b i)) := by
  unfold impl_onlyNameBytes.f
  have key := ev_all (fun k i => impl_onlyNameBytes.l0 k b b.size i) (List.range b.size) 0 (fun i => nameC (bt b i)) false true (fun i hi hp s hs2 => ?_) (fun i hi hp => ?_) ?_
  · revert key
    cases (List.range b.size).all fun i => nameC (bt b i) <;> exact id
  · rw [List.length_range] at hi
    rw [getD_lt 0 (by simpa using hi), List.getElem_range] at hp
    refine Ev.step (fun k => ?_) hs2
    simp only [impl_onlyNameBytes.l0]
    rw [if_pos (by omega), if_pos (by omega), if_pos (by omega), w64 (by omega) (by omega)]
    simp only [nameC, smallC, digitC, Bool.or_eq_true, Bool.and_eq_true, decide_eq_true_eq] at hp
    split
    · rw [if_neg (by omega), if_neg (by omega)]; rfl
    · split
      · omega
      · rfl
  · rw [List.length_range] at hi
    rw [getD_lt 0 (by simpa using hi), List.getElem_range] at hp
    refine Ev.step (f := fun _ => some false) (fun k => ?_) (Ev.now _)
    simp only [impl_onlyNameBytes.l0]
    rw [if_pos (by omega), if_pos (by omega), if_pos (by omega)]
    simp only [nameC, smallC, digitC, Bool.or_eq_false_iff, Bool.and_eq_false_iff, decide_eq_false_iff_not] at hp
    split
    · split
      · rfl
      · rw [if_pos (by omega)]
    · split
      · rw [if_neg (by omega), if_pos (by omega)]
      · omega
  · refine Ev.step (f := fun _ => some true) (fun k => ?_) (Ev.now _)
    simp only [impl_onlyNameBytes.l0]
    rw [List.length_range, if_neg (by omega)]
theorem implName_ev (b : ByteArray) : Ev (fun k => impl_IsName.f k b) (nameOk b) := by
  unfold impl_IsName.f nameOk
  by_cases h1 : b.size < 1
  · rw [decide_eq_false (by omega), Bool.false_and]
    simp only [show (b.size : Int) < 1 by omega, if_true]
    exact Ev.now _
  · rw [decide_eq_true (show 1 ≤ b.size by omega), Bool.true_and]
    simp only [show ¬ (b.size : Int) < 1 by omega, if_false]
    by_cases h10 : b.size > 10
    · rw [decide_eq_false (show ¬ b.size ≤ 10 by omega), Bool.false_and]
      simp only [show (b.size : Int) > 10 by omega, if_true]
      exact Ev.now _
    · rw [decide_eq_true (show b.size ≤ 10 by omega), Bool.true_and]
      simp only [show ¬ (b.size : Int) > 10 by omega, if_false, show 0 < (b.size : Int) by omega, if_true]
      unfold smallC
      by_cases g1 : bt b 0 < 97
      · simp only [g1, if_true, decide_eq_false (show ¬ 97 ≤ bt b 0 by omega), Bool.false_and]
        exact Ev.now _
      · simp only [g1, if_false, decide_eq_true (show 97 ≤ bt b 0 by omega), Bool.true_and]
        by_cases g2 : bt b 0 > 122
        · simp only [g2, if_true, decide_eq_false (show ¬ bt b 0 ≤ 122 by omega), Bool.false_and]
          exact Ev.now _
        · simp only [g2, if_false, decide_eq_true (show bt b 0 ≤ 122 by omega), Bool.true_and]
          refine Ev.bind (implBytes_ev b (by omega)) ?_
          exact Ev.now _

theorem implPost_ev (x : S52) : Ev (fun k => impl_Posting_valid.f k x.f0 x.f1 x.f2) (postOk x) := by
  unfold impl_Posting_valid.f postOk
  simp only [implIn_eq, Option.bind_some]
  refine Ev.bind (implName_ev x.f0) ?_
  cases nameOk x.f0 with
  | false => exact Ev.now _
  | true =>
    simp only [if_true, Bool.true_and]
    cases inR (-1000000000) 1000000000 x.f1 with
    | false => exact Ev.now _
    | true =>
      simp only [if_true, Bool.true_and]
      unfold impl_accountDay.f
      simp only [implIn_eq, Option.bind_some]
      by_cases h : x.f1 = 0
      · simp only [h, if_true, decide_true, Bool.not_true, Bool.false_and]
        exact Ev.now _
      · simp only [h, if_false, decide_false, Bool.not_false, Bool.true_and]
        exact Ev.now _
theorem implPosts_ev (l : List S52) (hl : l.length ≤ 1048576) : Ev (fun k => impl_ValidPostings.f k l) (postsOk l) := by
  unfold impl_ValidPostings.f postsOk
  by_cases hn : l.length > 32
  · rw [decide_eq_false (by omega), Bool.false_and]
    simp only [show (l.length : Int) > 32 by omega, if_true]
    exact Ev.now _
  rw [decide_eq_true (show l.length ≤ 32 by omega), Bool.true_and]
  simp only [show ¬ (l.length : Int) > 32 by omega, if_false]
  have key := ev_all (fun k i => impl_ValidPostings.l0 k l l l.length i) (List.range l.length) 0 (postAt l) false true (fun i hi hp s hs => ?_) (fun i hi hp => ?_) ?_
  · revert key
    cases (List.range l.length).all (postAt l) <;> exact id
  · rw [List.length_range] at hi
    rw [getD_lt 0 (by simpa using hi), List.getElem_range] at hp
    unfold postAt at hp
    rw [Bool.and_eq_true, Bool.or_eq_true, decide_eq_true_eq, decide_eq_true_eq] at hp
    refine Ev.succ ?_
    simp (disch := omega) only [impl_ValidPostings.l0, if_pos, w64, rdP]
    have h1 := implPost_ev (l.getD i z52)
    rw [hp.1] at h1
    refine Ev.bind h1 ?_
    by_cases h0 : 0 < i
    · have := hp.2.resolve_left (by omega)
      simp (disch := omega) only [rdPs, if_pos, if_neg]
      exact hs
    · simp (disch := omega) only [if_pos, if_neg]
      exact hs
  · rw [List.length_range] at hi
    rw [getD_lt 0 (by simpa using hi), List.getElem_range] at hp
    unfold postAt at hp
    refine Ev.succ ?_
    simp (disch := omega) only [impl_ValidPostings.l0, if_pos, w64, rdP]
    refine Ev.bind (implPost_ev (l.getD i z52)) ?_
    cases ho : postOk (l.getD i z52) with
    | false => exact Ev.now _
    | true =>
      rw [ho, Bool.true_and, Bool.or_eq_false_iff, decide_eq_false_iff_not, decide_eq_false_iff_not] at hp
      simp (disch := omega) only [rdPs, if_pos, if_neg]
      exact Ev.now _
  · refine Ev.succ ?_
    simp only [impl_ValidPostings.l0, List.length_range, Int.lt_irrefl, if_false]
    exact Ev.now _

abbrev Bs := List UInt8
theorem bs_irr (x : Bs) : ¬ x < x := List.lt_irrefl x
theorem bs_tr {x y z : Bs} (h1 : x < y) (h2 : y < z) : x < z := List.lt_trans h1 h2
theorem bs_tri {x y : Bs} (h1 : ¬ x < y) (h2 : x ≠ y) : y < x := by
  refine Classical.byContradiction fun h3 => h2 ?_
  exact List.le_antisymm (List.not_lt.1 h3) (List.not_lt.1 h1)
/-- Two lists in strict order with the same elements are one. -/
theorem strict_ext : ∀ (xs ys : List Bs), xs.Pairwise (· < ·) → ys.Pairwise (· < ·) → (∀ a, a ∈ xs ↔ a ∈ ys) → xs = ys
  | [], [], _, _, _ => rfl
  | [], y :: ys, _, _, h => absurd ((h y).2 List.mem_cons_self) (by simp)
  | x :: xs, [], _, _, h => absurd ((h x).1 List.mem_cons_self) (by simp)
  | x :: xs, y :: ys, hx, hy, h => by
    obtain ⟨hx1, hx2⟩ := List.pairwise_cons.1 hx
    obtain ⟨hy1, hy2⟩ := List.pairwise_cons.1 hy
    have e : x = y := by
      rcases List.mem_cons.1 ((h x).1 List.mem_cons_self) with e | m1
      · exact e
      · rcases List.mem_cons.1 ((h y).2 List.mem_cons_self) with e | m2
        · exact e.symm
        · exact absurd (bs_tr (hy1 x m1) (hx1 y m2)) (bs_irr y)
    subst e
    congr 1
    refine strict_ext xs ys hx2 hy2 fun a => ⟨fun ha => ?_, fun ha => ?_⟩
    · rcases List.mem_cons.1 ((h a).1 (List.mem_cons_of_mem _ ha)) with e | m
      · subst e; exact absurd (hx1 a ha) (bs_irr a)
      · exact m
    · rcases List.mem_cons.1 ((h a).2 (List.mem_cons_of_mem _ ha)) with e | m
      · subst e; exact absurd (hy1 a ha) (bs_irr a)
      · exact m
/-- x set into its place, if it is not there. -/
def insU (x : Bs) : List Bs → List Bs
  | [] => [x]
  | y :: ys => if y < x then y :: insU x ys else if y = x then y :: ys else x :: y :: ys
theorem insU_mem (x a : Bs) : ∀ ys : List Bs, a ∈ insU x ys ↔ a = x ∨ a ∈ ys
  | [] => by simp [insU]
  | y :: ys => by
    unfold insU
    split
    · rw [List.mem_cons, insU_mem x a ys, List.mem_cons]
      constructor
      · rintro (h | h | h) <;> simp [h]
      · rintro (h | h | h) <;> simp [h]
    · split
      · rename_i e
        subst e
        simp
      · simp
theorem insU_strict (x : Bs) : ∀ ys : List Bs, ys.Pairwise (· < ·) → (insU x ys).Pairwise (· < ·)
  | [], _ => by simp [insU]
  | y :: ys, h => by
    obtain ⟨h1, h2⟩ := List.pairwise_cons.1 h
    unfold insU
    split
    · rename_i hyx
      refine List.pairwise_cons.2 ⟨fun a ha => ?_, insU_strict x ys h2⟩
      rcases (insU_mem x a ys).1 ha with e | m
      · subst e; exact hyx
      · exact h1 a m
    · split
      · exact h
      · rename_i h3 h4
        have hxy := bs_tri h3 h4
        refine List.pairwise_cons.2 ⟨fun a ha => ?_, h⟩
        rcases List.mem_cons.1 ha with e | m
        · subst e; exact hxy
        · exact bs_tr hxy (h1 a m)
theorem foldU_spec : ∀ (xs out : List Bs), out.Pairwise (· < ·) → (xs.foldl (fun o x => insU x o) out).Pairwise (· < ·) ∧ ∀ a, a ∈ xs.foldl (fun o x => insU x o) out ↔ a ∈ xs ∨ a ∈ out
  | [], out, h => ⟨h, fun a => by simp⟩
  | x :: xs, out, h => by
    obtain ⟨h1, h2⟩ := foldU_spec xs (insU x out) (insU_strict x out h)
    refine ⟨h1, fun a => ?_⟩
    rw [List.foldl_cons, h2 a, insU_mem, List.mem_cons]
    constructor
    · rintro (h | h | h) <;> simp [h]
    · rintro ((h | h) | h) <;> simp [h]
/-- What is left of a row in order, each run once: in strict order, of the same elements. -/
theorem compact_spec (zs : List Bs) (hs : zs.Pairwise (· ≤ ·)) : (Lib.compact zs).Pairwise (· < ·) ∧ ∀ a, a ∈ Lib.compact zs ↔ a ∈ zs := by
  have hle : ∀ i j, i ≤ j → j < zs.length → zs[i]! ≤ zs[j]! := by
    intro i j hij hj
    rcases Nat.lt_or_eq_of_le hij with h | h
    · have := List.pairwise_iff_getElem.1 hs i j (by omega) hj h
      rwa [getElem!_pos zs i (by omega), getElem!_pos zs j hj]
    · subst h; exact List.le_refl _
  have key : ∀ m, m ≤ zs.length → (Lib.compactUpTo zs.toArray m).Pairwise (· < ·) ∧ (∀ a, a ∈ Lib.compactUpTo zs.toArray m ↔ ∃ j, j < m ∧ a = zs[j]!) := by
    intro m
    induction m with
    | zero => intro _; exact ⟨by simp [Lib.compactUpTo], by simp [Lib.compactUpTo]⟩
    | succ m ih =>
      intro hm
      obtain ⟨h1, h2⟩ := ih (by omega)
      have hg : ∀ j : Nat, zs.toArray[j]! = zs[j]! := fun j => by simp
      rw [Lib.compactUpTo_succ]
      cases hk : Lib.keeps zs.toArray m with
      | true =>
        rw [if_pos rfl, hg]
        refine ⟨List.pairwise_append.2 ⟨h1, List.pairwise_singleton _ _, fun a ha b hb => ?_⟩, fun a => ?_⟩
        · obtain ⟨j, hj, rfl⟩ := (h2 a).1 ha
          rw [List.mem_singleton] at hb
          subst hb
          have h3 := hle j (m - 1) (by omega) (by omega)
          have h4 := hle (m - 1) m (by omega) (by omega)
          have h5 : zs[m]! ≠ zs[m - 1]! := by
            simp only [Lib.keeps, decide_eq_true_eq, hg] at hk
            rcases hk with hk | hk
            · omega
            · exact hk
          have h6 : zs[m - 1]! < zs[m]! := Classical.byContradiction fun h7 => h5 (List.le_antisymm (List.not_lt.1 h7) h4)
          exact Classical.byContradiction fun h7 => (List.not_lt.2 (List.le_trans (List.not_lt.1 h7) h3)) h6
        · rw [List.mem_append, h2 a, List.mem_singleton]
          constructor
          · rintro (⟨j, hj, e⟩ | e)
            · exact ⟨j, by omega, e⟩
            · exact ⟨m, by omega, e⟩
          · rintro ⟨j, hj, e⟩
            by_cases hjm : j = m
            · subst hjm; exact .inr e
            · exact .inl ⟨j, by omega, e⟩
      | false =>
        rw [if_neg (by decide), List.append_nil]
        refine ⟨h1, fun a => ?_⟩
        rw [h2 a]
        have hm0 : 0 < m ∧ zs[m]! = zs[m - 1]! := by
          simp only [Lib.keeps, decide_eq_false_iff_not, hg] at hk
          exact ⟨by omega, Classical.byContradiction fun h => hk (.inr h)⟩
        constructor
        · rintro ⟨j, hj, e⟩; exact ⟨j, by omega, e⟩
        · rintro ⟨j, hj, e⟩
          by_cases hjm : j = m
          · subst hjm; exact ⟨j - 1, by omega, by rw [e, hm0.2]⟩
          · exact ⟨j, by omega, e⟩
  obtain ⟨h1, h2⟩ := key zs.length (Nat.le_refl _)
  refine ⟨h1, fun a => ?_⟩
  unfold Lib.compact
  rw [h2 a]
  constructor
  · rintro ⟨j, hj, rfl⟩
    rw [getElem!_pos zs j hj]
    exact List.getElem_mem _
  · intro ha
    obtain ⟨j, hj, rfl⟩ := List.mem_iff_getElem.1 ha
    exact ⟨j, hj, by rw [getElem!_pos zs j hj]⟩
theorem sort_spec (zs : List Bs) : (zs.mergeSort fun x y => decide (x ≤ y)).Pairwise (· ≤ ·) ∧ ∀ a, a ∈ (zs.mergeSort fun x y => decide (x ≤ y)) ↔ a ∈ zs := by
  refine ⟨?_, fun a => List.mem_mergeSort⟩
  have tr : ∀ a b c : Bs, decide (a ≤ b) = true → decide (b ≤ c) = true → decide (a ≤ c) = true := fun a b c h1 h2 => by simp only [decide_eq_true_eq] at *; exact List.le_trans h1 h2
  have tt : ∀ a b : Bs, (decide (a ≤ b) || decide (b ≤ a)) = true := fun a b => by simp only [Bool.or_eq_true, decide_eq_true_eq]; exact List.le_total a b
  exact (List.pairwise_mergeSort tr tt zs).imp fun h => of_decide_eq_true h
theorem fold_eq_compact (zs : List Bs) : zs.foldl (fun o x => insU x o) [] = Lib.compact (zs.mergeSort fun x y => decide (x ≤ y)) := by
  obtain ⟨h1, h2⟩ := foldU_spec zs [] List.Pairwise.nil
  obtain ⟨h3, h4⟩ := sort_spec zs
  obtain ⟨h5, h6⟩ := compact_spec _ h3
  exact strict_ext _ _ h1 h5 fun a => by rw [h2 a, h6 a, h4 a]; simp

theorem bytesLess_iff : ∀ (a b : List UInt8), Op.bytesLess a b = true ↔ a < b
  | [], [] => by simp [Op.bytesLess]
  | [], y :: ys => by simp [Op.bytesLess]
  | x :: xs, [] => by simp [Op.bytesLess]
  | x :: xs, y :: ys => by
    have ih := bytesLess_iff xs ys
    simp only [Op.bytesLess, List.cons_lt_cons_iff]
    by_cases h : x = y
    · subst h
      simp [ih]
    · simp [h]
def mkB (x : Bs) : ByteArray := ⟨x.toArray⟩
theorem mkB_toList (x : Bs) : (mkB x).toList = x := by rw [ByteArray.toList_eq]; rfl
theorem mkB_data (x : ByteArray) : mkB x.data.toList = x := rfl

def accB (l : List S52) : List Bs := (l.map fun x => x.f0.data.toList).foldl (fun o x => insU x o) []
theorem insU_append (x : Bs) : ∀ (P S : List Bs), (∀ y ∈ P, y < x) → insU x (P ++ S) = P ++ insU x S
  | [], S, _ => rfl
  | y :: P, S, h => by
    rw [List.cons_append, insU, if_pos (h y List.mem_cons_self), insU_append x P S (fun z hz => h z (List.mem_cons_of_mem _ hz))]
    rfl
theorem insU_len (x : Bs) : ∀ ys : List Bs, (insU x ys).length ≤ ys.length + 1
  | [] => by simp [insU]
  | y :: ys => by
    have := insU_len x ys
    unfold insU
    split
    · simp only [List.length_cons]; omega
    · split <;> simp
theorem rdB (B : List Bs) (i : Nat) (h : i < B.length) : rdOf ByteArray.empty (B.map mkB) (i : Int) = mkB (B.getD i []) := by
  unfold rdOf
  rw [Int.toNat_natCast, getD_lt _ (by simpa using h), List.getElem_map, getD_lt _ h]
theorem specAcc_in (l : List S52) (n : Nat) (hn : n < l.length) (hl : l.length ≤ 1048576) (x : Bs) (hx : (l.getD n z52).f0 = mkB x) (r : List ByteArray) : ∀ (S P : List Bs), (P ++ S).length ≤ 1048576 → (∀ y ∈ P, y < x) →
    Ev (fun k => spec_l23Accounts.l0 k l ((insU x (P ++ S)).map mkB) ((n : Int) + 1)) r → Ev (fun k => spec_l23Accounts.l1 k l ((P ++ S).map mkB) n (P.length : Int)) r
  | [], P, hlen, hP, h => by
    rw [List.append_nil] at hlen h ⊢
    have e : insU x P = P ++ [x] := by
      have := insU_append x P [] hP
      rw [List.append_nil] at this
      exact this
    rw [e, List.map_append] at h
    refine Ev.succ ?_
    simp (disch := (first | omega | (simp; done) | (simp; omega))) only [spec_l23Accounts.l1, List.length_map, if_pos, if_neg, Option.bind_some, rdP, hx, w64, List.nil_append, Int.toNat_natCast, List.take_of_length_le, List.drop_of_length_le, List.append_nil]
    exact h
  | y :: S, P, hlen, hP, h => by
    have hll : P.length < (P ++ y :: S).length := by simp
    have hget : (P ++ y :: S).getD P.length [] = y := by
      rw [List.getD_eq_getElem?_getD, List.getElem?_append_right (Nat.le_refl _), Nat.sub_self]
      rfl
    have ih := specAcc_in l n hn hl x hx r S (P ++ [y]) (by simpa using hlen)
    rw [List.append_assoc] at ih
    refine Ev.succ ?_
    simp (disch := (first | omega | (simp; omega))) only [spec_l23Accounts.l1, List.length_map, if_pos, rdP, hx, rdB, hget, mkB_toList, w64, bytesLess_iff]
    by_cases h1 : y < x
    · simp only [h1, if_true]
      have := ih (fun z hz => by rcases List.mem_append.1 hz with m | m; exact hP z m; rw [List.mem_singleton] at m; subst m; exact h1) h
      rw [List.length_append] at this
      exact this
    · simp only [h1, if_false]
      rw [insU_append x P _ hP] at h
      unfold insU at h
      rw [if_neg h1] at h
      by_cases h2 : y = x
      · rw [if_pos h2] at h
        simp only [h2, if_true]
        rw [h2] at h
        exact h
      · rw [if_neg h2] at h
        simp only [h2, if_false]
        have e1 : (((P ++ y :: S).map mkB).take P.length) = P.map mkB := by rw [List.map_append, List.take_left' (by simp)]
        have e2 : (((P ++ y :: S).map mkB).drop P.length) = (y :: S).map mkB := by rw [List.map_append, List.drop_left' (by simp)]
        have e3 : P.length + (y :: S).length ≤ 1048576 := by simpa using hlen
        simp only [List.length_cons] at e3
        rw [List.map_append] at h
        simp (disch := (first | omega | (simp; omega))) only [Option.bind_some, if_pos, Int.toNat_natCast, e1, e2, List.nil_append, List.append_assoc]
        exact h
theorem foldU_len (xs : List Bs) : ∀ o : List Bs, (xs.foldl (fun o x => insU x o) o).length ≤ o.length + xs.length := by
  induction xs with
  | nil => intro o; simp
  | cons x xs ih =>
    intro o
    have h1 := ih (insU x o)
    have h2 := insU_len x o
    simp only [List.foldl_cons, List.length_cons]
    omega
theorem specAcc_ev (l : List S52) (hl : l.length ≤ 32) : Ev (fun k => spec_l23Accounts.f k l) ((accB l).map mkB) := by
  unfold spec_l23Accounts.f
  have key : ∀ (m i : Nat) (o : List Bs), i + m = l.length → o.length ≤ i → Ev (fun k => spec_l23Accounts.l0 k l (o.map mkB) i) ((((l.drop i).map fun x => x.f0.data.toList).foldl (fun o x => insU x o) o).map mkB) := by
    intro m
    induction m with
    | zero =>
      intro i o hi ho
      rw [List.drop_of_length_le (by omega)]
      refine Ev.succ ?_
      simp (disch := omega) only [spec_l23Accounts.l0, if_neg]
      exact Ev.now _
    | succ m ih =>
      intro i o hi ho
      have hlt : i < l.length := by omega
      rw [List.drop_eq_getElem_cons hlt]
      simp only [List.map_cons, List.foldl_cons]
      have h2 := insU_len (l[i].f0.data.toList) o
      have h := ih (i + 1) (insU (l[i].f0.data.toList) o) (by omega) (by omega)
      refine Ev.succ ?_
      simp (disch := omega) only [spec_l23Accounts.l0, if_pos]
      exact specAcc_in l i hlt (by omega) (l[i].f0.data.toList) (by rw [getD_lt _ hlt]; rfl) _ o [] (by simp; omega) (by simp) h
  exact key l.length 0 [] (by omega) (by simp)
theorem implAcc_eq (l : List S52) (hl : l.length ≤ 1048576) : impl_accountsOf.f l = some ((accB l).map mkB) := by
  unfold impl_accountsOf.f
  rw [if_pos hl]
  unfold accL accB
  rw [fold_eq_compact]
  rfl

theorem foldl_take_succ {α σ : Type} (g : σ → α → σ) (xs : List α) (d : α) (s0 : σ) {i : Nat} (h : i < xs.length) : (xs.take (i + 1)).foldl g s0 = g ((xs.take i).foldl g s0) (xs.getD i d) := by
  rw [take_succ_getD xs d h, List.foldl_append]; rfl
/-- A loop that folds a list. -/
theorem ev_fold {α σ ρ : Type} (L : Nat → σ → Int → Option ρ) (xs : List α) (d : α) (g : σ → α → σ) (I : Nat → σ → Prop) (r : ρ) (s0 : σ) (h0 : I 0 s0)
    (step : ∀ i s, i < xs.length → I i s → I (i + 1) (g s (xs.getD i d)) ∧ (Ev (fun k => L k (g s (xs.getD i d)) ((i + 1 : Nat) : Int)) r → Ev (fun k => L k s (i : Int)) r))
    (fin : I xs.length (xs.foldl g s0) → Ev (fun k => L k (xs.foldl g s0) (xs.length : Int)) r) : Ev (fun k => L k s0 0) r := by
  have key : ∀ (m i : Nat), i + m = xs.length → I i ((xs.take i).foldl g s0) → Ev (fun k => L k ((xs.take i).foldl g s0) (i : Int)) r := by
    intro m
    induction m with
    | zero =>
      intro i hi hI
      have : i = xs.length := by omega
      subst this
      rw [List.take_length] at hI ⊢
      exact fin hI
    | succ m ih =>
      intro i hi hI
      obtain ⟨h1, h2⟩ := step i _ (by omega) hI
      have := ih (i + 1) (by omega)
      rw [foldl_take_succ g xs d s0 (by omega)] at this
      exact h2 (this h1)
  exact key xs.length 0 (by omega) h0

def balG (x : ByteArray) (d : Int) (s : Int) (p : S52) : Int := if p.f0.toList = x.toList then (if p.f2 ≤ d then wrap64 (s + p.f1) else s) else s
def balL (l : List S52) (x : ByteArray) (d : Int) : Int := l.foldl (balG x d) 0

theorem specBal_ev (l : List S52) (x : ByteArray) (d : Int) (hl : l.length ≤ 1048576) : Ev (fun k => spec_l23Balance.f k l x d) (balL l x d) := by
  unfold spec_l23Balance.f
  refine ev_fold (fun k s i => spec_l23Balance.l0 k l x d s i) l z52 (balG x d) (fun _ _ => True) (balL l x d) 0 trivial (fun i s hi _ => ⟨trivial, fun hs => ?_⟩) (fun _ => ?_)
  · refine Ev.succ ?_
    simp (disch := omega) only [spec_l23Balance.l0, if_pos, w64, rdP]
    unfold balG at hs
    by_cases c1 : (l.getD i z52).f0.toList = x.toList
    · by_cases c2 : (l.getD i z52).f2 ≤ d
      · simp only [c1, c2, if_true] at hs ⊢
        exact hs
      · simp only [c1, c2, if_true, if_false] at hs ⊢
        exact hs
    · simp only [c1, if_false] at hs ⊢
      exact hs
  · refine Ev.succ ?_
    simp only [spec_l23Balance.l0, Int.lt_irrefl, if_false]
    exact Ev.now _

theorem implBal_ev (l : List S52) (x : ByteArray) (d : Int) (hl : l.length ≤ 1048576) : Ev (fun k => impl_balanceOf.f k l x d) (balL l x d) := by
  unfold impl_balanceOf.f
  refine ev_fold (fun k s i => impl_balanceOf.l0 k x d s l l.length i) l z52 (balG x d) (fun _ _ => True) (balL l x d) 0 trivial (fun i s hi _ => ⟨trivial, fun hs => ?_⟩) (fun _ => ?_)
  · refine Ev.succ ?_
    simp (disch := omega) only [impl_balanceOf.l0, if_pos, w64, rdP]
    unfold balG at hs
    by_cases c1 : (l.getD i z52).f0.toList = x.toList
    · by_cases c2 : (l.getD i z52).f2 ≤ d
      · simp only [c1, c2, if_true] at hs ⊢
        exact hs
      · simp only [c1, c2, if_true, if_false] at hs ⊢
        exact hs
    · simp only [c1, if_false] at hs ⊢
      exact hs
  · refine Ev.succ ?_
    simp only [impl_balanceOf.l0, Int.lt_irrefl, if_false]
    exact Ev.now _

/-- A loop that keeps some elements of a list. -/
theorem ev_filter {α ρ : Type} (L : Nat → List α → Int → Option ρ) (xs : List α) (d : α) (p : α → Bool) (r : ρ)
    (step : ∀ (i : Nat) (acc : List α), i < xs.length → acc.length ≤ i → Ev (fun k => L k (if p (xs.getD i d) = true then acc ++ [xs.getD i d] else acc) ((i : Int) + 1)) r → Ev (fun k => L k acc (i : Int)) r)
    (fin : Ev (fun k => L k (xs.filter p) (xs.length : Int)) r) : Ev (fun k => L k [] 0) r := by
  have key : ∀ (m i : Nat), i + m = xs.length → Ev (fun k => L k ((xs.take i).filter p) (i : Int)) r := by
    intro m
    induction m with
    | zero =>
      intro i hi
      have : i = xs.length := by omega
      subst this
      rw [List.take_length]
      exact fin
    | succ m ih =>
      intro i hi
      have hlt : i < xs.length := by omega
      have h1 : ((xs.take i).filter p).length ≤ i := Nat.le_trans (List.length_filter_le _ _) (by rw [List.length_take]; omega)
      refine step i _ hlt h1 ?_
      have h := ih (i + 1) (by omega)
      rw [take_succ_getD xs d hlt, List.filter_append, List.filter_cons] at h
      split
      · rename_i hp
        simp only [hp, if_true, List.filter_nil] at h
        exact h
      · rename_i hp
        simp only [hp, Bool.false_eq_true, if_false, List.filter_nil, List.append_nil] at h
        exact h
  exact key xs.length 0 (by omega)

theorem ev_each {α β : Type} (f : α → Nat → Option β) (g : α → β) : ∀ xs : List α, (∀ x ∈ xs, Ev (f x) (g x)) → ∃ K, ∀ k, K ≤ k → ∀ x ∈ xs, f x k = some (g x)
  | [], _ => ⟨0, fun _ _ x hx => by cases hx⟩
  | y :: ys, h => by
    obtain ⟨K, hK⟩ := ev_each f g ys (fun x hx => h x (List.mem_cons_of_mem _ hx))
    obtain ⟨K', hK'⟩ := h y List.mem_cons_self
    refine ⟨max K K', fun k hk x hx => ?_⟩
    rcases List.mem_cons.1 hx with e | m
    · subst e; exact hK' k (by omega)
    · exact hK k (by omega) x m

def cvPosting (x : S49) : S52 := ⟨x.f0, x.f1, x.f2⟩
def okPosting1 (x : S52) : Prop := x.f0.size ≤ 1048576 ∧ (-9223372036854775808 ≤ x.f1 ∧ x.f1 ≤ 9223372036854775807) ∧ (-9223372036854775808 ≤ x.f2 ∧ x.f2 ≤ 9223372036854775807)

theorem szPosting_eq (x : S49) (a : Int) (w0 : x.f0.size ≤ maxLen) (h0 : 0 ≤ a) (h1 : a ≤ 1048576) : ∃ r, laws_szPosting.f (x.f0) (x.f1) (x.f2) a = some r ∧ (r < 0 ∨ (0 ≤ r ∧ r ≤ a ∧ x.f0.size ≤ 1048576)) := by
  unfold maxLen at w0
  unfold laws_szPosting.f wrap64
  repeat' split
  all_goals exact ⟨_, rfl, by omega⟩

def okPostingS (l : List S52) : Prop := l.length ≤ 1048576 ∧ ∀ x ∈ l, okPosting1 x
def cvPostingS (l : List S49) : List S52 := l.map cvPosting

theorem szPostingS_evo (l : List S49) (a : Int) (hw : l.length ≤ maxLen ∧ ∀ x0 ∈ l, x0.f0.size ≤ maxLen ∧ (Lit.int .i64 x0.f1).wf = true ∧ (Lit.int .i64 x0.f2).wf = true) (h0 : 0 ≤ a) (h1 : a ≤ 1048576) :
    ∃ r, Ev (fun k => laws_szPostingS.f k l a) r ∧ (r < 0 ∨ (0 ≤ r ∧ r ≤ a ∧ okPostingS (cvPostingS l))) := by
  obtain ⟨hl, hw⟩ := hw
  unfold maxLen at hl
  unfold laws_szPostingS.f
  rw [w64 (by omega) (by omega)]
  by_cases h : a - l.length < 0
  · simp only [h, if_true]
    exact ⟨-1, Ev.now _, .inl (by decide)⟩
  · simp only [h, if_false]
    obtain ⟨r, hr, hq⟩ := ev_sz (fun k a i => laws_szPostingS.l0 k l a i) l z49 (fun x => x.f0.size ≤ 1048576) (fun i a hi h0 h1 => by
      have hx := hw _ (getD_mem z49 hi)
      obtain ⟨r, hr, hq⟩ := szPosting_eq (l.getD i z49) a (hx.1) h0 h1
      have e : ∀ k, laws_szPostingS.l0 (k + 1) l a i = if r < 0 then some (-1) else laws_szPostingS.l0 k l r ((i + 1 : Nat) : Int) := fun k => by
        simp only [laws_szPostingS.l0]
        rw [if_pos (by omega), if_pos (by omega)]
        unfold rd_T49
        rw [Int.toNat_natCast, hr]
        simp only [Option.bind_some]
        rw [w64 (by omega) (by omega)]
        rfl
      rcases hq with hq | ⟨q0, q1, q2⟩
      · exact .inl (Ev.step (f := fun _ => some (-1)) (fun k => by rw [e, if_pos hq]) (Ev.now _))
      · exact .inr ⟨r, q0, q1, q2, fun s hs => Ev.step (fun k => by rw [e, if_neg (by omega)]) hs⟩) (fun a => Ev.step (f := fun _ => some a) (fun k => by simp only [laws_szPostingS.l0]; rw [if_neg (by omega)]) (Ev.now _)) (a - l.length) (by omega) (by omega)
    refine ⟨r, hr, hq.imp_right fun ⟨q0, q1, q2⟩ => ⟨q0, by omega, by simp only [cvPostingS, List.length_map]; omega, fun x hx => ?_⟩⟩
    obtain ⟨y, hy, rfl⟩ := List.mem_map.1 hx
    have hs := q2 y hy
    have hw := hw y hy
    exact ⟨hs, lit_i64 (hw.2.1), lit_i64 (hw.2.2)⟩

theorem toPosting_eq (x : S49) : laws_toPosting.f (x.f0) (x.f1) (x.f2) = some (x.f0, x.f1, x.f2) := by
  unfold laws_toPosting.f
  rfl

/-- A loop that appends one element a round. -/
theorem ev_build {β ρ : Type} (L : Nat → List β → Int → Option ρ) (n : Nat) (f : Nat → β) (r : ρ)
    (step : ∀ i acc, i < n → acc.length = i → acc = (List.range i).map f → Ev (fun k => L k (acc ++ [f i]) ((i + 1 : Nat) : Int)) r → Ev (fun k => L k acc (i : Int)) r)
    (fin : Ev (fun k => L k ((List.range n).map f) (n : Int)) r) : Ev (fun k => L k [] 0) r := by
  have key : ∀ (m i : Nat), i + m = n → Ev (fun k => L k ((List.range i).map f) (i : Int)) r := by
    intro m
    induction m with
    | zero =>
      intro i hi
      have : i = n := by omega
      subst this
      exact fin
    | succ m ih =>
      intro i hi
      refine step i _ (by omega) (by simp) rfl ?_
      have := ih (i + 1) (by omega)
      rwa [List.range_succ, List.map_append] at this
  exact key n 0 (by omega)
/-- A loop that stores one element a round. -/
theorem ev_fill {β ρ : Type} (L : Nat → List β → Int → Option ρ) (base : List β) (d : β) (f : Nat → β) (r : ρ)
    (step : ∀ i acc, i < base.length → acc.length = base.length → acc.getD i d = base.getD i d → Ev (fun k => L k (acc.set i (f i)) ((i + 1 : Nat) : Int)) r → Ev (fun k => L k acc (i : Int)) r)
    (fin : Ev (fun k => L k ((List.range base.length).map f) (base.length : Int)) r) : Ev (fun k => L k base 0) r := by
  have key : ∀ (m i : Nat), i + m = base.length → Ev (fun k => L k ((List.range i).map f ++ base.drop i) (i : Int)) r := by
    intro m
    induction m with
    | zero =>
      intro i hi
      have : i = base.length := by omega
      subst this
      rw [List.drop_length, List.append_nil]
      exact fin
    | succ m ih =>
      intro i hi
      have hlt : i < base.length := by omega
      refine step i _ hlt (by simp; omega) ?_ ?_
      · rw [List.getD_eq_getElem?_getD, List.getD_eq_getElem?_getD, List.getElem?_append_right (by simp)]
        simp
      · have := ih (i + 1) (by omega)
        rw [List.range_succ, List.map_append, List.append_assoc] at this
        have e : ((List.range i).map f ++ base.drop i).set i (f i) = (List.range i).map f ++ ([i].map f ++ base.drop (i + 1)) := by
          rw [List.set_append_right _ _ (by simp), List.drop_eq_getElem_cons hlt, List.length_map, List.length_range, Nat.sub_self, List.set_cons_zero]
          rfl
        rw [e]
        exact this
  exact key base.length 0 (by omega)
theorem getD_map_range {β : Type} (n : Nat) (f : Nat → β) (d : β) {i : Nat} (h : i < n) : ((List.range n).map f).getD i d = f i := by
  rw [List.getD_eq_getElem?_getD, List.getElem?_map, List.getElem?_range h]; rfl

/-- A loop that makes a list out of another one, element by element. -/
theorem ev_cmap {α β : Type} (L : Nat → List β → Int → Option (List β)) (xs : List α) (d : α) (d' : β) (g : α → β)
    (step : ∀ (ys : List β) (i : Nat), i < xs.length → ys.length = xs.length → ∀ r, Ev (fun k => L k (ys.set i (g (xs.getD i d))) ((i + 1 : Nat) : Int)) r → Ev (fun k => L k ys (i : Int)) r)
    (fin : ∀ ys, Ev (fun k => L k ys (xs.length : Int)) ys) : Ev (fun k => L k (List.replicate xs.length d') 0) (xs.map g) := by
  have e : xs.map g = (List.range xs.length).map (fun i => g (xs.getD i d)) := by
    refine List.ext_getElem (by simp) fun i h1 h2 => ?_
    rw [List.getElem_map, List.getElem_map, List.getElem_range, getD_lt d (by simpa using h1)]
  have key := ev_fill L (List.replicate xs.length d') d' (fun i => g (xs.getD i d)) (xs.map g) (fun i acc hi hl _ hs => ?_) ?_
  · exact key
  · rw [List.length_replicate] at hi hl
    exact step acc i hi hl _ hs
  · rw [List.length_replicate, ← e]
    exact fin _

theorem toPostingS_evo (l : List S49) (h : okPostingS (cvPostingS l)) : Ev (fun k => laws_toPostingS.f k l) (cvPostingS l) := by
  have hl : l.length ≤ 1048576 := by have := h.1; simpa [cvPostingS] using this
  refine Ev.congr (f := fun k => laws_toPostingS.l0 k l (List.replicate l.length z52) 0) (fun k => ?_) ?_
  · unfold laws_toPostingS.f
    rw [if_pos (by omega), if_pos (by omega), Int.toNat_natCast]
  · refine ev_cmap (fun k ys i => laws_toPostingS.l0 k l ys i) l z49 z52 cvPosting (fun ys i hi hl r hr => ?_) (fun ys => ?_)
    · refine Ev.step (fun k => ?_) hr
      simp only [laws_toPostingS.l0]
      rw [if_pos (by omega), if_pos (by omega), toPosting_eq]
      simp only [Option.bind_some]
      rw [if_pos (by omega), w64 (by omega) (by omega), Int.toNat_natCast]
      unfold rd_T49
      rw [Int.toNat_natCast]
      rfl
    · refine Ev.step (f := fun _ => some ys) (fun k => ?_) (Ev.now _)
      simp only [laws_toPostingS.l0]
      rw [if_neg (by omega)]

theorem eqPosting_eq (x : S52) : laws_eqPosting.f (x.f0) (x.f1) (x.f2) (x.f0) (x.f1) (x.f2) = some true := by
  unfold laws_eqPosting.f
  simp

theorem eqPostingS_evo (l : List S52) (h : okPostingS l) : Ev (fun k => laws_eqPostingS.f k l l) true := by
  have h := h.1
  refine Ev.congr (f := fun k => laws_eqPostingS.l0 k l l 0) (fun k => ?_) ?_
  · unfold laws_eqPostingS.f
    rw [if_pos rfl]
  · refine ev_eq laws_eqPostingS.l0 l (fun i hi hr => ?_) ?_
    · refine Ev.step (fun k => ?_) hr
      simp only [laws_eqPostingS.l0]
      rw [if_pos (by omega), if_pos (by omega), if_pos (by omega), eqPosting_eq]
      simp only [Option.bind_some, if_true]
      rw [w64 (by omega) (by omega)]
      rfl
    · refine Ev.step (f := fun _ => some true) (fun k => ?_) (Ev.now _)
      simp only [laws_eqPostingS.l0]
      rw [if_neg (by omega)]

theorem markText_ev0 (m : Nat) : ∀ (n : Nat) (x : Int) (s : ByteArray), 0 ≤ x → x < n → s.size + n ≤ 1000000000000000001 → n ≤ m → ∃ t, Ev (fun k => laws_markText.l0 k x s) t := by
  induction m with
  | zero => intro n x s h0 h1 h2 h3; omega
  | succ m ih =>
    intro n x s h0 h1 h2 h3
    by_cases hx : x > 0
    · have hd : Int.tdiv x 10 = x / 10 := Int.tdiv_eq_ediv_of_nonneg h0
      have hs : ∀ c : Int, (strOfNums [c]).size = 1 := fun _ => rfl
      have hs2 : ∀ c : Int, (strOfNums [c] ++ s).size = 1 + s.size := fun c => by rw [ByteArray.size_append, hs]
      obtain ⟨t, ht⟩ := ih (n - 1) (x / 10) (strOfNums [(wrap64 (48 + (Int.tmod x 10))) % 256] ++ s) (by omega) (by omega) (by rw [hs2]; omega) (by omega)
      refine ⟨t, Ev.succ ?_⟩
      simp only [laws_markText.l0, hx, if_true, Option.bind_some, hs, hd]
      rw [w64 (x := x / 10) (by omega) (by omega)]
      simp only [show 1 + s.size ≤ 9223372036854775807 by omega, if_true]
      exact ht
    · refine ⟨(⟨#[109]⟩ : ByteArray) ++ s, Ev.succ ?_⟩
      simp only [laws_markText.l0, hx, if_false, show 1 + s.size ≤ 9223372036854775807 by omega, if_true]
      exact Ev.now _
theorem markText_ex (x : Int) : ∃ t, x ≤ 1000000000000000000 → Ev (fun k => laws_markText.f k x) t := by
  by_cases hb : x ≤ 1000000000000000000
  · by_cases h : x ≤ 0
    · refine ⟨⟨#[109, 48]⟩, fun _ => ?_⟩
      unfold laws_markText.f
      simp only [h, if_true]
      exact Ev.now _
    · obtain ⟨t, ht⟩ := markText_ev0 _ (x.toNat + 1) x ⟨#[]⟩ (by omega) (by omega) (by show 0 + _ ≤ _; omega) (Nat.le_refl _)
      refine ⟨t, fun _ => ?_⟩
      unfold laws_markText.f
      simp only [h, if_false]
      exact ht
  · exact ⟨⟨#[]⟩, fun h => absurd h hb⟩
/-- The text of a mark. -/
noncomputable def mtx (x : Int) : ByteArray := Classical.choose (markText_ex x)
theorem markText_ev (x : Int) (h : x ≤ 1000000000000000000) : Ev (fun k => laws_markText.f k x) (mtx x) := Classical.choose_spec (markText_ex x) h

noncomputable def mk1Posting (k : Int) : S52 := ⟨mtx (k), k + 1, k + 1 + 1⟩
noncomputable def mkPostingS (l : List S52) (k : Int) : List S52 := (List.range l.length).map fun i : Nat => mk1Posting (k + 3 * (i : Int))
def cntPostingS (l : List S52) : Int := 3 * (l.length : Int)
theorem mkPostingS_len (l : List S52) (k : Int) : (mkPostingS l k).length = l.length := by simp [mkPostingS]
theorem cntPostingS_bd (l : List S52) (h : okPostingS l) : 0 ≤ cntPostingS l ∧ cntPostingS l ≤ 2000000000000 := by have h := h.1; unfold cntPostingS; omega
theorem rdsetPosting (l : List S52) (i : Nat) (v : S52) (h : i < l.length) : rd_T52 (l.set i v) (i : Int) = v := by
  unfold rd_T52
  rw [Int.toNat_natCast, getD_lt _ (by simpa using h), List.getElem_set_self]
set_option maxRecDepth 10000 in
theorem markPostingS_ev (l : List S52) (k0 : Int) (h : okPostingS l) (h0 : 0 ≤ k0) (h1 : k0 ≤ 1000000000000000) : Ev (fun k => laws_markPostingS.f k l k0) (k0 + cntPostingS l, mkPostingS l k0) := by
  have h := h.1
  unfold laws_markPostingS.f
  have key := ev_fill (fun k acc i => laws_markPostingS.l0 k acc (k0 + 3 * i) i) l z52 (fun i => mk1Posting (k0 + 3 * (i : Int))) (k0 + cntPostingS l, mkPostingS l k0) (fun i acc hi hl _ hs => ?_) ?_
  · simpa using key
  · refine Ev.succ ?_
    simp (disch := omega) only [laws_markPostingS.l0, if_pos, w64, Option.bind_some, Int.toNat_natCast]
    refine Ev.bind (markText_ev _ (by omega)) ?_
    (try simp (disch := omega) only [if_pos, w64, Option.bind_some, Int.toNat_natCast])
    simp (disch := (first | omega | (simp only [List.length_set]; omega))) only [rdsetPosting, List.set_set]
    refine Ev.congr (fun k => ?_) hs
    simp only [mk1Posting]
    congr 1
    all_goals first | rfl | omega | (push_cast; omega)
  · refine Ev.succ ?_
    simp only [laws_markPostingS.l0]
    simp only [mkPostingS, List.length_map, List.length_range, Int.lt_irrefl, if_false]
    exact Ev.now' (by unfold cntPostingS; rfl)

def okStringS (l : List ByteArray) : Prop := l.length ≤ 1048576

theorem eqStringS_evo (l : List ByteArray) (h : okStringS l) : Ev (fun k => laws_eqStringS.f k l l) true := by
  unfold okStringS at h
  refine Ev.congr (f := fun k => laws_eqStringS.l0 k l l 0) (fun k => ?_) ?_
  · unfold laws_eqStringS.f
    rw [if_pos rfl]
  · refine ev_eq laws_eqStringS.l0 l (fun i hi hr => ?_) ?_
    · refine Ev.step (fun k => ?_) hr
      simp only [laws_eqStringS.l0]
      rw [if_pos (by omega), if_pos (by omega), if_pos (by omega), if_pos trivial, w64 (by omega) (by omega)]
      rfl
    · refine Ev.step (f := fun _ => some true) (fun k => ?_) (Ev.now _)
      simp only [laws_eqStringS.l0]
      rw [if_neg (by omega)]

noncomputable def mkStringS (l : List ByteArray) (k : Int) : List ByteArray := (List.range l.length).map fun i : Nat => mtx (k + (i : Int))
def cntStringS (l : List ByteArray) : Int := l.length
theorem mkStringS_len (l : List ByteArray) (k : Int) : (mkStringS l k).length = l.length := by simp [mkStringS]
theorem cntStringS_bd (l : List ByteArray) (h : okStringS l) : 0 ≤ cntStringS l ∧ cntStringS l ≤ 2000000000000 := by unfold okStringS at h; unfold cntStringS; omega
theorem markStringS_ev (l : List ByteArray) (k0 : Int) (h : okStringS l) (h0 : 0 ≤ k0) (h1 : k0 ≤ 1000000000000000) : Ev (fun k => laws_markStringS.f k l k0) (k0 + cntStringS l, mkStringS l k0) := by
  unfold okStringS at h
  unfold laws_markStringS.f
  have key := ev_fill (fun k acc i => laws_markStringS.l0 k acc (k0 + i) i) l ByteArray.empty (fun i => mtx (k0 + (i : Int))) (k0 + cntStringS l, mkStringS l k0) (fun i acc hi hl _ hs => ?_) ?_
  · simpa using key
  · refine Ev.succ ?_
    simp (disch := omega) only [laws_markStringS.l0, if_pos, w64, Option.bind_some, Int.toNat_natCast]
    refine Ev.bind (markText_ev _ (by omega)) ?_
    (try simp (disch := omega) only [if_pos, w64, Option.bind_some, Int.toNat_natCast])
    refine Ev.congr (fun k => ?_) hs
    congr 1
    all_goals first | rfl | omega | (push_cast; omega)
  · refine Ev.succ ?_
    simp only [laws_markStringS.l0]
    simp only [mkStringS, List.length_map, List.length_range, Int.lt_irrefl, if_false]
    exact Ev.now' (by unfold cntStringS; rfl)
theorem heldStringS_ev (l : List ByteArray) (k0 : Int) (h : okStringS l) (h0 : 0 ≤ k0) (h1 : k0 ≤ 1000000000000000) : Ev (fun k => laws_heldStringS.f k (mkStringS l k0) k0) (k0 + cntStringS l) := by
  unfold okStringS at h
  unfold laws_heldStringS.f
  have key : ∀ (m i : Nat), i + m = l.length → Ev (fun k => laws_heldStringS.l0 k (mkStringS l k0) (k0 + i) i) (k0 + cntStringS l) := by
    intro m
    induction m with
    | zero =>
      intro i hi
      refine Ev.succ ?_
      simp only [laws_heldStringS.l0, mkStringS_len, show ¬ (i : Int) < (l.length : Int) by omega, if_false]
      exact Ev.now' (by unfold cntStringS; omega)
    | succ m ih =>
      intro i hi
      have hs := ih (i + 1) (by omega)
      have e : rdOf ByteArray.empty (mkStringS l k0) (i : Int) = mtx (k0 + (i : Int)) := by
        unfold rdOf
        rw [Int.toNat_natCast]
        exact getD_map_range _ _ _ (by omega)
      refine Ev.succ ?_
      simp only [laws_heldStringS.l0, mkStringS_len, e]
      simp (disch := first | omega | rfl) only [if_pos, if_true, w64, Option.bind_some]
      refine Ev.bind (markText_ev _ (by omega)) ?_
      simp (disch := first | omega | rfl) only [if_pos, if_true, w64, Option.bind_some]
      refine Ev.congr (fun k => ?_) hs
      congr 1
      all_goals first | rfl | omega | (push_cast; omega)
  simpa using key l.length 0 (by omega)

def overP (l : List S52) (d : Int) (x : ByteArray) : Bool := decide (balL l x d < 0)
theorem core : ∀ (l0 : List (S52)) (a1 : Int) (o0 : okPostingS l0) (w1 : (Lit.int .i64 a1).wf = true), ∃ (r1 : List ByteArray) (r2 : Int), Ev (fun k => spec_OverdrawnAt.f k l0 a1) (r1, r2) ∧ Ev (fun k => impl_OverdrawnAt.f k l0 a1) (r1, r2) ∧ okStringS r1 := by
  intro l0 a1 o0 w1
  have hl := o0.1
  cases h : postsOk l0 with
  | false =>
    refine ⟨[], 1, ?_, ?_, by simp [okStringS]⟩
    · unfold spec_OverdrawnAt.f
      have e := specPosts_ev l0 hl
      rw [h] at e
      exact Ev.bind e (Ev.now _)
    · unfold impl_OverdrawnAt.f
      have e := implPosts_ev l0 hl
      rw [h] at e
      exact Ev.bind e (Ev.now _)
  | true =>
    have h32 : l0.length ≤ 32 := by
      unfold postsOk at h
      rw [Bool.and_eq_true, decide_eq_true_eq] at h
      exact h.1
    have e1 := specPosts_ev l0 hl
    have e2 := implPosts_ev l0 hl
    rw [h] at e1 e2
    have hlen : ((accB l0).map mkB).length ≤ 32 := by
      have := foldU_len (l0.map fun x => x.f0.data.toList) []
      simp only [List.length_nil, List.length_map] at this
      unfold accB
      rw [List.length_map]
      omega
    cases hd : inR 0 100000 a1 with
    | false =>
      refine ⟨[], 2, ?_, ?_, by simp [okStringS]⟩
      · unfold spec_OverdrawnAt.f
        refine Ev.bind e1 ?_
        unfold spec_l23Day.f
        simp only [specIn_eq, hd, Option.bind_some]
        exact Ev.now _
      · unfold impl_OverdrawnAt.f
        refine Ev.bind e2 ?_
        unfold impl_accountDay.f
        simp only [implIn_eq, hd, Option.bind_some]
        exact Ev.now _
    | true =>
      refine ⟨((accB l0).map mkB).filter (overP l0 a1), 0, ?_, ?_, ?_⟩
      · unfold spec_OverdrawnAt.f
        refine Ev.bind e1 ?_
        unfold spec_l23Day.f
        simp only [specIn_eq, hd, Option.bind_some, if_true]
        refine Ev.bind (specAcc_ev l0 h32) ?_
        refine ev_filter (fun k acc i => spec_OverdrawnAt.l0 k l0 a1 ((accB l0).map mkB) acc i) ((accB l0).map mkB) ByteArray.empty (overP l0 a1) _ (fun i acc hi ha hs => ?_) ?_
        · refine Ev.succ ?_
          have er : rdOf ByteArray.empty ((accB l0).map mkB) (i : Int) = ((accB l0).map mkB).getD i ByteArray.empty := by unfold rdOf; rw [Int.toNat_natCast]
          simp (disch := omega) only [spec_OverdrawnAt.l0, if_pos, w64, er]
          refine Ev.bind (specBal_ev l0 _ a1 hl) ?_
          unfold overP at hs
          by_cases c : balL l0 (((accB l0).map mkB).getD i ByteArray.empty) a1 < 0
          · simp only [c, if_true, decide_true] at hs ⊢
            (try simp (disch := omega) only [if_pos])
            exact hs
          · simp only [c, if_false, decide_false, Bool.false_eq_true] at hs ⊢
            exact hs
        · refine Ev.succ ?_
          simp only [spec_OverdrawnAt.l0, Int.lt_irrefl, if_false]
          exact Ev.now _
      · unfold impl_OverdrawnAt.f
        refine Ev.bind e2 ?_
        unfold impl_accountDay.f
        simp only [implIn_eq, hd, Option.bind_some, if_true, implAcc_eq l0 hl]
        obtain ⟨K, hK⟩ := ev_each (fun x k => impl_balanceOf.f k l0 x a1) (fun x => balL l0 x a1) ((accB l0).map mkB) (fun x _ => implBal_ev l0 x a1 hl)
        refine ⟨K, fun k hk => ?_⟩
        have hK := hK k hk
        refine (if_pos ⟨by omega, fun x hx => by rw [hK x hx]; simp⟩).trans ?_
        congr 2
        refine List.filter_congr fun x hx => ?_
        unfold overB overP
        rw [hK x hx, ← decide_not, decide_eq_decide, Option.getD_some]
        omega
      · have := List.length_filter_le (overP l0 a1) ((accB l0).map mkB)
        unfold okStringS
        omega

end Go.Proofs.Ythnjmdjhpipopab.Pure
