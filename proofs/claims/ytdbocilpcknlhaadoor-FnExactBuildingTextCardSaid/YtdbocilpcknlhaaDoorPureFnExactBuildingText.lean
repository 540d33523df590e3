/- The program's BuildingText returns what the reference's returns, for all arguments. No condition beyond the statement's own; the card ties the laid variables of Go's library to the program's text: a table of powers of ten, two errors, and one size. -/
import Derived.Test.YtdbocilpcknlhaaDoorPFnExactBuildingTextx0
import Derived.Test.YtdbocilpcknlhaaDoorPFnExactBuildingTextx1
import Derived.Test.YtdbocilpcknlhaaDoorPFnExactBuildingTextx2
import Derived.Test.YtdbocilpcknlhaaDoorPFnExactBuildingTextx3
import Derived.Test.YtdbocilpcknlhaaDoorPFnExactBuildingTextx4
import Derived.Test.YtdbocilpcknlhaaDoorPFnExactBuildingTextx5
import Derived.Test.YtdbocilpcknlhaaDoorPFnExactBuildingTextx6
import Derived.Test.YtdbocilpcknlhaaDoorPFnExactBuildingTextx7
namespace Go.Proofs.YtdbocilpcknlhaaDoor.Pure
open Go.RowKit Go.Proofs.YtdbocilpcknlhaaDoor.PFnExactBuildingText Go.Proofs.YtdbocilpcknlhaaDoorW.PrintWords Go.Proofs.YtdbocilpcknlhaaDoorW.PrintLast Go.Proofs.YtdbocilpcknlhaaDoorW.PrintMore
set_option linter.unusedVariables false
set_option linter.unusedSimpArgs false
theorem w64 {x : Int} (h0 : -9223372036854775808 ≤ x) (h1 : x ≤ 9223372036854775807) : wrap64 x = x := by unfold wrap64; omega
theorem rd_nat (l : List Int) (i : Nat) : rd l (i : Int) = l.getD i 0 := by unfold rd; rw [Int.toNat_natCast]
theorem getD_mem {α : Type} {l : List α} {i : Nat} (d : α) (h : i < l.length) : l.getD i d ∈ l := by
 rw [List.getD_eq_getElem?_getD, List.getElem?_eq_getElem h]; exact List.getElem_mem _
theorem getD_lt {α : Type} {l : List α} {i : Nat} (d : α) (h : i < l.length) : l.getD i d = l[i] := by
 rw [List.getD_eq_getElem?_getD, List.getElem?_eq_getElem h]; rfl
theorem take_succ_getD {α : Type} (l : List α) (d : α) {i : Nat} (h : i < l.length) : l.take (i + 1) = l.take i ++ [l.getD i d] := by
 rw [List.take_succ_eq_append_getElem h, getD_lt d h]
theorem ev_copy {α : Type} (L : Nat → List α → List α → Int → Option (List α)) (xs : List α) (d d' : α)
  (step : ∀ ys i, i < xs.length → ys.length = xs.length → ∀ r, Ev (fun k => L k xs (ys.set i (xs.getD i d)) ((i + 1 : Nat) : Int)) r → Ev (fun k => L k xs ys (i : Int)) r)
  (fin : ∀ ys, Ev (fun k => L k xs ys (xs.length : Int)) ys) : Ev (fun k => L k xs (List.replicate xs.length d') 0) xs := by
 have key : ∀ (m i : Nat) (ys : List α), i + m = xs.length → ys.length = xs.length → (∀ j, j < i → ys[j]? = xs[j]?) → Ev (fun k => L k xs ys (i : Int)) xs := by
  intro m
  induction m with
  | zero =>
   intro i ys hi hl hj
   have e : ys = xs := List.ext_getElem? (fun j => by
    by_cases h : j < xs.length
    ·
     exact hj j (by omega)
    ·
     rw [List.getElem?_eq_none (by omega), List.getElem?_eq_none (by omega)])
   have : i = xs.length := by omega
   subst this
   rw [e]
   exact fin xs
  | succ m ih =>
   intro i ys hi hl hj
   refine step ys i (by omega) hl xs (ih (i + 1) _ (by omega) (by rw [List.length_set]; exact hl) (fun j hjj => ?_))
   by_cases h : j = i
   ·
    subst h
    rw [List.getElem?_set_self (by omega), getD_lt d (by omega), List.getElem?_eq_getElem (by omega)]
   ·
    rw [List.getElem?_set_ne (by omega)]
    exact hj j (by omega)
 exact key xs.length 0 _ (by omega) (List.length_replicate ..) (fun j hj => absurd hj (Nat.not_lt_zero _))
theorem ev_eq {α : Type} (L : Nat → List α → List α → Int → Option Bool) (xs : List α) 
  (step : ∀ i, i < xs.length → Ev (fun k => L k xs xs ((i + 1 : Nat) : Int)) true → Ev (fun k => L k xs xs (i : Int)) true)
  (fin : Ev (fun k => L k xs xs (xs.length : Int)) true) : Ev (fun k => L k xs xs 0) true := by
 have key : ∀ (m i : Nat), i + m = xs.length → Ev (fun k => L k xs xs (i : Int)) true := by
  intro m
  induction m with
  | zero =>
   intro i hi
   have : i = xs.length := by omega
   subst this
   exact fin
  | succ m ih => intro i hi; exact step i (by omega) (ih (i + 1) (by omega))
 exact key xs.length 0 (by omega)
theorem toInt64S_ev (l : List Int) (h : l.length ≤ 35184372088832) : Ev (fun k => laws_toInt64S.f k l) l := by
 refine Ev.congr (f := fun k => laws_toInt64S.l0 k l (List.replicate l.length 0) 0) (fun k => ?_) ?_
 ·
  unfold laws_toInt64S.f
  rw [if_pos (by omega), if_pos (by omega), Int.toNat_natCast]
 ·
  refine ev_copy laws_toInt64S.l0 l 0 0 (fun ys i hi hl r hr => ?_) (fun ys => ?_)
  ·
   refine Ev.step (fun k => ?_) hr
   simp only [laws_toInt64S.l0]
   rw [if_pos (by omega), if_pos (by omega), if_pos (by omega), w64 (by omega) (by omega), rd_nat, Int.toNat_natCast]
   rfl
  ·
   refine Ev.step (f := fun _ => some ys) (fun k => ?_) (Ev.now _)
   simp only [laws_toInt64S.l0]
   rw [if_neg (by omega)]
theorem eqInt64S_ev (l : List Int) (h : l.length ≤ 9223372036854775806) : Ev (fun k => laws_eqInt64S.f k l l) true := by
 refine Ev.congr (f := fun k => laws_eqInt64S.l0 k l l 0) (fun k => ?_) ?_
 ·
  unfold laws_eqInt64S.f
  rw [if_pos rfl]
 ·
  refine ev_eq laws_eqInt64S.l0 l (fun i hi hr => ?_) ?_
  ·
   refine Ev.step (fun k => ?_) hr
   simp only [laws_eqInt64S.l0]
   rw [if_pos (by omega), if_pos (by omega), if_pos (by omega), if_pos trivial, w64 (by omega) (by omega)]
   rfl
  ·
   refine Ev.step (f := fun _ => some true) (fun k => ?_) (Ev.now _)
   simp only [laws_eqInt64S.l0]
   rw [if_neg (by omega)]
def smallC (c : Int) : Bool := decide (97 ≤ c) && decide (c ≤ 122)
def digitC (c : Int) : Bool := decide (48 ≤ c) && decide (c ≤ 57)
def nameC (c : Int) : Bool := smallC c || digitC c
def nameOk (b : ByteArray) : Bool := decide (1 ≤ b.size) && (decide (b.size ≤ 10) && (smallC (bt b 0) && (List.range b.size).all fun i => nameC (bt b i)))
def bldOk (p : ByteArray) (a b c d : Int) (l : List Int) : Bool := nameOk p && (inB 0 15 a && (inB 0 1000000 b && (inB 0 100000 c && (inB (-4000) 4500 d && (decide (l.length = 24) && l.all (inB 0 3000))))))
theorem bldOk_facts {p : ByteArray} {a b c d : Int} {l : List Int} (h : bldOk p a b c d l = true) : nameOk p = true ∧ p.size ≤ 10 ∧ (0 ≤ a ∧ a ≤ 15) ∧ (0 ≤ b ∧ b ≤ 1000000) ∧ (0 ≤ c ∧ c ≤ 100000) ∧ (-4000 ≤ d ∧ d ≤ 4500) ∧ l.length = 24 ∧ ∀ x ∈ l, 0 ≤ x ∧ x ≤ 3000 := by
 unfold bldOk at h
 simp only [Bool.and_eq_true, decide_eq_true_eq, List.all_eq_true, inB] at h
 obtain ⟨h1, h2, h3, h4, h5, h6, h7⟩ := h
 have hs : p.size ≤ 10 := by
  unfold nameOk at h1
  simp only [Bool.and_eq_true, decide_eq_true_eq] at h1
  exact h1.2.1
 exact ⟨h1, hs, h2, h3, h4, h5, h6, h7⟩
theorem specSmall_eq (c : Int) : spec_l01Small.f c = some (smallC c) := by
 unfold spec_l01Small.f smallC
 by_cases h : c ≥ 97
 ·
  rw [if_pos h, decide_eq_true (show 97 ≤ c from h)]; rfl
 ·
  rw [if_neg h, decide_eq_false (show ¬ 97 ≤ c from h)]; rfl
theorem specDigit_eq (c : Int) : spec_l01Digit.f c = some (digitC c) := by
 unfold spec_l01Digit.f digitC
 by_cases h : c ≥ 48
 ·
  rw [if_pos h, decide_eq_true (show 48 ≤ c from h)]; rfl
 ·
  rw [if_neg h, decide_eq_false (show ¬ 48 ≤ c from h)]; rfl
theorem ev_all {α ρ : Type} (L : Nat → Int → Option ρ) (xs : List α) (d : α) (p : α → Bool) (b c : ρ)
  (step : ∀ i, i < xs.length → p (xs.getD i d) = true → ∀ r, Ev (fun k => L k ((i + 1 : Nat) : Int)) r → Ev (fun k => L k (i : Int)) r)
  (bad : ∀ i, i < xs.length → p (xs.getD i d) = false → Ev (fun k => L k (i : Int)) b)
  (fin : Ev (fun k => L k (xs.length : Int)) c) : Ev (fun k => L k 0) (if xs.all p = true then c else b) := by
 have key : ∀ (m i : Nat), i + m = xs.length → Ev (fun k => L k (i : Int)) (if (xs.drop i).all p = true then c else b) := by
  intro m
  induction m with
  | zero =>
   intro i hi
   have : i = xs.length := by omega
   subst this
   rw [List.drop_length]
   exact fin
  | succ m ih =>
   intro i hi
   have hlt : i < xs.length := by omega
   rw [List.drop_eq_getElem_cons hlt, List.all_cons, ← getD_lt d hlt]
   cases hp : p (xs.getD i d) with
   | true => rw [Bool.true_and]; exact step i hlt hp _ (ih (i + 1) (by omega))
   | false => rw [Bool.false_and, if_neg (by decide)]; exact bad i hlt hp
 exact key xs.length 0 (by omega)
theorem specName_ev (b : ByteArray) : Ev (fun k => spec_l01Name.f k b) (nameOk b) := by
 unfold spec_l01Name.f nameOk
 have hz : b.toList = ([] : List UInt8) ↔ b.size = 0 := by
  rw [ByteArray.toList_eq, show b.size = b.data.toList.length from rfl]
  exact List.length_eq_zero_iff.symm
 by_cases h1 : b.size < 1
 ·
  rw [decide_eq_false (by omega), Bool.false_and]
  simp only [show b.toList = ([] : List UInt8) from hz.2 (by omega), if_true]
  exact Ev.step (f := fun _ => some false) (fun k => by simp [spec_l01Name.j0]) (Ev.now _)
 ·
  rw [decide_eq_true (show 1 ≤ b.size by omega), Bool.true_and]
  simp only [show ¬ b.toList = ([] : List UInt8) from fun e => by have := hz.1 e; omega, if_false]
  by_cases h10 : b.size > 10
  ·
   rw [decide_eq_false (show ¬ b.size ≤ 10 by omega), Bool.false_and]
   simp only [show (b.size : Int) > 10 by omega, if_true]
   exact Ev.step (f := fun _ => some false) (fun k => by simp [spec_l01Name.j0]) (Ev.now _)
  ·
   rw [decide_eq_true (show b.size ≤ 10 by omega), Bool.true_and]
   simp only [show ¬ (b.size : Int) > 10 by omega, if_false, show 0 < (b.size : Int) by omega, if_true, specSmall_eq, Option.bind_some]
   cases hs : smallC (bt b 0) with
   | false =>
    rw [Bool.false_and]
    exact Ev.step (f := fun _ => some false) (fun k => by simp [spec_l01Name.j0]) (Ev.now _)
   | true =>
    rw [Bool.true_and]
    refine Ev.step (f := fun k => spec_l01Name.l0 k b 0) (fun k => by simp [spec_l01Name.j0]) ?_
    have key := ev_all (fun k i => spec_l01Name.l0 k b i) (List.range b.size) 0 (fun i => nameC (bt b i)) false true (fun i hi hp s hs2 => ?_) (fun i hi hp => ?_) ?_
    ·
     revert key
     cases (List.range b.size).all fun i => nameC (bt b i) <;> exact id
    ·
     rw [List.length_range] at hi
     rw [getD_lt 0 (by simpa using hi), List.getElem_range] at hp
     refine Ev.step (fun k => ?_) hs2
     simp only [spec_l01Name.l0]
     rw [if_pos (by omega), if_pos (by omega), specSmall_eq, specDigit_eq]
     simp only [Option.bind_some]
     unfold nameC at hp
     cases h3 : smallC (bt b i) with
     | true => rw [if_pos rfl, w64 (by omega) (by omega)]; rfl
     | false =>
      rw [h3, Bool.false_or] at hp
      rw [hp, if_neg (by decide), if_pos rfl, w64 (by omega) (by omega)]
      rfl
    ·
     rw [List.length_range] at hi
     rw [getD_lt 0 (by simpa using hi), List.getElem_range] at hp
     refine Ev.step (f := fun _ => some false) (fun k => ?_) (Ev.now _)
     simp only [spec_l01Name.l0]
     unfold nameC at hp
     rw [Bool.or_eq_false_iff] at hp
     rw [if_pos (by omega), if_pos (by omega), specSmall_eq, specDigit_eq, hp.1, hp.2]
     rfl
    ·
     refine Ev.step (f := fun _ => some true) (fun k => ?_) (Ev.now _)
     simp only [spec_l01Name.l0]
     rw [List.length_range, if_neg (by omega)]
theorem specIn_eq (a lo hi : Int) : spec_l00In.f a lo hi = some (inB lo hi a) := by
 unfold spec_l00In.f inB
 by_cases h : a ≥ lo
 ·
  rw [if_pos h, decide_eq_true (show lo ≤ a from h)]; rfl
 ·
  rw [if_neg h, decide_eq_false (show ¬ lo ≤ a from h)]; rfl
theorem Ev.succ {α : Type} {g : Nat → Option α} {r : α} (h : Ev (fun k => g (k + 1)) r) : Ev g r := Ev.step (fun _ => rfl) h
theorem Ev.now' {α : Type} {a b : α} (h : a = b) : Ev (fun _ => some a) b := h ▸ Ev.now a
theorem specBld_ev (p : ByteArray) (a b c d : Int) (l : List Int) (hl : l.length ≤ 4611686018427387904) : Ev (fun k => spec_l05One.f k [(⟨p, a, b, c, d, l⟩ : S33)]) (bldOk p a b c d l) := by
 unfold spec_l05One.f bldOk spec_l05Outdoor.f
 simp only [List.length_singleton, show (0 : Int) < ((1 : Nat) : Int) by decide, if_true, specIn_eq, Option.bind_some]
 refine Ev.bind (specName_ev p) ?_
 have er : rd_T33 [(⟨p, a, b, c, d, l⟩ : S33)] 0 = ⟨p, a, b, c, d, l⟩ := rfl
 simp only [er]
 have jt : Ev (fun k => spec_l05One.j0 k [(⟨p, a, b, c, d, l⟩ : S33)] true) false := Ev.step (f := fun _ => some false) (fun k => by simp [spec_l05One.j0]) (Ev.now _)
 cases nameOk p with
 | false => exact jt
 | true =>
  cases inB 0 15 a with
  | false => exact jt
  | true =>
   cases inB 0 1000000 b with
   | false => exact jt
   | true =>
    cases inB 0 100000 c with
    | false => exact jt
    | true =>
     cases inB (-4000) 4500 d with
     | false => exact jt
     | true =>
      simp only [if_true, Bool.true_and]
      by_cases h24 : l.length = 24
      ·
       rw [decide_eq_true h24, Bool.true_and]
       have e1 : ((l.length : Int) != 24) = false := by rw [h24]; rfl
       rw [e1]
       refine Ev.succ ?_
       simp only [spec_l05One.j0, Bool.false_eq_true, if_false]
       have key := ev_all (fun k i => spec_l05One.l0 k [(⟨p, a, b, c, d, l⟩ : S33)] i) l 0 (inB 0 3000) false true (fun i hi hp r hr => ?_) (fun i hi hp => ?_) ?_
       ·
        revert key
        cases l.all (inB 0 3000) <;> exact id
       ·
        refine Ev.succ ?_
        simp only [spec_l05One.l0, List.length_singleton, er, show (0 : Int) < ((1 : Nat) : Int) by decide, if_true, if_pos (show (i : Int) < (l.length : Int) by omega), if_pos (show (0 : Int) ≤ i by omega), specIn_eq, Option.bind_some, rd_nat, hp, w64 (x := (i : Int) + 1) (by omega) (by omega)]
        exact hr
       ·
        refine Ev.succ ?_
        simp only [spec_l05One.l0, List.length_singleton, er, show (0 : Int) < ((1 : Nat) : Int) by decide, if_true, if_pos (show (i : Int) < (l.length : Int) by omega), if_pos (show (0 : Int) ≤ i by omega), specIn_eq, Option.bind_some, rd_nat, hp, Bool.false_eq_true, if_false]
        exact Ev.now _
       ·
        refine Ev.succ ?_
        simp only [spec_l05One.l0, List.length_singleton, er, show (0 : Int) < ((1 : Nat) : Int) by decide, if_true, if_neg (show ¬ (l.length : Int) < (l.length : Int) by omega)]
        exact Ev.now _
      ·
       rw [decide_eq_false h24, Bool.false_and]
       have e1 : ((l.length : Int) != 24) = true := by
        rw [bne_iff_ne]
        omega
       rw [e1]
       exact jt
theorem implBytes_ev (b : ByteArray) (hb : b.size ≤ 10) : Ev (fun k => impl_onlyNameBytes.f k b) ((List.range b.size).all fun i => nameC (bt b i)) := by
 unfold impl_onlyNameBytes.f
 have key := ev_all (fun k i => impl_onlyNameBytes.l0 k b b.size i) (List.range b.size) 0 (fun i => nameC (bt b i)) false true (fun i hi hp s hs2 => ?_) (fun i hi hp => ?_) ?_
 ·
  revert key
  cases (List.range b.size).all fun i => nameC (bt b i) <;> exact id
 ·
  rw [List.length_range] at hi
  rw [getD_lt 0 (by simpa using hi), List.getElem_range] at hp
  refine Ev.step (fun k => ?_) hs2
  simp only [impl_onlyNameBytes.l0]
  rw [if_pos (by omega), if_pos (by omega), if_pos (by omega), w64 (by omega) (by omega)]
  simp only [nameC, smallC, digitC, Bool.or_eq_true, Bool.and_eq_true, decide_eq_true_eq] at hp
  split
  ·
   rw [if_neg (by omega), if_neg (by omega)]; rfl
  ·
   split
   ·
    omega
   ·
    rfl
 ·
  rw [List.length_range] at hi
  rw [getD_lt 0 (by simpa using hi), List.getElem_range] at hp
  refine Ev.step (f := fun _ => some false) (fun k => ?_) (Ev.now _)
  simp only [impl_onlyNameBytes.l0]
  rw [if_pos (by omega), if_pos (by omega), if_pos (by omega)]
  simp only [nameC, smallC, digitC, Bool.or_eq_false_iff, Bool.and_eq_false_iff, decide_eq_false_iff_not] at hp
  split
  ·
   split
   ·
    rfl
   ·
    rw [if_pos (by omega)]
  ·
   split
   ·
    rw [if_neg (by omega), if_pos (by omega)]
   ·
    omega
 ·
  refine Ev.step (f := fun _ => some true) (fun k => ?_) (Ev.now _)
  simp only [impl_onlyNameBytes.l0]
  rw [List.length_range, if_neg (by omega)]
theorem implName_ev (b : ByteArray) : Ev (fun k => impl_IsName.f k b) (nameOk b) := by
 unfold impl_IsName.f nameOk
 by_cases h1 : b.size < 1
 ·
  rw [decide_eq_false (by omega), Bool.false_and]
  simp only [show (b.size : Int) < 1 by omega, if_true]
  exact Ev.now _
 ·
  rw [decide_eq_true (show 1 ≤ b.size by omega), Bool.true_and]
  simp only [show ¬ (b.size : Int) < 1 by omega, if_false]
  by_cases h10 : b.size > 10
  ·
   rw [decide_eq_false (show ¬ b.size ≤ 10 by omega), Bool.false_and]
   simp only [show (b.size : Int) > 10 by omega, if_true]
   exact Ev.now _
  ·
   rw [decide_eq_true (show b.size ≤ 10 by omega), Bool.true_and]
   simp only [show ¬ (b.size : Int) > 10 by omega, if_false, show 0 < (b.size : Int) by omega, if_true]
   unfold smallC
   by_cases g1 : bt b 0 < 97
   ·
    simp only [g1, if_true, decide_eq_false (show ¬ 97 ≤ bt b 0 by omega), Bool.false_and]
    exact Ev.now _
   ·
    simp only [g1, if_false, decide_eq_true (show 97 ≤ bt b 0 by omega), Bool.true_and]
    by_cases g2 : bt b 0 > 122
    ·
     simp only [g2, if_true, decide_eq_false (show ¬ bt b 0 ≤ 122 by omega), Bool.false_and]
     exact Ev.now _
    ·
     simp only [g2, if_false, decide_eq_true (show bt b 0 ≤ 122 by omega), Bool.true_and]
     refine Ev.bind (implBytes_ev b (by omega)) ?_
     exact Ev.now _
theorem implBld_ev (p : ByteArray) (a b c d : Int) (l : List Int) (hl : l.length ≤ 4611686018427387904) : Ev (fun k => impl_Building_valid.f k p a b c d l) (bldOk p a b c d l) := by
 unfold impl_Building_valid.f bldOk impl_nodeOk.f impl_outdoorOk.f
 refine Ev.bind (implName_ev p) ?_
 simp only [impl_within.f, Option.bind_some]
 cases nameOk p with
 | false => exact Ev.now _
 | true =>
  cases inB 0 15 a with
  | false => exact Ev.now _
  | true =>
   cases inB 0 1000000 b with
   | false => exact Ev.now _
   | true =>
    cases inB 0 100000 c with
    | false => exact Ev.now _
    | true =>
     cases inB (-4000) 4500 d with
     | false => exact Ev.now _
     | true =>
      simp only [if_true, Bool.true_and]
      by_cases h24 : l.length = 24
      ·
       rw [decide_eq_true h24, Bool.true_and]
       simp only [if_pos (show (l.length : Int) = 24 by omega)]
       unfold impl_allWithin.f
       rw [if_pos (by omega)]
       exact Ev.now _
      ·
       rw [decide_eq_false h24, Bool.false_and]
       simp only [if_neg (show ¬ (l.length : Int) = 24 by omega)]
       exact Ev.now _
def mkB (l : List UInt8) : ByteArray := ⟨l.toArray⟩
theorem mkB_of (b : ByteArray) : mkB b.data.toList = b := by unfold mkB; cases b; rfl
theorem mkB_append (a b : List UInt8) : mkB a ++ mkB b = mkB (a ++ b) := by
 rw [← mkB_of (mkB a ++ mkB b), ByteArray.toList_data_append]
 rfl
theorem mkB_size (l : List UInt8) : (mkB l).size = l.length := by
 show l.toArray.size = l.length
 simp
theorem join_cons2 (x y : List UInt8) (r : List (List UInt8)) (c : UInt8) : Lib.join (x :: y :: r) [c] = x ++ c :: Lib.join (y :: r) [c] := by
 rw [Lib.join_cons, Lib.join_cons]
 simp [Lib.joinTail]
theorem join_snoc (c : UInt8) (x : List UInt8) : ∀ xs : List (List UInt8), xs ≠ [] → Lib.join (xs ++ [x]) [c] = Lib.join xs [c] ++ c :: x
 | [], h => absurd rfl h
 | [y], _ => by
  show Lib.join (y :: [x]) [c] = _
  rw [join_cons2, Lib.join_one, Lib.join_one]
 | y :: z :: t, _ => by
  have ih := join_snoc c x (z :: t) (by simp)
  show Lib.join (y :: z :: (t ++ [x])) [c] = _
  rw [join_cons2, join_cons2, show z :: (t ++ [x]) = (z :: t) ++ [x] from rfl, ih]
  simp
theorem join_lenG (c : UInt8) (m : Nat) : ∀ xs : List (List UInt8), (∀ x ∈ xs, x.length ≤ m) → (Lib.join xs [c]).length ≤ (m + 1) * xs.length
 | [], _ => by simp [Lib.join_nil]
 | [y], h => by
  have := h y (by simp)
  rw [Lib.join_one, List.length_singleton]
  omega
 | y :: z :: t, h => by
  have ih := join_lenG c m (z :: t) (fun x hx => h x (List.mem_cons_of_mem _ hx))
  have := h y (by simp)
  rw [join_cons2, List.length_append, List.length_cons]
  rw [List.length_cons (a := y), Nat.mul_add, Nat.mul_one]
  omega
theorem join_take_le (c : UInt8) (T : List (List UInt8)) : ∀ i : Nat, i < T.length → (Lib.join (T.take i) [c]).length + (if i = 0 then 0 else 1) + (T.getD i []).length ≤ (Lib.join T [c]).length := by
 have mono : ∀ (xs ys : List (List UInt8)), (Lib.join xs [c]).length ≤ (Lib.join (xs ++ ys) [c]).length := by
  intro xs ys
  induction ys generalizing xs with
  | nil => rw [List.append_nil]; exact Nat.le_refl _
  | cons y t ih =>
   have h2 := ih (xs ++ [y])
   rw [List.append_assoc] at h2
   refine Nat.le_trans ?_ h2
   by_cases h : xs = []
   ·
    subst h; simp [Lib.join_nil]
   ·
    rw [join_snoc c y xs h, List.length_append]; omega
 intro i hi
 have h1 := mono (T.take (i + 1)) (T.drop (i + 1))
 rw [List.take_append_drop, take_succ_getD T [] hi] at h1
 refine Nat.le_trans ?_ h1
 by_cases h : i = 0
 ·
  subst h
  rw [if_pos rfl, List.take_zero, List.nil_append, Lib.join_one, Lib.join_nil]
  simp
 ·
  rw [if_neg h, join_snoc c _ _ (by intro e; have := congrArg List.length e; rw [List.length_take, List.length_nil] at this; omega), List.length_append, List.length_cons]
  omega
theorem joinLoop (L : Nat → ByteArray → Int → Option ByteArray) (T : List (List UInt8)) (c : UInt8)
  (first : ∀ r, 0 < T.length → (T.getD 0 []).length ≤ (Lib.join T [c]).length → Ev (fun k => L k (mkB (T.getD 0 [])) 1) r → Ev (fun k => L k (mkB []) 0) r)
  (step : ∀ (i : Nat) (acc : List UInt8) r, 0 < i → i < T.length → acc.length + 1 + (T.getD i []).length ≤ (Lib.join T [c]).length → Ev (fun k => L k (mkB (acc ++ c :: T.getD i [])) ((i + 1 : Nat) : Int)) r → Ev (fun k => L k (mkB acc) (i : Int)) r)
  (fin : ∀ acc, Ev (fun k => L k (mkB acc) (T.length : Int)) (mkB acc)) : Ev (fun k => L k (mkB []) 0) (mkB (Lib.join T [c])) := by
 have key : ∀ (m i : Nat), 0 < i → i + m = T.length → Ev (fun k => L k (mkB (Lib.join (T.take i) [c])) (i : Int)) (mkB (Lib.join T [c])) := by
  intro m
  induction m with
  | zero =>
   intro i _ hi
   rw [List.take_of_length_le (by omega), show i = T.length by omega]
   exact fin _
  | succ m ih =>
   intro i h0 hi
   have hle := join_take_le c T i (by omega)
   rw [if_neg (by omega)] at hle
   refine step i _ _ h0 (by omega) hle ?_
   have h := ih (i + 1) (by omega) (by omega)
   rw [take_succ_getD T [] (by omega), join_snoc c _ _ (by intro e; have := congrArg List.length e; rw [List.length_take, List.length_nil] at this; omega)] at h
   exact h
 cases hT : T with
 | nil =>
  have h := fin []
  rw [hT] at h
  exact h
 | cons x t =>
  rw [← hT]
  have hl : 0 < T.length := by rw [hT]; exact Nat.zero_lt_succ _
  have hle := join_take_le c T 0 hl
  rw [if_pos rfl, List.take_zero, Lib.join_nil] at hle
  refine first _ hl (by simpa using hle) ?_
  have h := key (T.length - 1) 1 (by decide) (by omega)
  rw [take_succ_getD T [] hl, List.take_zero, List.nil_append, Lib.join_one] at h
  exact h
theorem ltOk_bd {x : Int} (h : ltOk x = true) : -1000000000000 ≤ x ∧ x ≤ 1000000000000 := by
 unfold ltOk inB at h
 simpa using h
theorem listT_len (l : List Int) : (listT l).data.toList.length ≤ 1408 := by
 unfold listT
 split
 ·
  exact Nat.zero_le _
 ·
  split
  ·
   decide
  ·
   split
   ·
    rename_i h64 _ ha
    have := join_lenG 44 21 (l.map Lib.itoa) (fun x hx => by
     obtain ⟨y, hy, rfl⟩ := List.mem_map.1 hx
     have := ltOk_bd (List.all_eq_true.1 ha y hy)
     exact Lib.itoa_length_le y (by omega) (by omega))
    rw [List.length_map] at this
    show (Lib.join (l.map Lib.itoa) [44]).length ≤ 1408
    omega
   ·
    exact Nat.zero_le _
def bldT (p : ByteArray) (a b c d : Int) (l : List Int) : List UInt8 := p.data.toList ++ 32 :: ((listT [a, b, c, d]).data.toList ++ 32 :: (listT l).data.toList)
theorem implBldText_ev (p : ByteArray) (a b c d : Int) (l : List Int) (hl : l.length ≤ 4611686018427387904) : Ev (fun k => impl_BuildingText.f k p a b c d l) (if bldOk p a b c d l = true then mkB (bldT p a b c d l) else ⟨#[]⟩) := by
 unfold impl_BuildingText.f
 refine Ev.bind (implBld_ev p a b c d l hl) ?_
 cases h : bldOk p a b c d l with
 | false => exact Ev.now _
 | true =>
  simp only [if_true]
  obtain ⟨_, hs, _⟩ := bldOk_facts h
  have s1 := listT_len [a, b, c, d]
  have s2 := listT_len l
  have r1 : listT [a, b, c, d] = mkB (listT [a, b, c, d]).data.toList := (mkB_of _).symm
  have r2 : listT l = mkB (listT l).data.toList := (mkB_of _).symm
  have hp : p = mkB p.data.toList := (mkB_of _).symm
  have hps : p.data.toList.length = p.size := rfl
  unfold bldT
  generalize (listT [a, b, c, d]).data.toList = T1 at *
  generalize (listT l).data.toList = T2 at *
  generalize p.data.toList = P at *
  unfold impl_withId.f impl_ListText.f
  simp only [Option.bind_some, r1, r2, hp]
  have e1 : mkB P ++ (⟨#[32]⟩ : ByteArray) = mkB (P ++ [32]) := mkB_append P [32]
  have e2 : mkB ((P ++ [32]) ++ T1) ++ (⟨#[32]⟩ : ByteArray) = mkB (((P ++ [32]) ++ T1) ++ [32]) := mkB_append _ [32]
  rw [if_pos (by rw [mkB_size]; omega), e1, if_pos (by rw [mkB_size, mkB_size, List.length_append, List.length_singleton]; omega)]
  simp only [Option.bind_some, mkB_append]
  rw [if_pos (by rw [mkB_size, List.length_append, List.length_append, List.length_singleton]; omega), e2, if_pos (by rw [mkB_size, mkB_size, List.length_append, List.length_append, List.length_append, List.length_singleton]; omega), mkB_append]
  exact Ev.now' (by simp)
def rdg (u : Nat) : List Int := if h : u = 0 then [] else ((48 + u % 10 : Nat) : Int) :: rdg (u / 10)
termination_by u
decreasing_by omega
theorem rdg_zero : rdg 0 = [] := by rw [rdg, dif_pos rfl]
theorem rdg_pos {u : Nat} (h : u ≠ 0) : rdg u = ((48 + u % 10 : Nat) : Int) :: rdg (u / 10) := by rw [rdg, dif_neg h]
theorem rdg_dec : ∀ (n u : Nat), u ≤ n → u ≠ 0 → Lib.decDigits u = ((rdg u).map fun n => UInt8.ofNat n.toNat).reverse := by
 intro n
 induction n with
 | zero => intro u h h0; omega
 | succ n ih =>
  intro u h h0
  rw [rdg_pos h0, List.map_cons, List.reverse_cons, Int.toNat_natCast]
  by_cases h10 : u < 10
  ·
   rw [Lib.decDigits, dif_pos h10, show u / 10 = 0 by omega, rdg_zero, show u % 10 = u by omega]
   rfl
  ·
   rw [Lib.decDigits, dif_neg h10, ih (u / 10) (by omega) (by omega)]
theorem rdg_len : ∀ (n u : Nat), u < 10 ^ n → (rdg u).length ≤ n := by
 intro n
 induction n with
 | zero => intro u h; rw [show u = 0 by omega, rdg_zero]; exact Nat.le_refl _
 | succ n ih =>
  intro u h
  by_cases h0 : u = 0
  ·
   rw [h0, rdg_zero]; exact Nat.zero_le _
  ·
   rw [rdg_pos h0, List.length_cons]
   have := ih (u / 10) (by rw [Nat.pow_succ] at h; omega)
   omega
theorem decLoop (x0 : Int) (r : ByteArray) : ∀ (n u : Nat) (x4 : Int) (acc : List Int), u ≤ n → u ≤ 1000000000000000000 → (x4 = (u : Int) ∨ x4 = -(u : Int)) → acc.length + (rdg u).length ≤ 1000 → Ev (fun k => spec_l01Dec.l0 k x0 (acc ++ rdg u) 0) r → Ev (fun k => spec_l01Dec.l0 k x0 acc x4) r := by
 intro n
 induction n with
 | zero =>
  intro u x4 acc h _ hx _ hr
  obtain rfl : u = 0 := by omega
  obtain rfl : x4 = 0 := by omega
  rw [rdg_zero, List.append_nil] at hr
  exact hr
 | succ n ih =>
  intro u x4 acc h hu hx hl hr
  by_cases h0 : u = 0
  ·
   subst h0
   obtain rfl : x4 = 0 := by omega
   rw [rdg_zero, List.append_nil] at hr
   exact hr
  ·
   rw [rdg_pos h0] at hr hl
   rw [List.length_cons] at hl
   refine Ev.succ ?_
   have hx0 : ¬ x4 = 0 := by omega
   have hq : Int.tdiv x4 10 = ((u / 10 : Nat) : Int) ∨ Int.tdiv x4 10 = -((u / 10 : Nat) : Int) := by
    rcases hx with rfl | rfl
    ·
     left
     rw [Int.tdiv_eq_ediv_of_nonneg (by omega)]
     omega
    ·
     right
     rw [Int.neg_tdiv, Int.tdiv_eq_ediv_of_nonneg (by omega)]
     omega
   have ht : (Int.tmod x4 10 < 0 ∧ -(Int.tmod x4 10) = ((u % 10 : Nat) : Int)) ∨ (¬ Int.tmod x4 10 < 0 ∧ Int.tmod x4 10 = ((u % 10 : Nat) : Int)) := by
    rcases hx with rfl | rfl
    ·
     rw [Int.tmod_eq_emod_of_nonneg (by omega)]
     omega
    ·
     rw [Int.neg_tmod, Int.tmod_eq_emod_of_nonneg (by omega)]
     omega
   have hw : wrap64 (Int.tdiv x4 10) = Int.tdiv x4 10 := w64 (by omega) (by omega)
   have ih2 := ih (u / 10) (Int.tdiv x4 10) (acc ++ [((48 + u % 10 : Nat) : Int)]) (by omega) (by omega) hq (by rw [List.length_append, List.length_singleton]; omega) (by rw [List.append_assoc]; exact hr)
   simp only [spec_l01Dec.l0, if_neg hx0, if_pos (show acc.length < 140737488355328 by omega), hw]
   rcases ht with ⟨t1, t2⟩ | ⟨t1, t2⟩
   ·
    simp only [if_pos t1]
    simp only [t2]
    rw [w64 (x := ((u % 10 : Nat) : Int)) (by omega) (by omega), w64 (by omega) (by omega), show ((48 : Int) + ((u % 10 : Nat) : Int)) % 256 = ((48 + u % 10 : Nat) : Int) by omega]
    exact ih2
   ·
    simp only [if_neg t1]
    simp only [t2]
    rw [w64 (by omega) (by omega), show ((48 : Int) + ((u % 10 : Nat) : Int)) % 256 = ((48 + u % 10 : Nat) : Int) by omega]
    exact ih2
theorem revLoop (xs : List Int) (h : xs.length ≤ 1000) : ∀ (i : Nat) (acc : List Int), i ≤ xs.length → acc.length + i ≤ 2000 → Ev (fun k => spec_l01Dec.l1 k xs acc ((i : Int) - 1)) (strOfNums (acc ++ (xs.take i).reverse)) := by
 intro i
 induction i with
 | zero =>
  intro acc _ _
  refine Ev.succ ?_
  simp only [spec_l01Dec.l1, if_neg (show ¬ (((0 : Nat) : Int) - 1) ≥ 0 by omega)]
  exact Ev.now' (by simp)
 | succ i ih =>
  intro acc hi ha
  refine Ev.succ ?_
  have e : ((i + 1 : Nat) : Int) - 1 = (i : Int) := by omega
  simp only [e, spec_l01Dec.l1, if_pos (show (i : Int) ≥ 0 by omega), if_pos (show (0 : Int) ≤ (i : Int) by omega), if_pos (show (i : Int) < (xs.length : Int) by omega), if_pos (show acc.length < 140737488355328 by omega), rd_nat, w64 (x := (i : Int) - 1) (by omega) (by omega)]
  have ih2 := ih (acc ++ [xs.getD i 0]) (by omega) (by rw [List.length_append, List.length_singleton]; omega)
  rw [take_succ_getD xs 0 (show i < xs.length by omega), List.reverse_append, List.reverse_singleton]
  rw [List.append_assoc] at ih2
  exact ih2
theorem strN (xs : List Int) : strOfNums xs = mkB (xs.map fun n => UInt8.ofNat n.toNat) := rfl
theorem specDec_ev (n : Int) (h0 : -1000000000000000000 ≤ n) (h1 : n ≤ 1000000000000000000) : Ev (fun k => spec_l01Dec.f k n) (mkB (Lib.itoa n)) := by
 unfold spec_l01Dec.f
 by_cases hz : n = 0
 ·
  subst hz
  simp only [if_true]
  refine Ev.now' ?_
  show (⟨#[48]⟩ : ByteArray) = mkB (Lib.decDigits 0)
  rw [Lib.decDigits_one (by decide)]
  rfl
 ·
  simp only [if_neg hz]
  have hl := rdg_len 19 n.natAbs (by omega)
  refine decLoop n _ n.natAbs n.natAbs n [] (Nat.le_refl _) (by omega) (by omega) (by rw [List.length_nil]; omega) ?_
  rw [List.nil_append]
  refine Ev.succ ?_
  simp only [spec_l01Dec.l0, if_true]
  have hd := rdg_dec n.natAbs n.natAbs (Nat.le_refl _) (by omega)
  by_cases hn : n < 0
  ·
   simp only [if_pos hn, if_pos (show (rdg n.natAbs).length < 140737488355328 by omega)]
   refine Ev.succ ?_
   simp only [spec_l01Dec.j1]
   have hr := revLoop (rdg n.natAbs ++ [45]) (by rw [List.length_append, List.length_singleton]; omega) (rdg n.natAbs ++ [45]).length [] (Nat.le_refl _) (by rw [List.length_append, List.length_singleton, List.length_nil]; omega)
   rw [w64 (by omega) (by rw [List.length_append, List.length_singleton]; omega)]
   have e : ((rdg n.natAbs ++ [45]).reverse.map fun n : Int => UInt8.ofNat n.toNat) = 45 :: Lib.decDigits n.natAbs := by
    rw [List.reverse_append, hd]
    simp
   rw [List.take_length, List.nil_append, strN, e] at hr
   unfold Lib.itoa
   rw [if_pos hn]
   exact hr
  ·
   simp only [if_neg hn]
   refine Ev.succ ?_
   simp only [spec_l01Dec.j1]
   have hr := revLoop (rdg n.natAbs) (by omega) (rdg n.natAbs).length [] (Nat.le_refl _) (by rw [List.length_nil]; omega)
   rw [w64 (by omega) (by omega)]
   rw [List.take_length, List.nil_append, strN, List.map_reverse, ← hd] at hr
   unfold Lib.itoa
   rw [if_neg hn, show n.toNat = n.natAbs by omega]
   exact hr
theorem specListT_ev (l : List Int) (hl : l.length ≤ 64) (ha : l.all ltOk = true) : Ev (fun k => spec_l01List.f k l) (listT l) := by
 have hb : ∀ i : Nat, i < l.length → -1000000000000 ≤ l.getD i 0 ∧ l.getD i 0 ≤ 1000000000000 := fun i hi => ltOk_bd (List.all_eq_true.1 ha _ (getD_mem 0 hi))
 unfold spec_l01List.f listT
 rw [if_neg (by omega)]
 by_cases h0 : l.length = 0
 ·
  simp only [if_pos (show (l.length : Int) = 0 by omega)]
  rw [if_pos h0]
  exact Ev.now _
 ·
  simp only [if_neg (show ¬ (l.length : Int) = 0 by omega)]
  rw [if_neg h0, if_pos ha]
  have hg : ∀ i : Nat, i < l.length → (l.map Lib.itoa).getD i [] = Lib.itoa (l.getD i 0) := fun i hi => by
   rw [getD_lt [] (by simpa using hi), List.getElem_map, getD_lt 0 hi]
  have hjl : (Lib.join (l.map Lib.itoa) [44]).length ≤ 22 * l.length := by
   have := join_lenG 44 21 (l.map Lib.itoa) (fun x hx => by
    obtain ⟨y, hy, rfl⟩ := List.mem_map.1 hx
    have := ltOk_bd (List.all_eq_true.1 ha y hy)
    exact Lib.itoa_length_le y (by omega) (by omega))
   rwa [List.length_map] at this
  show Ev (fun k => spec_l01List.l0 k l (mkB []) 0) (mkB (Lib.join (l.map Lib.itoa) [44]))
  refine joinLoop (fun k acc i => spec_l01List.l0 k l acc i) (l.map Lib.itoa) 44 (fun r h1 h2 hr => ?_) (fun i acc r hi0 hi hle hr => ?_) (fun acc => ?_)
  ·
   rw [List.length_map] at h1
   rw [hg 0 h1] at hr h2
   have hbi := hb 0 h1
   refine Ev.succ ?_
   simp only [spec_l01List.l0, if_pos (show (0 : Int) < (l.length : Int) by omega), if_neg (show ¬ (0 : Int) > 0 by decide), if_pos (show (0 : Int) ≤ 0 by decide), show rd l 0 = l.getD 0 0 from rd_nat l 0]
   refine Ev.bind (specDec_ev (l.getD 0 0) (by omega) (by omega)) ?_
   simp only [mkB_size, List.length_nil, if_pos (show 0 + (Lib.itoa (l.getD 0 0)).length ≤ 9223372036854775807 by omega), mkB_append, List.nil_append, w64 (x := (0 : Int) + 1) (by decide) (by decide)]
   exact hr
  ·
   rw [List.length_map] at hi
   rw [hg i hi] at hr hle
   have hbi := hb i hi
   refine Ev.succ ?_
   simp only [spec_l01List.l0, if_pos (show (i : Int) < (l.length : Int) by omega), if_pos (show (i : Int) > 0 by omega), if_pos (show (0 : Int) ≤ (i : Int) by omega), rd_nat, mkB_size, if_pos (show acc.length + 1 ≤ 9223372036854775807 by omega)]
   refine Ev.bind (specDec_ev (l.getD i 0) (by omega) (by omega)) ?_
   have e1 : mkB acc ++ (⟨#[44]⟩ : ByteArray) = mkB (acc ++ [44]) := mkB_append acc [44]
   simp only [e1, mkB_size, mkB_append, List.length_append, List.length_singleton, if_pos (show acc.length + 1 + (Lib.itoa (l.getD i 0)).length ≤ 9223372036854775807 by omega), w64 (x := (i : Int) + 1) (by omega) (by omega)]
   rw [List.append_assoc]
   exact hr
  ·
   refine Ev.succ ?_
   simp only [spec_l01List.l0, List.length_map, if_neg (show ¬ (l.length : Int) < (l.length : Int) by omega)]
   exact Ev.now _
def bldR (p : ByteArray) (a b c d : Int) (l : List Int) : ByteArray := if bldOk p a b c d l = true then mkB (bldT p a b c d l) else ⟨#[]⟩
theorem spec_ev (p : ByteArray) (a b c d : Int) (l : List Int) (hl : l.length ≤ 1048576) : Ev (fun k => spec_BuildingText.f k p a b c d l) (bldR p a b c d l) := by
 unfold spec_BuildingText.f bldR
 refine Ev.bind (specBld_ev p a b c d l (by omega)) ?_
 cases h : bldOk p a b c d l with
 | false => exact Ev.now _
 | true =>
  simp only [if_true]
  obtain ⟨_, hs, ha, hb, hc, hd, h24, hx⟩ := bldOk_facts h
  have s1 := listT_len [a, b, c, d]
  have s2 := listT_len l
  have l1 : ([a, b, c, d] : List Int).all ltOk = true := by
   rw [List.all_eq_true]
   intro x hx
   simp only [List.mem_cons, List.not_mem_nil, or_false] at hx
   unfold ltOk inB
   rw [Bool.and_eq_true, decide_eq_true_eq, decide_eq_true_eq]
   omega
  have l2 : l.all ltOk = true := by
   rw [List.all_eq_true]
   intro x hm
   have := hx x hm
   unfold ltOk inB
   rw [Bool.and_eq_true, decide_eq_true_eq, decide_eq_true_eq]
   omega
  refine Ev.bind ?_ (Ev.now _)
  unfold spec_l05Text.f
  have er : rd_T33 [(⟨p, a, b, c, d, l⟩ : S33)] 0 = ⟨p, a, b, c, d, l⟩ := rfl
  simp only [List.length_singleton, show (0 : Int) < ((1 : Nat) : Int) by decide, if_true, er, if_pos (show p.size + 1 ≤ 9223372036854775807 by omega)]
  refine Ev.bind (specListT_ev [a, b, c, d] (show 4 ≤ 64 by decide) l1) ?_
  have r1 : listT [a, b, c, d] = mkB (listT [a, b, c, d]).data.toList := (mkB_of _).symm
  have r2 : listT l = mkB (listT l).data.toList := (mkB_of _).symm
  have hp : p = mkB p.data.toList := (mkB_of _).symm
  have hps : p.data.toList.length = p.size := rfl
  have ev2 := specListT_ev l (by omega) l2
  unfold bldT
  generalize (listT [a, b, c, d]).data.toList = T1 at *
  generalize p.data.toList = P at *
  have e1 : mkB P ++ (⟨#[32]⟩ : ByteArray) = mkB (P ++ [32]) := mkB_append P [32]
  have e2 : mkB ((P ++ [32]) ++ T1) ++ (⟨#[32]⟩ : ByteArray) = mkB (((P ++ [32]) ++ T1) ++ [32]) := mkB_append _ [32]
  have z1 : (mkB (P ++ [32])).size + (mkB T1).size ≤ 9223372036854775807 := by rw [mkB_size, mkB_size, List.length_append, List.length_singleton]; omega
  have z2 : (mkB ((P ++ [32]) ++ T1)).size + 1 ≤ 9223372036854775807 := by rw [mkB_size, List.length_append, List.length_append, List.length_singleton]; omega
  simp only [r1, hp, e1, if_pos z1, mkB_append, if_pos z2, e2]
  refine Ev.bind ev2 ?_
  generalize (listT l).data.toList = T2 at *
  have z3 : (mkB (((P ++ [32]) ++ T1) ++ [32])).size + (mkB T2).size ≤ 9223372036854775807 := by rw [mkB_size, mkB_size, List.length_append, List.length_append, List.length_append, List.length_singleton]; omega
  simp only [r2, if_pos z3, mkB_append]
  exact Ev.now' (by simp)
theorem FnExactBuildingText : laws_FnExactBuildingText.Pure := by
 intro p a b c d l hp ha hb hc hd hw
 have h : Ev (fun k => laws_FnExactBuildingText.f k p a b c d l) true := by
  unfold laws_FnExactBuildingText.f
  have hps := hp
  have hls := hw.1
  unfold maxLen at hps hls
  have hsz : ∃ r, laws_szBuilding.f p a b c d l 1048576 = some r ∧ (r < 0 ∨ (0 ≤ r ∧ l.length ≤ 1048576)) := by
   unfold laws_szBuilding.f laws_szInt64S.f
   rw [w64 (by omega) (by omega)]
   by_cases h1 : (1048576 : Int) - (p.size : Int) < 0
   ·
    rw [if_pos h1]
    exact ⟨_, rfl, .inl (by decide)⟩
   ·
    rw [if_neg h1, w64 (by omega) (by omega)]
    by_cases h2 : (1048576 : Int) - (p.size : Int) - (l.length : Int) < 0
    ·
     rw [if_pos h2]
     exact ⟨_, rfl, .inl (by decide)⟩
    ·
     rw [if_neg h2]
     refine ⟨_, (by rw [Option.bind_some, if_neg h2]), .inr ⟨by omega, by omega⟩⟩
  obtain ⟨r, hr, hq⟩ := hsz
  rw [hr]
  simp only [Option.bind_some]
  rcases hq with hq | ⟨q0, hl⟩
  ·
   simp only [if_pos hq]
   exact Ev.now _
  ·
   simp only [if_neg (show ¬ r < 0 by omega)]
   have hto : Ev (fun k => laws_toBuilding.f k p a b c d l) (p, a, b, c, d, l) := by
    unfold laws_toBuilding.f
    exact Ev.bind (toInt64S_ev l (by omega)) (Ev.now _)
   refine Ev.bind hto ?_
   refine Ev.bind (spec_ev p a b c d l hl) ?_
   refine Ev.bind hto ?_
   refine Ev.bind (implBldText_ev p a b c d l (by omega)) ?_
   rw [show (if bldOk p a b c d l = true then mkB (bldT p a b c d l) else ⟨#[]⟩) = bldR p a b c d l from rfl]
   simp only [if_true]
   refine Ev.bind hto ?_
   unfold laws_eqBuilding.f
   simp only [if_true]
   refine Ev.bind (r := true) (Ev.bind (eqInt64S_ev l (by omega)) (Ev.now _)) ?_
   exact Ev.now _
 obtain ⟨K, h⟩ := h
 exact ⟨K, h K (Nat.le_refl _)⟩
end Go.Proofs.YtdbocilpcknlhaaDoor.Pure
