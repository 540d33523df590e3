/- The program's ReadReadings returns what the reference's returns, for all arguments. No condition beyond the statement's own; the card ties the laid variables of Go's library to the program's text: a table of powers of ten, two errors, and one size. -/
import Derived.Test.YtdbocilpcknlhaaDoorPFnExactReadReadingsx0
import Derived.Test.YtdbocilpcknlhaaDoorPFnExactReadReadingsx1
import Derived.Test.YtdbocilpcknlhaaDoorPFnExactReadReadingsx2
import Derived.Test.YtdbocilpcknlhaaDoorPFnExactReadReadingsx3
import Derived.Test.YtdbocilpcknlhaaDoorPFnExactReadReadingsx4
import Derived.Test.YtdbocilpcknlhaaDoorPFnExactReadReadingsx5
import Derived.Test.YtdbocilpcknlhaaDoorPFnExactReadReadingsx6
import Derived.Test.YtdbocilpcknlhaaDoorPFnExactReadReadingsx7
namespace Go.Proofs.YtdbocilpcknlhaaDoor.Pure
open Go.RowKit Go.Proofs.YtdbocilpcknlhaaDoor.PFnExactReadReadings Go.Proofs.YtdbocilpcknlhaaDoorW.PrintWords Go.Proofs.YtdbocilpcknlhaaDoorW.PrintLast Go.Proofs.YtdbocilpcknlhaaDoorW.PrintMore
set_option linter.unusedVariables false
set_option linter.unusedSimpArgs false
def dval (acc : Nat) (d : List UInt8) : Nat := d.foldl (fun a c => a * 10 + (c.toNat - 48)) acc
def isDig (c : UInt8) : Bool := decide (48 ≤ c.toNat) && decide (c.toNat ≤ 57)
theorem isDig_iff (c : UInt8) : isDig c = true ↔ 48 ≤ c.toNat ∧ c.toNat ≤ 57 := by unfold isDig; rw [Bool.and_eq_true, decide_eq_true_eq, decide_eq_true_eq]
theorem dval_snoc (d : List UInt8) (acc : Nat) (c : UInt8) : dval acc (d ++ [c]) = dval acc d * 10 + (c.toNat - 48) := by
 unfold dval
 rw [List.foldl_append]
 rfl
theorem dval_cons (acc : Nat) (x : UInt8) (d : List UInt8) : dval acc (x :: d) = dval (acc * 10 + (x.toNat - 48)) d := List.foldl_cons ..
theorem dval_ge (d : List UInt8) : ∀ (acc : Nat), acc ≤ dval acc d := by
 induction d with
 | nil => exact fun acc => Nat.le_refl _
 | cons x d ih =>
  intro acc
  rw [dval_cons]
  exact Nat.le_trans (by omega) (ih _)
theorem dval_pos (x : UInt8) (e : List UInt8) (h : x.toNat ≠ 48) (h1 : 48 ≤ x.toNat) : 1 ≤ dval 0 (x :: e) := by
 rw [dval_cons]
 exact Nat.le_trans (by omega) (dval_ge e _)
theorem dval_lt : ∀ (d : List UInt8) (acc : Nat), d.all isDig = true → dval acc d < (acc + 1) * 10 ^ d.length
 | [], acc, _ => by simp [dval]
 | x :: d, acc, h => by
  rw [List.all_cons, Bool.and_eq_true] at h
  have h1 := (isDig_iff x).1 h.1
  have h2 := dval_lt d (acc * 10 + (x.toNat - 48)) h.2
  refine Nat.lt_of_lt_of_le h2 ?_
  rw [List.length_cons, Nat.pow_succ, Nat.mul_comm (10 ^ d.length) 10, ← Nat.mul_assoc]
  exact Nat.mul_le_mul_right _ (by omega)
theorem chr_dig (c : UInt8) (h : 48 ≤ c.toNat ∧ c.toNat ≤ 57) : UInt8.ofNat (48 + (c.toNat - 48)) = c := by
 rw [show 48 + (c.toNat - 48) = c.toNat by omega]
 exact UInt8.ofNat_toNat
theorem dec_dval : ∀ (n : Nat) (d : List UInt8), d.length = n → d ≠ [] → d.all isDig = true → (d.head? ≠ some 48 ∨ d.length = 1) → Lib.decDigits (dval 0 d) = d := by
 intro n
 induction n with
 | zero => intro d hl hne; exact absurd (List.eq_nil_of_length_eq_zero hl) hne
 | succ n ih =>
  intro d hl hne ha hh
  obtain ⟨e, c, rfl⟩ : ∃ e c, d = e ++ [c] := ⟨d.dropLast, d.getLast hne, (List.dropLast_concat_getLast hne).symm⟩
  rw [List.all_append, Bool.and_eq_true] at ha
  have hc := (isDig_iff c).1 (by simpa using ha.2)
  rw [List.length_append, List.length_singleton] at hl
  rw [dval_snoc]
  by_cases he : e = []
  ·
   subst he
   rw [show dval 0 [] * 10 + (c.toNat - 48) = c.toNat - 48 by simp [dval], Lib.decDigits_one (by omega), chr_dig c hc]
   rfl
  ·
   have hh2 : e.head? ≠ some 48 := by
    rcases hh with hh | hh
    ·
     cases e with
     | nil => exact absurd rfl he
     | cons x e => simpa using hh
    ·
     rw [List.length_append, List.length_singleton] at hh
     exact absurd (List.eq_nil_of_length_eq_zero (by omega)) he
   have hp : 1 ≤ dval 0 e := by
    cases e with
    | nil => exact absurd rfl he
    | cons x e =>
     have hx : x ≠ 48 := by simpa using hh2
     rw [List.all_cons, Bool.and_eq_true] at ha
     have h1 := (isDig_iff x).1 ha.1.1
     have : x.toNat ≠ 48 := fun h => hx (UInt8.toNat_inj.1 h)
     exact dval_pos x e this h1.1
   have h2 := ih e (by omega) he ha.1 (.inl hh2)
   rw [Lib.decDigits, dif_neg (by omega), show (dval 0 e * 10 + (c.toNat - 48)) / 10 = dval 0 e by omega, show (dval 0 e * 10 + (c.toNat - 48)) % 10 = c.toNat - 48 by omega, h2, chr_dig c hc]
theorem dec_facts : ∀ (u : Nat), Lib.decDigits u ≠ [] ∧ (Lib.decDigits u).all isDig = true ∧ ((Lib.decDigits u).head? ≠ some 48 ∨ (Lib.decDigits u).length = 1) ∧ dval 0 (Lib.decDigits u) = u ∧ (u ≠ 0 → (Lib.decDigits u).head? ≠ some 48) := by
 intro u
 induction u using Nat.strongRecOn with
 | _ u ih =>
  by_cases h : u < 10
  ·
   rw [Lib.decDigits_one h]
   have hn : (UInt8.ofNat (48 + u)).toNat = 48 + u := by
    rw [UInt8.toNat_ofNat']
    omega
   refine ⟨by simp, ?_, .inr rfl, ?_, ?_⟩
   ·
    rw [List.all_cons, List.all_nil, Bool.and_true, isDig_iff, hn]
    omega
   ·
    show 0 * 10 + ((UInt8.ofNat (48 + u)).toNat - 48) = u
    rw [hn]
    omega
   ·
    intro hu e
    simp only [List.head?_cons, Option.some.injEq] at e
    rw [e] at hn
    have : (48 : UInt8).toNat = 48 := rfl
    omega
  ·
   obtain ⟨a1, a2, a3, a4, a5⟩ := ih (u / 10) (by omega)
   have e1 : Lib.decDigits u = Lib.decDigits (u / 10) ++ [UInt8.ofNat (48 + u % 10)] := by rw [Lib.decDigits, dif_neg h]
   have hn : (UInt8.ofNat (48 + u % 10)).toNat = 48 + u % 10 := by
    rw [UInt8.toNat_ofNat']
    omega
   have hh : (Lib.decDigits u).head? ≠ some 48 := by
    rw [e1]
    have h5 := a5 (by omega)
    cases hd : Lib.decDigits (u / 10) with
    | nil => exact absurd hd a1
    | cons x r => rw [hd] at h5; simpa using h5
   refine ⟨by rw [e1]; simp, ?_, .inl hh, ?_, fun _ => hh⟩
   ·
    rw [e1, List.all_append, a2, Bool.true_and, List.all_cons, List.all_nil, Bool.and_true, isDig_iff, hn]
    omega
   ·
    rw [e1, dval_snoc, a4, hn]
    omega
theorem parse_dval : ∀ (d : List UInt8) (acc : Nat), d.all isDig = true → dval acc d ≤ 999999999999999999 → Lib.parseUintM 18446744073709551615 acc d = .ok (dval acc d)
 | [], acc, _, _ => rfl
 | c :: d, acc, h, hv => by
  rw [List.all_cons, Bool.and_eq_true] at h
  have h1 := (isDig_iff c).1 h.1
  have h2 : dval (acc * 10 + (c.toNat - 48)) d ≤ 999999999999999999 := hv
  have h3 := dval_ge d (acc * 10 + (c.toNat - 48))
  unfold Lib.parseUintM
  rw [if_pos h1, if_neg (by omega), if_neg (by omega)]
  exact parse_dval d _ h.2 h2
def numD (d : List UInt8) (lone : Bool) : Option Nat := if d = [] ∨ 18 < d.length then none else if d.head? = some 48 ∧ lone = false then none else if d.all isDig = true then some (dval 0 d) else none
def numL (l : List UInt8) : Option Int := if l.head? = some 45 then (numD l.tail false).map (fun u => -(u : Int)) else (numD l (decide (l.length = 1))).map (fun u => (u : Int))
theorem numD_some {d : List UInt8} {lone : Bool} {u : Nat} (h : numD d lone = some u) : d ≠ [] ∧ d.length ≤ 18 ∧ (d.head? ≠ some 48 ∨ lone = true) ∧ d.all isDig = true ∧ u = dval 0 d := by
 unfold numD at h
 split at h
 ·
  cases h
 ·
  rename_i h1
  split at h
  ·
   cases h
  ·
   rename_i h2
   split at h
   ·
    rename_i h3
    injection h with h
    refine ⟨fun e => h1 (.inl e), Nat.le_of_not_lt fun e => h1 (.inr e), ?_, h3, h.symm⟩
    cases lone with
    | true => exact .inr rfl
    | false => exact .inl fun e => h2 ⟨e, rfl⟩
   ·
    cases h
theorem numD_lt {d : List UInt8} (h1 : d.length ≤ 18) (h2 : d.all isDig = true) : dval 0 d ≤ 999999999999999999 := by
 have h := dval_lt d 0 h2
 have h3 : 10 ^ d.length ≤ 10 ^ 18 := Nat.pow_le_pow_right (by decide) h1
 have h4 : (10 : Nat) ^ 18 = 1000000000000000000 := by decide
 omega
theorem trim45 (l : List UInt8) : Lib.trimPrefix l [45] = if l.head? = some 45 then l.tail else l := by
 unfold Lib.trimPrefix Lib.hasPrefix
 cases l with
 | nil => simp
 | cons c r =>
  by_cases h : c = 45
  ·
   subst h; simp
  ·
   have h2 : ¬ (45 : UInt8) = c := fun e => h e.symm
   simp [h, h2]
theorem dig_head {l : List UInt8} (h : l.all isDig = true) : l.head? ≠ some 45 := by
 cases l with
 | nil => simp
 | cons c r =>
  rw [List.all_cons, Bool.and_eq_true] at h
  have h1 := (isDig_iff c).1 h.1
  intro e
  simp only [List.head?_cons, Option.some.injEq] at e
  rw [e] at h1
  exact absurd h1.1 (by decide)
theorem numL_itoa {l : List UInt8} {v : Int} (h : numL l = some v) : Lib.itoa v = l ∧ (Lib.trimPrefix l [45]).length ≤ 18 ∧ Lib.parseIntB 64 l = .ok v := by
 have h64 : (2 : Nat) ^ 64 - 1 = 18446744073709551615 := by decide
 have h63 : (2 : Nat) ^ (64 - 1) = 9223372036854775808 := by decide
 rw [trim45]
 unfold numL at h
 split at h
 ·
  rename_i h45
  cases hn : numD l.tail false with
  | none => rw [hn] at h; cases h
  | some u =>
   rw [hn] at h
   replace h := Option.some.inj h
   dsimp only at h
   obtain ⟨a1, a2, a3, a4, rfl⟩ := numD_some hn
   have a3 : l.tail.head? ≠ some 48 := a3.resolve_right (by simp)
   cases l with
   | nil => simp at h45
   | cons c d =>
    simp only [List.head?_cons, Option.some.injEq] at h45
    subst h45
    simp only [List.tail_cons] at *
    have hd := dec_dval d.length d rfl a1 a4 (.inl a3)
    have hlt := numD_lt a2 a4
    have hpos : 1 ≤ dval 0 d := by
     cases d with
     | nil => exact absurd rfl a1
     | cons x e =>
      have hx : x ≠ 48 := by simpa using a3
      rw [List.all_cons, Bool.and_eq_true] at a4
      have h1 := (isDig_iff x).1 a4.1
      have : x.toNat ≠ 48 := fun h => hx (UInt8.toNat_inj.1 h)
      exact dval_pos x e this h1.1
    subst h
    refine ⟨?_, by simpa using a2, ?_⟩
    ·
     unfold Lib.itoa
     rw [if_pos (by omega), show (-(dval 0 d : Int)).natAbs = dval 0 d by omega, hd]
    ·
     unfold Lib.parseIntB Lib.parseUintB
     simp only [show ((45 : UInt8).toNat = 43 ∨ (45 : UInt8).toNat = 45) by decide, if_true, if_neg a1, h64, parse_dval d 0 a4 hlt, h63]
     rw [if_neg (by omega), if_neg (by omega)]
     simp
 ·
  rename_i h45
  cases hn : numD l (decide (l.length = 1)) with
  | none => rw [hn] at h; cases h
  | some u =>
   rw [hn] at h
   replace h := Option.some.inj h
   dsimp only at h
   obtain ⟨a1, a2, a3, a4, rfl⟩ := numD_some hn
   rw [decide_eq_true_eq] at a3
   have hd := dec_dval l.length l rfl a1 a4 a3
   have hlt := numD_lt a2 a4
   subst h
   refine ⟨?_, by rw [if_neg h45]; exact a2, ?_⟩
   ·
    unfold Lib.itoa
    rw [if_neg (by omega), Int.toNat_natCast, hd]
   ·
    cases l with
    | nil => exact absurd rfl a1
    | cons c d =>
     have h1 := (isDig_iff c).1 (by rw [List.all_cons, Bool.and_eq_true] at a4; exact a4.1)
     have e1 : ¬ c.toNat = 43 := by omega
     have e2 : ¬ c.toNat = 45 := by omega
     unfold Lib.parseIntB Lib.parseUintB
     simp only [e1, e2, or_false, if_false, if_neg a1, h64, parse_dval (c :: d) 0 a4 hlt, h63, false_and, not_false_eq_true, true_and]
     rw [if_neg (by omega)]
theorem itoa_numL {l : List UInt8} {v : Int} (h : Lib.itoa v = l) (ht : (Lib.trimPrefix l [45]).length ≤ 18) : numL l = some v := by
 rw [trim45] at ht
 unfold Lib.itoa at h
 unfold numL
 split at h
 ·
  rename_i hv
  subst h
  obtain ⟨a1, a2, a3, a4, a5⟩ := dec_facts v.natAbs
  simp only [List.head?_cons, if_true, List.tail_cons] at ht ⊢
  have hn : numD (Lib.decDigits v.natAbs) false = some v.natAbs := by
   unfold numD
   rw [if_neg (by rintro (h | h); exact a1 h; omega), if_neg (fun h => a5 (by omega) h.1), if_pos a2, a4]
  rw [hn]
  refine congrArg some ?_
  dsimp only
  omega
 ·
  rename_i hv
  subst h
  obtain ⟨a1, a2, a3, a4, a5⟩ := dec_facts v.toNat
  have h45 := dig_head a2
  rw [if_neg h45] at ht ⊢
  have hn : numD (Lib.decDigits v.toNat) (decide ((Lib.decDigits v.toNat).length = 1)) = some v.toNat := by
   unfold numD
   rw [if_neg (by rintro (h | h); exact a1 h; omega), if_neg (by rintro ⟨h, h2⟩; rw [decide_eq_false_iff_not] at h2; exact (a3.resolve_right h2) h), if_pos a2, a4]
  rw [hn]
  refine congrArg some ?_
  dsimp only
  omega
theorem w64 {x : Int} (h0 : -9223372036854775808 ≤ x) (h1 : x ≤ 9223372036854775807) : wrap64 x = x := by unfold wrap64; omega
theorem getD_mem {α : Type} {l : List α} {i : Nat} (d : α) (h : i < l.length) : l.getD i d ∈ l := by
 rw [List.getD_eq_getElem?_getD, List.getElem?_eq_getElem h]; exact List.getElem_mem _
theorem getD_lt {α : Type} {l : List α} {i : Nat} (d : α) (h : i < l.length) : l.getD i d = l[i] := by
 rw [List.getD_eq_getElem?_getD, List.getElem?_eq_getElem h]; rfl
theorem ev_eq {α : Type} (L : Nat → List α → List α → Int → Option Bool) (xs : List α) 
  (step : ∀ i, i < xs.length → Ev (fun k => L k xs xs ((i + 1 : Nat) : Int)) true → Ev (fun k => L k xs xs (i : Int)) true)
  (fin : Ev (fun k => L k xs xs (xs.length : Int)) true) : Ev (fun k => L k xs xs 0) true := by
 have key : ∀ (m i : Nat), i + m = xs.length → Ev (fun k => L k xs xs (i : Int)) true := by
  intro m
  induction m with
  | zero =>
   intro i hi
   have : i = xs.length := by omega
   subst this
   exact fin
  | succ m ih => intro i hi; exact step i (by omega) (ih (i + 1) (by omega))
 exact key xs.length 0 (by omega)
def mkB (l : List UInt8) : ByteArray := ⟨l.toArray⟩
theorem mkB_toList (l : List UInt8) : (mkB l).data.toList = l := rfl
theorem mkB_of (b : ByteArray) : mkB b.data.toList = b := by unfold mkB; cases b; rfl
theorem mkB_inj {a : List UInt8} {b : ByteArray} : mkB a = b ↔ a = b.data.toList := by
 constructor
 ·
  intro h; rw [← h]; rfl
 ·
  intro h; rw [h]; exact mkB_of b
theorem mkB_extract (b : ByteArray) (s e : Nat) : b.extract s e = mkB ((b.data.toList.take e).drop s) := by
 rw [← mkB_of (b.extract s e), Lib.extract_data, List.drop_take]
theorem mkB_append (a b : List UInt8) : mkB a ++ mkB b = mkB (a ++ b) := by
 rw [← mkB_of (mkB a ++ mkB b), ByteArray.toList_data_append]
 rfl
theorem mkB_size (l : List UInt8) : (mkB l).size = l.length := by
 show l.toArray.size = l.length
 simp
def spl (c : UInt8) : List UInt8 → List (List UInt8)
 | [] => [[]]
 | x :: r => if x = c then [] :: spl c r else match spl c r with
  | [] => [[x]]
  | h :: t => (x :: h) :: t
def att (p : List UInt8) : List (List UInt8) → List (List UInt8)
 | [] => [p]
 | h :: t => (p ++ h) :: t
theorem spl_cons (c x : UInt8) (r : List UInt8) : spl c (x :: r) = if x = c then [] :: spl c r else att [x] (spl c r) := by
 rw [spl]
 split
 ·
  rfl
 ·
  cases spl c r <;> rfl
theorem spl_ne (c : UInt8) : ∀ l, spl c l ≠ []
 | [] => by simp [spl]
 | x :: r => by
  rw [spl_cons]
  split
  ·
   simp
  ·
   cases spl c r <;> simp [att]
theorem att_nil {l : List (List UInt8)} (h : l ≠ []) : att [] l = l := by
 cases l with
 | nil => exact absurd rfl h
 | cons a t => simp [att]
theorem att_att (p q : List UInt8) {l : List (List UInt8)} (h : l ≠ []) : att p (att q l) = att (p ++ q) l := by
 cases l with
 | nil => exact absurd rfl h
 | cons a t => simp [att]
theorem att_length (p : List UInt8) {l : List (List UInt8)} (h : l ≠ []) : (att p l).length = l.length := by
 cases l with
 | nil => exact absurd rfl h
 | cons a t => rfl
theorem spl_len (c : UInt8) : ∀ l : List UInt8, (spl c l).length ≤ l.length + 1
 | [] => by simp [spl]
 | x :: r => by
  have := spl_len c r
  rw [spl_cons]
  split
  ·
   simp only [List.length_cons]; omega
  ·
   rw [att_length _ (spl_ne c r)]; simp only [List.length_cons]; omega
theorem spl_none (c : UInt8) : ∀ l : List UInt8, c ∉ l → spl c l = [l]
 | [], _ => rfl
 | x :: r, h => by
  rw [List.mem_cons, not_or] at h
  rw [spl_cons, if_neg (fun e => h.1 e.symm), spl_none c r h.2]
  rfl
theorem spl_first (c : UInt8) (r : List UInt8) : ∀ l : List UInt8, c ∉ l → spl c (l ++ c :: r) = l :: spl c r
 | [], _ => by rw [List.nil_append, spl_cons, if_pos rfl]
 | x :: l, h => by
  rw [List.mem_cons, not_or] at h
  rw [List.cons_append, spl_cons, if_neg (fun e => h.1 e.symm), spl_first c r l h.2]
  rfl
theorem spl_free (c : UInt8) : ∀ l : List UInt8, ∀ p ∈ spl c l, c ∉ p
 | [], p, hp => by
  rw [spl, List.mem_singleton] at hp
  rw [hp]
  simp
 | x :: r, p, hp => by
  have ih := spl_free c r
  rw [spl_cons] at hp
  split at hp
  ·
   rcases List.mem_cons.1 hp with rfl | hp
   ·
    simp
   ·
    exact ih p hp
  ·
   rename_i hx
   cases hs : spl c r with
   | nil => exact absurd hs (spl_ne c r)
   | cons a t =>
    rw [hs] at hp ih
    rcases List.mem_cons.1 hp with rfl | hp
    ·
     intro hc
     rcases List.mem_cons.1 hc with e | hc
     ·
      exact hx e.symm
     ·
      exact ih a (List.mem_cons_self ..) hc
    ·
     exact ih p (List.mem_cons_of_mem _ hp)
theorem join_cons2 (x y : List UInt8) (r : List (List UInt8)) (c : UInt8) : Lib.join (x :: y :: r) [c] = x ++ c :: Lib.join (y :: r) [c] := by
 rw [Lib.join_cons, Lib.join_cons]
 simp [Lib.joinTail]
theorem join_att (c : UInt8) (p : List UInt8) {l : List (List UInt8)} (h : l ≠ []) : Lib.join (att p l) [c] = p ++ Lib.join l [c] := by
 cases l with
 | nil => exact absurd rfl h
 | cons a t =>
  show Lib.join ((p ++ a) :: t) [c] = _
  rw [Lib.join_cons, Lib.join_cons, List.append_assoc]
theorem join_spl (c : UInt8) : ∀ l : List UInt8, Lib.join (spl c l) [c] = l
 | [] => by rw [spl, Lib.join_one]
 | x :: r => by
  have ih := join_spl c r
  rw [spl_cons]
  split
  ·
   rename_i hx
   cases hs : spl c r with
   | nil => exact absurd hs (spl_ne c r)
   | cons a t =>
    rw [join_cons2, ← hs, ih, hx]
    rfl
  ·
   rw [join_att c _ (spl_ne c r), ih]
   rfl
theorem spl_piece {c : UInt8} {l p : List UInt8} (hp : p ∈ spl c l) : p.length ≤ l.length := by
 have hj := join_spl c l
 have : p.length ≤ (Lib.join (spl c l) [c]).length := by
  clear hj
  revert hp
  generalize spl c l = P
  intro hp
  induction P with
  | nil => exact absurd hp (List.not_mem_nil)
  | cons a t ih =>
   cases t with
   | nil =>
    rw [List.mem_singleton.1 hp, Lib.join_one]
    exact Nat.le_refl _
   | cons a2 t2 =>
    rw [join_cons2, List.length_append, List.length_cons]
    rcases List.mem_cons.1 hp with rfl | hp
    ·
     omega
    ·
     have := ih hp
     omega
 rw [hj] at this
 exact this
theorem spl_index (c : UInt8) (l : List UInt8) : (Lib.index l [c] = -1 ∧ spl c l = [l]) ∨ (∃ i : Nat, Lib.index l [c] = i ∧ spl c l = l.take i :: spl c (l.drop (i + 1)) ∧ i < l.length ∧ l = l.take i ++ c :: l.drop (i + 1)) := by
 have occ : ∀ j, Lib.occAt l [c] j = true ↔ l[j]? = some c := by
  intro j
  unfold Lib.occAt
  have : l[j]? = (l.drop j).head? := by rw [List.head?_drop]
  rw [this]
  cases l.drop j with
  | nil => simp
  | cons y t =>
   show (c == y && List.isPrefixOf [] t) = true ↔ some y = some c
   rw [Bool.and_eq_true, beq_iff_eq]
   exact ⟨fun h => congrArg some h.1.symm, fun h => ⟨(Option.some.inj h).symm, rfl⟩⟩
 rcases Lib.index_spec l [c] with ⟨h1, h2⟩ | ⟨i, h1, h2, h3, h4⟩
 ·
  refine .inl ⟨h1, spl_none c l fun hm => ?_⟩
  obtain ⟨j, hj, hj2⟩ := List.getElem_of_mem hm
  have h3 := h2 j (by omega)
  rw [(occ j).2 (by rw [List.getElem?_eq_getElem hj, hj2])] at h3
  cases h3
 ·
  have hc := (occ i).1 h3
  obtain ⟨hi, hc2⟩ := List.getElem?_eq_some_iff.1 hc
  have e : l = l.take i ++ c :: l.drop (i + 1) := by
   conv => lhs; rw [← List.take_append_drop i l]
   rw [List.drop_eq_getElem_cons hi, hc2]
  refine .inr ⟨i, h1, ?_, hi, e⟩
  conv => lhs; rw [e]
  refine spl_first c _ _ fun hm => ?_
  obtain ⟨j, hj, hj2⟩ := List.getElem_of_mem hm
  rw [List.length_take] at hj
  rw [List.getElem_take] at hj2
  have h5 := h4 j (by omega)
  rw [(occ j).2 (by rw [List.getElem?_eq_getElem (by omega), hj2])] at h5
  cases h5
theorem splK (c : UInt8) : ∀ (n : Nat) (l : List UInt8), ((spl c l).length ≤ n + 1 → Lib.splitK [c] 0 n l = spl c l) ∧ (n + 1 < (spl c l).length → (Lib.splitK [c] 0 n l).length = n + 1)
 | 0, l => by
  refine ⟨fun h => ?_, fun _ => rfl⟩
  rcases spl_index c l with ⟨_, h2⟩ | ⟨i, _, h2, _⟩
  ·
   rw [h2]; rfl
  ·
   rw [h2, List.length_cons] at h
   exact absurd (List.eq_nil_of_length_eq_zero (by omega)) (spl_ne c (l.drop (i + 1)))
 | n + 1, l => by
  rcases spl_index c l with ⟨h1, h2⟩ | ⟨i, h1, h2, _⟩
  ·
   refine ⟨fun _ => ?_, fun h => ?_⟩
   ·
    rw [Lib.splitK, h1, if_pos (by rfl), h2]
   ·
    rw [h2, List.length_singleton] at h
    omega
  ·
   have ih := splK c n (l.drop (i + 1))
   have e : Lib.splitK [c] 0 (n + 1) l = l.take i :: Lib.splitK [c] 0 n (l.drop (i + 1)) := by
    rw [Lib.splitK, h1, if_neg (by simp)]
    rfl
   rw [e, h2, List.length_cons, List.length_cons]
   exact ⟨fun h => by rw [ih.1 (by omega)], fun h => by rw [ih.2 (by omega)]⟩
theorem numL_bytes {l : List UInt8} {v : Int} (h : numL l = some v) : l ≠ [] ∧ ∀ x ∈ l, x = 45 ∨ isDig x = true := by
 unfold numL at h
 split at h
 ·
  rename_i h45
  cases hn : numD l.tail false with
  | none => rw [hn] at h; cases h
  | some u =>
   obtain ⟨a1, a2, a3, a4, rfl⟩ := numD_some hn
   cases l with
   | nil => simp at h45
   | cons c d =>
    refine ⟨by simp, fun x hx => ?_⟩
    rcases List.mem_cons.1 hx with rfl | hx
    ·
     exact .inl (Option.some.inj h45)
    ·
     exact .inr (List.all_eq_true.1 a4 x hx)
 ·
  cases hn : numD l (decide (l.length = 1)) with
  | none => rw [hn] at h; cases h
  | some u =>
   obtain ⟨a1, a2, a3, a4, rfl⟩ := numD_some hn
   exact ⟨a1, fun x hx => .inr (List.all_eq_true.1 a4 x hx)⟩
theorem Ev.succ {α : Type} {g : Nat → Option α} {r : α} (h : Ev (fun k => g (k + 1)) r) : Ev g r := Ev.step (fun _ => rfl) h
theorem Ev.now' {α : Type} {a b : α} (h : a = b) : Ev (fun _ => some a) b := h ▸ Ev.now a
def digitC (c : Int) : Bool := decide (48 ≤ c) && decide (c ≤ 57)
theorem specDigit_eq (c : Int) : spec_l01Digit.f c = some (digitC c) := by
 unfold spec_l01Digit.f digitC
 by_cases h : c ≥ 48
 ·
  rw [if_pos h, decide_eq_true (show 48 ≤ c from h)]; rfl
 ·
  rw [if_neg h, decide_eq_false (show ¬ 48 ≤ c from h)]; rfl
def numR (l : List UInt8) : Int × Bool := match numL l with
 | some v => (v, true)
 | none => (0, false)
theorem bt_get (b : ByteArray) (i : Nat) (h : i < b.data.toList.length) : bt b (i : Int) = ((b.data.toList[i].toNat : Nat) : Int) := by
 have h2 : i < b.size := by simpa using h
 rw [← bt_at b (i : Int) (by simpa using h2)]
 simp only [Int.toNat_natCast]
 rfl
theorem size_of (b : ByteArray) : b.size = b.data.toList.length := rfl
theorem digit_cast (c : UInt8) : digitC ((c.toNat : Nat) : Int) = isDig c := by
 unfold digitC isDig
 congr 1
 ·
  exact decide_eq_decide.2 (by omega)
 ·
  exact decide_eq_decide.2 (by omega)
theorem specNumLoop (b : ByteArray) (fr : Nat) (hfr : fr ≤ 1) (hb : b.data.toList.length ≤ 4611686018427387904) : ∀ (m i acc : Nat), i + m = b.data.toList.length → m ≤ 18 → acc < 10 ^ (18 - m) →
  Ev (fun k => spec_l01Number.l0 k b (fr : Int) (acc : Int) (i : Int)) (if (b.data.toList.drop i).all isDig = true then ((if fr = 1 then -((dval acc (b.data.toList.drop i) : Nat) : Int) else ((dval acc (b.data.toList.drop i) : Nat) : Int)), true) else (0, false)) := by
 intro m
 induction m with
 | zero =>
  intro i acc hi hm ha
  rw [List.drop_eq_nil_of_le (by omega), if_pos (show [].all isDig = true from rfl)]
  have h18 : acc < 1000000000000000000 := by simpa using ha
  refine Ev.step (f := fun _ => some ((if fr = 1 then -(acc : Int) else (acc : Int)), true)) (fun k => ?_) (Ev.now _)
  simp only [spec_l01Number.l0]
  rw [if_neg (by rw [size_of]; omega)]
  by_cases h : fr = 1
  ·
   rw [if_pos (by omega), if_pos h, w64 (by omega) (by omega)]
  ·
   rw [if_neg (by omega), if_neg h]
 | succ m ih =>
  intro i acc hi hm ha
  have hlt : i < b.data.toList.length := by omega
  have hp : (10 : Nat) ^ (18 - (m + 1)) ≤ 10 ^ 17 := Nat.pow_le_pow_right (by decide) (by omega)
  have h17 : (10 : Nat) ^ 17 = 100000000000000000 := by decide
  have hb0 := b.data.toList[i].toNat_lt
  rw [List.drop_eq_getElem_cons hlt, List.all_cons]
  cases hd : isDig b.data.toList[i] with
  | false =>
   rw [Bool.false_and, if_neg (by decide)]
   refine Ev.step (f := fun _ => some (0, false)) (fun k => ?_) (Ev.now _)
   simp only [spec_l01Number.l0]
   rw [if_pos (by rw [size_of]; omega), if_pos (by omega), specDigit_eq, bt_get b i hlt, digit_cast, hd]
   rfl
  | true =>
   rw [Bool.true_and, dval_cons]
   have hd2 := (isDig_iff _).1 hd
   have ih2 := ih (i + 1) (acc * 10 + (b.data.toList[i].toNat - 48)) (by omega) (by omega) (by
    have e : 18 - m = (18 - (m + 1)) + 1 := by omega
    rw [e, Nat.pow_succ]
    omega)
   refine Ev.step (fun k => ?_) ih2
   simp only [spec_l01Number.l0]
   rw [if_pos (by rw [size_of]; omega), if_pos (by omega), specDigit_eq, bt_get b i hlt, digit_cast, hd]
   simp only [Option.bind_some, if_true]
   rw [w64 (x := 10 * (acc : Int)) (by omega) (by omega), w64 (x := (i : Int) + 1) (by omega) (by omega), w64 (by omega) (by omega)]
   congr 1
   omega
theorem specNum_ev (b : ByteArray) (hb : b.size ≤ 4611686018427387904) : Ev (fun k => spec_l01Number.f k b) (numR b.data.toList) := by
 have hz := size_of b
 have j1 : ∀ fr : Nat, fr ≤ 1 → fr ≤ b.data.toList.length → (fr = 1 → b.data.toList.length ≠ 0) →
   Ev (fun k => spec_l01Number.j1 k b (fr : Int)) (match numD (b.data.toList.drop fr) (decide (b.data.toList.length ≤ 1)) with | some u => ((if fr = 1 then -(u : Int) else (u : Int)), true) | none => (0, false)) := by
  intro fr h1 h2 h3
  have j2t : Ev (fun k => spec_l01Number.j2 k b (fr : Int) true) (0, false) := Ev.step (f := fun _ => some (0, false)) (fun k => by simp [spec_l01Number.j2]) (Ev.now _)
  unfold numD
  refine Ev.succ ?_
  simp only [spec_l01Number.j1]
  by_cases e1 : b.data.toList.length = fr
  ·
   rw [if_pos (.inl (List.drop_eq_nil_of_le (by omega)))]
   simp only [show ((b.size : Int) = fr) by omega, if_true]
   exact j2t
  ·
   simp only [show ¬ ((b.size : Int) = fr) by omega, if_false]
   rw [w64 (by omega) (by omega)]
   by_cases e2 : b.data.toList.length - fr > 18
   ·
    rw [if_pos (.inr (by rw [List.length_drop]; omega))]
    simp only [show ((b.size : Int) - fr > 18) by omega, if_true]
    exact j2t
   ·
    have hlt : fr < b.data.toList.length := by omega
    rw [if_neg (fun h => h.elim (fun h => by have := congrArg List.length h; rw [List.length_drop, List.length_nil] at this; omega) (fun h => by rw [List.length_drop] at h; omega))]
    simp only [show ¬ ((b.size : Int) - fr > 18) by omega, if_false, show (0 : Int) ≤ fr by omega, show (fr : Int) < b.size by omega, if_true]
    rw [bt_get b fr hlt, List.head?_drop, List.getElem?_eq_getElem hlt]
    have go : Ev (fun k => spec_l01Number.j2 k b (fr : Int) false) (match (if (b.data.toList.drop fr).all isDig = true then some (dval 0 (b.data.toList.drop fr)) else none) with | some u => ((if fr = 1 then -(u : Int) else (u : Int)), true) | none => (0, false)) := by
     have hl := specNumLoop b fr h1 (by omega) (b.data.toList.length - fr) fr 0 (by omega) (by omega) (Nat.pow_pos (by decide))
     refine Ev.step (f := fun k => spec_l01Number.l0 k b (fr : Int) 0 (fr : Int)) (fun k => by simp [spec_l01Number.j2]) ?_
     have e : (match (if (b.data.toList.drop fr).all isDig = true then some (dval 0 (b.data.toList.drop fr)) else none) with | some u => ((if fr = 1 then -(u : Int) else (u : Int)), true) | none => (0, false)) = (if (b.data.toList.drop fr).all isDig = true then ((if fr = 1 then -((dval 0 (b.data.toList.drop fr) : Nat) : Int) else ((dval 0 (b.data.toList.drop fr) : Nat) : Int)), true) else ((0 : Int), false)) := by
      by_cases hall : (b.data.toList.drop fr).all isDig = true
      ·
       simp only [hall, if_true]
      ·
       simp only [hall, if_false]
       rfl
     rw [e]
     exact hl
    by_cases e3 : b.data.toList[fr] = 48
    ·
     have e3' : ((b.data.toList[fr].toNat : Nat) : Int) = 48 := by rw [e3]; rfl
     simp only [e3', if_true]
     by_cases e4 : b.data.toList.length ≤ 1
     ·
      rw [decide_eq_true e4, if_neg (by rintro ⟨_, h⟩; cases h), decide_eq_false (show ¬ (b.size : Int) > 1 by omega)]
      exact go
     ·
      rw [decide_eq_false e4, e3, if_pos ⟨rfl, rfl⟩, decide_eq_true (show (b.size : Int) > 1 by omega)]
      exact j2t
    ·
     have e3' : ¬ ((b.data.toList[fr].toNat : Nat) : Int) = 48 := fun h => e3 (UInt8.toNat_inj.1 ((show b.data.toList[fr].toNat = 48 by omega).trans rfl))
     simp only [e3', if_false]
     rw [if_neg (fun h => e3 (Option.some.inj h.1))]
     exact go
 unfold spec_l01Number.f numR numL
 by_cases h0 : b.data.toList.length = 0
 ·
  have hnil := List.eq_nil_of_length_eq_zero h0
  simp only [show ¬ (b.size : Int) > 0 by omega, if_false]
  have h := j1 0 (by omega) (by omega) (by omega)
  refine Ev.step (f := fun k => spec_l01Number.j1 k b 0) (fun k => by simp [spec_l01Number.j0]) ?_
  rw [hnil] at h ⊢
  exact h
 ·
  simp only [show (b.size : Int) > 0 by omega, if_true, show (0 : Int) < b.size by omega]
  have hb0 := bt_get b 0 (by omega)
  rw [show ((0 : Nat) : Int) = 0 from rfl] at hb0
  rw [hb0]
  have hh : b.data.toList.head? = some b.data.toList[0] := by
   rw [List.head?_eq_getElem?, List.getElem?_eq_getElem (by omega)]
  rw [hh]
  by_cases h45 : b.data.toList[0] = 45
  ·
   have e45 : ((b.data.toList[0].toNat : Nat) : Int) = 45 := by rw [h45]; rfl
   rw [e45, h45, if_pos rfl]
   have h := j1 1 (by omega) (by omega) (by omega)
   refine Ev.step (f := fun k => spec_l01Number.j1 k b 1) (fun k => by simp [spec_l01Number.j0]) ?_
   have e5 : numD (b.data.toList.drop 1) (decide (b.data.toList.length ≤ 1)) = numD b.data.toList.tail false := by
    rw [List.drop_one]
    by_cases h1 : b.data.toList.length ≤ 1
    ·
     have : b.data.toList.tail = [] := List.eq_nil_of_length_eq_zero (by rw [List.length_tail]; omega)
     rw [this]
     rfl
    ·
     rw [decide_eq_false h1]
   rw [e5] at h
   cases hn : numD b.data.toList.tail false with
   | none => rw [hn] at h; exact h
   | some u => rw [hn] at h; exact h
  ·
   have e45 : ¬ ((b.data.toList[0].toNat : Nat) : Int) = 45 := fun h => h45 (UInt8.toNat_inj.1 ((show b.data.toList[0].toNat = 45 by omega).trans rfl))
   rw [if_neg (fun e => h45 (Option.some.inj e))]
   have h := j1 0 (by omega) (by omega) (by omega)
   refine Ev.step (f := fun k => spec_l01Number.j1 k b 0) (fun k => ?_) ?_
   ·
    have : (((b.data.toList[0].toNat : Nat) : Int) == 45) = false := by simpa using e45
    rw [this]
    simp [spec_l01Number.j0]
   ·
    rw [List.drop_zero] at h
    rw [show decide (b.data.toList.length = 1) = decide (b.data.toList.length ≤ 1) from decide_eq_decide.2 (by omega)]
    cases hn : numD b.data.toList (decide (b.data.toList.length ≤ 1)) with
    | none => rw [hn] at h; exact h
    | some u => rw [hn] at h; exact h
theorem specSplit_ev (b : ByteArray) (c : UInt8) (hb : b.size ≤ 1048576) : Ev (fun k => spec_l01Split.f k b ((c.toNat : Nat) : Int)) ((spl c b.data.toList).map mkB) := by
 have hz := size_of b
 have key : ∀ (m i s : Nat) (acc : List ByteArray), i + m = b.data.toList.length → s ≤ i → acc.length ≤ i →
   Ev (fun k => spec_l01Split.l0 k b ((c.toNat : Nat) : Int) acc (s : Int) (i : Int)) (acc ++ (att ((b.data.toList.take i).drop s) (spl c (b.data.toList.drop i))).map mkB) := by
  intro m
  induction m with
  | zero =>
   intro i s acc hi hs ha
   refine Ev.step (f := fun _ => some (acc ++ [b.extract s b.size])) (fun k => ?_) (Ev.now' ?_)
   ·
    simp only [spec_l01Split.l0]
    rw [if_neg (by omega), if_pos (by omega), if_pos (by omega), if_pos (by omega), Int.toNat_natCast]
   ·
    rw [List.drop_eq_nil_of_le (show b.data.toList.length ≤ i by omega), mkB_extract, hz, List.take_of_length_le (Nat.le_refl _), List.take_of_length_le (show b.data.toList.length ≤ i by omega)]
    simp [spl, att]
  | succ m ih =>
   intro i s acc hi hs ha
   have hlt : i < b.data.toList.length := by omega
   by_cases hc : b.data.toList[i] = c
   ·
    have ih2 := ih (i + 1) (i + 1) (acc ++ [mkB ((b.data.toList.take i).drop s)]) (by omega) (by omega) (by rw [List.length_append, List.length_singleton]; omega)
    rw [List.drop_eq_getElem_cons hlt, spl_cons, if_pos hc]
    rw [List.drop_eq_nil_of_le (show (b.data.toList.take (i + 1)).length ≤ i + 1 by rw [List.length_take]; omega), att_nil (spl_ne c _), List.append_assoc] at ih2
    refine Ev.step (fun k => ?_) (show Ev _ (acc ++ (att ((b.data.toList.take i).drop s) ([] :: spl c (b.data.toList.drop (i + 1)))).map mkB) from by
     simp only [att, List.append_nil, List.map_cons]
     exact ih2)
    simp only [spec_l01Split.l0]
    rw [if_pos (by omega), if_pos (by omega), bt_get b i hlt, hc, if_pos rfl, if_pos (by omega), if_pos (by omega), if_pos (by omega), if_pos (by omega), w64 (by omega) (by omega), Int.toNat_natCast, Int.toNat_natCast, mkB_extract]
    rfl
   ·
    have ih2 := ih (i + 1) s acc (by omega) (by omega) (by omega)
    rw [List.drop_eq_getElem_cons hlt, spl_cons, if_neg hc, att_att _ _ (spl_ne c _)]
    have e : (b.data.toList.take i).drop s ++ [b.data.toList[i]] = (b.data.toList.take (i + 1)).drop s := by
     rw [List.take_succ_eq_append_getElem hlt, List.drop_append_of_le_length (by rw [List.length_take]; omega)]
    rw [e]
    refine Ev.step (fun k => ?_) ih2
    simp only [spec_l01Split.l0]
    rw [if_pos (by omega), if_pos (by omega), bt_get b i hlt, if_neg (fun h => hc (UInt8.toNat_inj.1 (by omega))), w64 (by omega) (by omega)]
    rfl
 have h := key b.data.toList.length 0 0 [] (by omega) (by omega) (by simp)
 rw [List.take_zero, List.drop_nil, List.drop_zero, att_nil (spl_ne c _), List.nil_append] at h
 unfold spec_l01Split.f
 exact h
theorem specIn_eq (a lo hi : Int) : spec_l00In.f a lo hi = some (inB lo hi a) := by
 unfold spec_l00In.f inB
 by_cases h : a ≥ lo
 ·
  rw [if_pos h, decide_eq_true (show lo ≤ a from h)]; rfl
 ·
  rw [if_neg h, decide_eq_false (show ¬ lo ≤ a from h)]; rfl
theorem rdecI_eq (b : ByteArray) : rdecI b = numR b.data.toList := by
 unfold numR
 cases hn : numL b.data.toList with
 | some v =>
  obtain ⟨h1, h2, h3⟩ := numL_itoa hn
  unfold rdecI
  rw [h3]
  dsimp only
  rw [if_pos ⟨h2, by rw [h1]⟩]
 | none =>
  unfold rdecI
  split
  ·
   split
   ·
    rename_i v _ h
    have := itoa_numL (mkB_inj.1 h.2) h.1
    rw [hn] at this
    cases this
   ·
    rfl
  ·
   rfl
theorem cut_two (c : UInt8) (l : List UInt8) : ∃ x y b, Lib.cut l [c] = (x, y, b) ∧ x.length ≤ l.length ∧ y.length ≤ l.length ∧ (∀ z ∈ l, z = c ∨ z ∈ x ∨ z ∈ y) ∧ ((spl c l = [x, y] ∧ l = x ++ c :: y) ∨ ((spl c l).length ≠ 2 ∧ (y = [] ∨ c ∈ y))) := by
 rcases spl_index c l with ⟨h1, h2⟩ | ⟨i, h1, h2, h3, h4⟩
 ·
  refine ⟨l, [], false, ?_, Nat.le_refl _, Nat.zero_le _, fun z hz => .inr (.inl hz), .inr ⟨by rw [h2]; simp, .inl rfl⟩⟩
  unfold Lib.cut
  rw [h1, if_neg (by decide)]
 ·
  refine ⟨l.take i, l.drop (i + 1), true, ?_, ?_, ?_, ?_, ?_⟩
  ·
   unfold Lib.cut
   rw [h1, if_pos (by omega), Int.toNat_natCast]
   rfl
  ·
   rw [List.length_take]; omega
  ·
   rw [List.length_drop]; omega
  ·
   intro z hz
   have hz2 : z ∈ l.take i ++ c :: l.drop (i + 1) := h4 ▸ hz
   rcases List.mem_append.1 hz2 with h | h
   ·
    exact .inr (.inl h)
   ·
    rcases List.mem_cons.1 h with h | h
    ·
     exact .inl h
    ·
     exact .inr (.inr h)
  ·
   by_cases hm : c ∈ l.drop (i + 1)
   ·
    refine .inr ⟨?_, .inr hm⟩
    rw [h2]
    rcases spl_index c (l.drop (i + 1)) with ⟨_, g2⟩ | ⟨j, _, g2, _⟩
    ·
     have := spl_free c (l.drop (i + 1))
     rw [g2] at this
     exact absurd hm (this _ (List.mem_singleton.2 rfl))
    ·
     rw [g2]
     cases hs : spl c ((l.drop (i + 1)).drop (j + 1)) with
     | nil => exact absurd hs (spl_ne c _)
     | cons a t => simp
   ·
    refine .inl ⟨?_, h4⟩
    rw [h2, spl_none c _ hm]
theorem numL_no {c : UInt8} {l : List UInt8} (h : l = [] ∨ c ∈ l) (hc : c ≠ 45) (hd : isDig c = false) : numL l = none := by
 cases hn : numL l with
 | none => rfl
 | some v =>
  obtain ⟨h1, h2⟩ := numL_bytes hn
  rcases h with h | h
  ·
   exact absurd h h1
  ·
   rcases h2 c h with h3 | h3
   ·
    exact absurd h3 hc
   ·
    rw [hd] at h3; cases h3
theorem spl2_of {c : UInt8} {l : List UInt8} (h : (spl c l).length = 2) : ∃ p q, spl c l = [p, q] := by
 match h2 : spl c l, h with
 | [p, q], _ => exact ⟨p, q, rfl⟩
theorem cutF (b : ByteArray) (c : UInt8) (h : b.size < 4294967281) {x y : List UInt8} {f : Bool} (hc : Lib.cut b.data.toList [c] = (x, y, f)) : strings_Cut.f b (⟨#[c]⟩ : ByteArray) = some (mkB x, mkB y, f) := by
 unfold strings_Cut.f
 rw [if_pos h]
 show some (mkB (Lib.cut b.data.toList [c]).1, mkB (Lib.cut b.data.toList [c]).2.1, (Lib.cut b.data.toList [c]).2.2) = _
 rw [hc]
theorem numR_iff {l : List UInt8} : (numR l).2 = true ↔ ∃ v, numL l = some v ∧ (numR l).1 = v := by
 unfold numR
 cases numL l with
 | none => exact ⟨fun h => Bool.noConfusion h, fun ⟨_, h, _⟩ => absurd h (by simp)⟩
 | some v => exact ⟨fun _ => ⟨v, rfl, rfl⟩, fun _ => rfl⟩
theorem splitK_piece (c : UInt8) : ∀ (n : Nat) (l : List UInt8), ∀ p ∈ Lib.splitK [c] 0 n l, p.length ≤ l.length := by
 intro n
 induction n with
 | zero => intro l p hp; rw [List.mem_singleton.1 hp]; exact Nat.le_refl _
 | succ n ih =>
  intro l p hp
  rw [Lib.splitK] at hp
  split at hp
  ·
   rw [List.mem_singleton.1 hp]; exact Nat.le_refl _
  ·
   rcases List.mem_cons.1 hp with rfl | hp
   ·
    rw [List.length_take]; omega
   ·
    have := ih _ p hp
    rw [List.length_drop] at this
    omega
theorem splitN_cases (c : UInt8) (n : Nat) (hn : 1 ≤ n) (l : List UInt8) : (Lib.splitK [c] 0 (min n (l.length + 1) - 1) l = spl c l ∧ (spl c l).length ≤ n) ∨ ((Lib.splitK [c] 0 (min n (l.length + 1) - 1) l).length = n ∧ n < (spl c l).length) := by
 have hlen := spl_len c l
 have hk := splK c (min n (l.length + 1) - 1) l
 by_cases h : (spl c l).length ≤ n
 ·
  exact .inl ⟨hk.1 (by omega), h⟩
 ·
  exact .inr ⟨by rw [hk.2 (by omega)]; omega, by omega⟩
theorem splitN_f (b : ByteArray) (c : UInt8) (n : Nat) (hn : 1 ≤ n) (hn2 : n ≤ 1048576) (hb : b.size ≤ 1048576) : strings_SplitN.f b (⟨#[c]⟩ : ByteArray) (n : Int) = some ((Lib.splitK [c] 0 (min n (b.data.toList.length + 1) - 1) b.data.toList).map mkB) := by
 have hz : b.size = b.data.toList.length := rfl
 unfold strings_SplitN.f
 rw [if_pos ⟨by omega, Nat.le_refl 1, by omega, by omega⟩]
 have h := Lib.splitB_data (⟨#[c]⟩ : ByteArray) 0 (min (n : Int).toNat (b.size + 1) - 1) b
 refine congrArg some ?_
 rw [hz] at h ⊢
 rw [Int.toNat_natCast] at h ⊢
 rw [show (⟨#[c]⟩ : ByteArray).data.toList = [c] from rfl] at h
 rw [← h, List.map_map]
 refine ((List.map_congr_left fun x _ => ?_).trans (List.map_id _)).symm
 exact mkB_of x
theorem toList_iff (b : ByteArray) (l : List UInt8) : b.toList = l ↔ b.data.toList = l := by rw [ByteArray.toList_eq]
theorem rdOf_mkB (P : List (List UInt8)) (i : Nat) (h : i < P.length) : rdOf ByteArray.empty (P.map mkB) (i : Int) = mkB P[i] := by
 unfold rdOf
 rw [Int.toNat_natCast, getD_lt _ (by rw [List.length_map]; exact h), List.getElem_map]
def okReading1 (x : S99) : Prop := (-9223372036854775808 ≤ x.f0 ∧ x.f0 ≤ 9223372036854775807) ∧ (-9223372036854775808 ≤ x.f1 ∧ x.f1 ≤ 9223372036854775807)
def okReadingS (l : List S99) : Prop := l.length ≤ 1048576 ∧ ∀ x ∈ l, okReading1 x
theorem eqReading_eq (x : S99) : laws_eqReading.f (x.f0) (x.f1) (x.f0) (x.f1) = some true := by
 unfold laws_eqReading.f
 simp
theorem ev_all {α ρ : Type} (L : Nat → Int → Option ρ) (xs : List α) (d : α) (p : α → Bool) (b c : ρ)
  (step : ∀ i, i < xs.length → p (xs.getD i d) = true → ∀ r, Ev (fun k => L k ((i + 1 : Nat) : Int)) r → Ev (fun k => L k (i : Int)) r)
  (bad : ∀ i, i < xs.length → p (xs.getD i d) = false → Ev (fun k => L k (i : Int)) b)
  (fin : Ev (fun k => L k (xs.length : Int)) c) : Ev (fun k => L k 0) (if xs.all p = true then c else b) := by
 have key : ∀ (m i : Nat), i + m = xs.length → Ev (fun k => L k (i : Int)) (if (xs.drop i).all p = true then c else b) := by
  intro m
  induction m with
  | zero =>
   intro i hi
   have : i = xs.length := by omega
   subst this
   rw [List.drop_length]
   exact fin
  | succ m ih =>
   intro i hi
   have hlt : i < xs.length := by omega
   rw [List.drop_eq_getElem_cons hlt, List.all_cons, ← getD_lt d hlt]
   cases hp : p (xs.getD i d) with
   | true => rw [Bool.true_and]; exact step i hlt hp _ (ih (i + 1) (by omega))
   | false => rw [Bool.false_and, if_neg (by decide)]; exact bad i hlt hp
 exact key xs.length 0 (by omega)
theorem eqReadingS_evo (l : List S99) (h : okReadingS l) : Ev (fun k => laws_eqReadingS.f k l l) true := by
 have h := h.1
 refine Ev.congr (f := fun k => laws_eqReadingS.l0 k l l 0) (fun k => ?_) ?_
 ·
  unfold laws_eqReadingS.f
  rw [if_pos rfl]
 ·
  refine ev_eq laws_eqReadingS.l0 l (fun i hi hr => ?_) ?_
  ·
   refine Ev.step (fun k => ?_) hr
   simp only [laws_eqReadingS.l0]
   rw [if_pos (by omega), if_pos (by omega), if_pos (by omega), eqReading_eq]
   simp only [Option.bind_some, if_true]
   rw [w64 (by omega) (by omega)]
   rfl
  ·
   refine Ev.step (f := fun _ => some true) (fun k => ?_) (Ev.now _)
   simp only [laws_eqReadingS.l0]
   rw [if_neg (by omega)]
theorem ev_build {β ρ : Type} (L : Nat → List β → Int → Option ρ) (n : Nat) (f : Nat → β) (r : ρ)
  (step : ∀ i acc, i < n → acc.length = i → acc = (List.range i).map f → Ev (fun k => L k (acc ++ [f i]) ((i + 1 : Nat) : Int)) r → Ev (fun k => L k acc (i : Int)) r)
  (fin : Ev (fun k => L k ((List.range n).map f) (n : Int)) r) : Ev (fun k => L k [] 0) r := by
 have key : ∀ (m i : Nat), i + m = n → Ev (fun k => L k ((List.range i).map f) (i : Int)) r := by
  intro m
  induction m with
  | zero =>
   intro i hi
   have : i = n := by omega
   subst this
   exact fin
  | succ m ih =>
   intro i hi
   refine step i _ (by omega) (by simp) rfl ?_
   have := ih (i + 1) (by omega)
   rwa [List.range_succ, List.map_append] at this
 exact key n 0 (by omega)
theorem ev_fill {β ρ : Type} (L : Nat → List β → Int → Option ρ) (base : List β) (d : β) (f : Nat → β) (r : ρ)
  (step : ∀ i acc, i < base.length → acc.length = base.length → acc.getD i d = base.getD i d → Ev (fun k => L k (acc.set i (f i)) ((i + 1 : Nat) : Int)) r → Ev (fun k => L k acc (i : Int)) r)
  (fin : Ev (fun k => L k ((List.range base.length).map f) (base.length : Int)) r) : Ev (fun k => L k base 0) r := by
 have key : ∀ (m i : Nat), i + m = base.length → Ev (fun k => L k ((List.range i).map f ++ base.drop i) (i : Int)) r := by
  intro m
  induction m with
  | zero =>
   intro i hi
   have : i = base.length := by omega
   subst this
   rw [List.drop_length, List.append_nil]
   exact fin
  | succ m ih =>
   intro i hi
   have hlt : i < base.length := by omega
   refine step i _ hlt (by simp; omega) ?_ ?_
   ·
    rw [List.getD_eq_getElem?_getD, List.getD_eq_getElem?_getD, List.getElem?_append_right (by simp)]
    simp
   ·
    have := ih (i + 1) (by omega)
    rw [List.range_succ, List.map_append, List.append_assoc] at this
    have e : ((List.range i).map f ++ base.drop i).set i (f i) = (List.range i).map f ++ ([i].map f ++ base.drop (i + 1)) := by
     rw [List.set_append_right _ _ (by simp), List.drop_eq_getElem_cons hlt, List.length_map, List.length_range, Nat.sub_self, List.set_cons_zero]
     rfl
    rw [e]
    exact this
 exact key base.length 0 (by omega)
theorem getD_map_range {β : Type} (n : Nat) (f : Nat → β) (d : β) {i : Nat} (h : i < n) : ((List.range n).map f).getD i d = f i := by
 rw [List.getD_eq_getElem?_getD, List.getElem?_map, List.getElem?_range h]; rfl
noncomputable def mk1Reading (k : Int) : S99 := ⟨k, k + 1⟩
noncomputable def mkReadingS (l : List S99) (k : Int) : List S99 := (List.range l.length).map fun i : Nat => mk1Reading (k + 2 * (i : Int))
def cntReadingS (l : List S99) : Int := 2 * (l.length : Int)
theorem mkReadingS_len (l : List S99) (k : Int) : (mkReadingS l k).length = l.length := by simp [mkReadingS]
theorem cntReadingS_bd (l : List S99) (h : okReadingS l) : 0 ≤ cntReadingS l ∧ cntReadingS l ≤ 2000000000000 := by have h := h.1; unfold cntReadingS; omega
theorem rdsetReading (l : List S99) (i : Nat) (v : S99) (h : i < l.length) : rd_T99 (l.set i v) (i : Int) = v := by
 unfold rd_T99
 rw [Int.toNat_natCast, getD_lt _ (by simpa using h), List.getElem_set_self]
set_option maxRecDepth 10000 in
theorem markReadingS_ev (l : List S99) (k0 : Int) (h : okReadingS l) (h0 : 0 ≤ k0) (h1 : k0 ≤ 1000000000000000) : Ev (fun k => laws_markReadingS.f k l k0) (k0 + cntReadingS l, mkReadingS l k0) := by
 have h := h.1
 unfold laws_markReadingS.f
 have key := ev_fill (fun k acc i => laws_markReadingS.l0 k acc (k0 + 2 * i) i) l z99 (fun i => mk1Reading (k0 + 2 * (i : Int))) (k0 + cntReadingS l, mkReadingS l k0) (fun i acc hi hl _ hs => ?_) ?_
 ·
  simpa using key
 ·
  refine Ev.succ ?_
  simp (disch := omega) only [laws_markReadingS.l0, if_pos, w64, Option.bind_some, Int.toNat_natCast]
  simp (disch := (first | omega | (simp only [List.length_set]; omega))) only [rdsetReading, List.set_set]
  refine Ev.congr (fun k => ?_) hs
  simp only [mk1Reading]
  congr 1
  all_goals first | rfl | omega | (push_cast; omega)
 ·
  refine Ev.succ ?_
  simp only [laws_markReadingS.l0]
  simp only [mkReadingS, List.length_map, List.length_range, Int.lt_irrefl, if_false]
  exact Ev.now' (by unfold cntReadingS; rfl)
theorem heldReadingS_ev (l : List S99) (k0 : Int) (h : okReadingS l) (h0 : 0 ≤ k0) (h1 : k0 ≤ 1000000000000000) : Ev (fun k => laws_heldReadingS.f k (mkReadingS l k0) k0) (k0 + cntReadingS l) := by
 have h := h.1
 unfold laws_heldReadingS.f
 have key : ∀ (m i : Nat), i + m = l.length → Ev (fun k => laws_heldReadingS.l0 k (mkReadingS l k0) (k0 + 2 * i) i) (k0 + cntReadingS l) := by
  intro m
  induction m with
  | zero =>
   intro i hi
   refine Ev.succ ?_
   simp only [laws_heldReadingS.l0, mkReadingS_len, show ¬ (i : Int) < (l.length : Int) by omega, if_false]
   exact Ev.now' (by unfold cntReadingS; omega)
  | succ m ih =>
   intro i hi
   have hs := ih (i + 1) (by omega)
   have e : rd_T99 (mkReadingS l k0) (i : Int) = mk1Reading (k0 + 2 * (i : Int)) := by
    unfold rd_T99
    rw [Int.toNat_natCast]
    exact getD_map_range _ _ _ (by omega)
   refine Ev.succ ?_
   simp only [laws_heldReadingS.l0, mkReadingS_len, e, mk1Reading]
   simp (disch := first | omega | rfl) only [if_pos, if_true, w64, Option.bind_some]
   refine Ev.congr (fun k => ?_) hs
   congr 1
   all_goals first | rfl | omega | (push_cast; omega)
 simpa using key l.length 0 (by omega)
def zR : S99 := z99
def rdR (l : List S99) (i : Nat) : S99 := l.getD i zR
theorem rdR_eq (l : List S99) (i : Nat) : rd_T99 l (i : Int) = rdR l i := by
 unfold rd_T99 rdR zR
 rw [Int.toNat_natCast]
def okR1 (x : S99) : Bool := inB 0 100000 x.f0 && inB 0 1000000000 x.f1
def okR (l : List S99) (i : Nat) : Bool := okR1 (rdR l i) && (i == 0 || (decide ((rdR l (i - 1)).f0 < (rdR l i).f0) && decide ((rdR l (i - 1)).f1 ≤ (rdR l i).f1)))
def readOk (l : List S99) : Bool := decide (l.length ≤ 48) && (List.range l.length).all (okR l)
theorem specOne_eq (x : S99) : spec_l06One.f [x] = some (okR1 x) := by
 unfold spec_l06One.f spec_l06Counter.f okR1
 simp only [List.length_singleton, show (0 : Int) < ((1 : Nat) : Int) by decide, if_true, specIn_eq, Option.bind_some]
 show (if inB 0 100000 x.f0 = true then some (inB 0 1000000000 x.f1) else some false) = _
 cases inB 0 100000 x.f0 <;> rfl
theorem implOne_eq (x : S99) : impl_Reading_valid.f x.f0 x.f1 = some (okR1 x) := by
 unfold impl_Reading_valid.f impl_within.f okR1
 simp only [Option.bind_some]
 cases inB 0 100000 x.f0 <;> rfl
theorem specOk_body (l : List S99) (i : Nat) (hi : i < l.length) (hl : l.length ≤ 4611686018427387904) (k : Nat) : spec_l06Ok.l0 (k + 1) l (i : Int) = if okR l i = true then spec_l06Ok.l0 k l ((i + 1 : Nat) : Int) else some false := by
 simp only [spec_l06Ok.l0, if_pos (show (i : Int) < (l.length : Int) by omega), if_pos (show (0 : Int) ≤ i by omega), rdR_eq, specOne_eq, Option.bind_some]
 rw [w64 (x := (i : Int) + 1) (by omega) (by omega)]
 unfold okR
 cases okR1 (rdR l i) with
 | false => rfl
 | true =>
  by_cases h0 : i = 0
  ·
   subst h0
   simp only [if_true, if_neg (show ¬ ((0 : Nat) : Int) > 0 by decide)]
   rfl
  ·
   have e : wrap64 ((i : Int) - 1) = ((i - 1 : Nat) : Int) := by
    rw [w64 (by omega) (by omega)]
    omega
   have e0 : (i == 0) = false := by simpa using h0
   simp only [if_true, if_pos (show (i : Int) > 0 by omega), e, if_pos (show (0 : Int) ≤ ((i - 1 : Nat) : Int) by omega), if_pos (show ((i - 1 : Nat) : Int) < (l.length : Int) by omega), rdR_eq, e0, Bool.false_or, Bool.true_and]
   by_cases h1 : (rdR l (i - 1)).f0 ≥ (rdR l i).f0
   ·
    rw [if_pos h1, decide_eq_false (by omega)]
    rfl
   ·
    rw [if_neg h1, decide_eq_true (show (rdR l (i - 1)).f0 < (rdR l i).f0 by omega)]
    by_cases h2 : (rdR l (i - 1)).f1 > (rdR l i).f1
    ·
     rw [if_pos h2, decide_eq_false (by omega)]
     rfl
    ·
     rw [if_neg h2, decide_eq_true (show (rdR l (i - 1)).f1 ≤ (rdR l i).f1 by omega)]
     rfl
theorem implOk_body (l : List S99) (i : Nat) (hi : i < l.length) (hl : l.length ≤ 4611686018427387904) (k : Nat) : impl_ValidReadings.l0 (k + 1) l l (l.length : Int) (i : Int) = if okR l i = true then impl_ValidReadings.l0 k l l (l.length : Int) ((i + 1 : Nat) : Int) else some false := by
 simp only [impl_ValidReadings.l0, if_pos (show (i : Int) < (l.length : Int) by omega), if_pos (show (0 : Int) ≤ i by omega), rdR_eq, implOne_eq, Option.bind_some]
 rw [w64 (x := (i : Int) + 1) (by omega) (by omega)]
 unfold okR
 cases okR1 (rdR l i) with
 | false => rfl
 | true =>
  by_cases h0 : i = 0
  ·
   subst h0
   simp only [if_true, if_neg (show ¬ ((0 : Nat) : Int) > 0 by decide)]
   rfl
  ·
   have e : wrap64 ((i : Int) - 1) = ((i - 1 : Nat) : Int) := by
    rw [w64 (by omega) (by omega)]
    omega
   have e0 : (i == 0) = false := by simpa using h0
   simp only [if_true, if_pos (show (i : Int) > 0 by omega), e, if_pos (show (0 : Int) ≤ ((i - 1 : Nat) : Int) by omega), if_pos (show ((i - 1 : Nat) : Int) < (l.length : Int) by omega), rdR_eq, e0, Bool.false_or, Bool.true_and]
   by_cases h1 : (rdR l i).f0 ≤ (rdR l (i - 1)).f0
   ·
    rw [if_pos h1, decide_eq_false (by omega)]
    rfl
   ·
    rw [if_neg h1, decide_eq_true (show (rdR l (i - 1)).f0 < (rdR l i).f0 by omega)]
    by_cases h2 : (rdR l i).f1 < (rdR l (i - 1)).f1
    ·
     rw [if_pos h2, decide_eq_false (by omega)]
     rfl
    ·
     rw [if_neg h2, decide_eq_true (show (rdR l (i - 1)).f1 ≤ (rdR l i).f1 by omega)]
     rfl
theorem getD_range {n i : Nat} (h : i < n) : (List.range n).getD i 0 = i := by
 rw [getD_lt 0 (by simpa using h), List.getElem_range]
theorem specOk_ev (l : List S99) (hl : l.length ≤ 4611686018427387904) : Ev (fun k => spec_l06Ok.f k l) (readOk l) := by
 unfold spec_l06Ok.f
 have key := ev_all (fun k i => spec_l06Ok.l0 k l i) (List.range l.length) 0 (okR l) false (decide (l.length ≤ 48)) (fun i hi hp r hr => ?_) (fun i hi hp => ?_) ?_
 ·
  revert key
  unfold readOk
  cases (List.range l.length).all (okR l) with
  | true => rw [Bool.and_true]; exact id
  | false => rw [Bool.and_false]; exact id
 ·
  rw [List.length_range] at hi
  rw [getD_range hi] at hp
  exact Ev.step (fun k => (specOk_body l i hi hl k).trans (if_pos hp)) hr
 ·
  rw [List.length_range] at hi
  rw [getD_range hi] at hp
  exact Ev.step (f := fun _ => some false) (fun k => (specOk_body l i hi hl k).trans (if_neg (by rw [hp]; decide))) (Ev.now _)
 ·
  rw [List.length_range]
  refine Ev.step (f := fun _ => some (decide (l.length ≤ 48))) (fun k => ?_) (Ev.now _)
  simp only [spec_l06Ok.l0, if_neg (show ¬ (l.length : Int) < (l.length : Int) by omega)]
  congr 1
  exact decide_eq_decide.2 (by omega)
theorem implOk_ev (l : List S99) (hl : l.length ≤ 4611686018427387904) : Ev (fun k => impl_ValidReadings.f k l) (readOk l) := by
 unfold impl_ValidReadings.f readOk
 by_cases h48 : l.length ≤ 48
 ·
  rw [decide_eq_true h48, Bool.true_and]
  simp only [if_neg (show ¬ (l.length : Int) > 48 by omega)]
  have key := ev_all (fun k i => impl_ValidReadings.l0 k l l (l.length : Int) i) (List.range l.length) 0 (okR l) false true (fun i hi hp r hr => ?_) (fun i hi hp => ?_) ?_
  ·
   revert key
   cases (List.range l.length).all (okR l) <;> exact id
  ·
   rw [List.length_range] at hi
   rw [getD_range hi] at hp
   exact Ev.step (fun k => (implOk_body l i hi hl k).trans (if_pos hp)) hr
  ·
   rw [List.length_range] at hi
   rw [getD_range hi] at hp
   exact Ev.step (f := fun _ => some false) (fun k => (implOk_body l i hi hl k).trans (if_neg (by rw [hp]; decide))) (Ev.now _)
  ·
   rw [List.length_range]
   refine Ev.step (f := fun _ => some true) (fun k => ?_) (Ev.now _)
   simp only [impl_ValidReadings.l0, if_neg (show ¬ (l.length : Int) < (l.length : Int) by omega)]
 ·
  rw [decide_eq_false h48, Bool.false_and]
  simp only [if_pos (show (l.length : Int) > 48 by omega)]
  exact Ev.now _
theorem okR1_bd {x : S99} (h : okR1 x = true) : (0 ≤ x.f0 ∧ x.f0 ≤ 100000) ∧ (0 ≤ x.f1 ∧ x.f1 ≤ 1000000000) := by
 unfold okR1 inB at h
 simpa using h
theorem readOk_bd {l : List S99} (h : readOk l = true) : l.length ≤ 48 ∧ ∀ x ∈ l, okR1 x = true := by
 unfold readOk at h
 rw [Bool.and_eq_true, decide_eq_true_eq] at h
 refine ⟨h.1, fun x hx => ?_⟩
 obtain ⟨i, hi, e⟩ := List.getElem_of_mem hx
 have h2 := List.all_eq_true.1 h.2 i (by simpa using hi)
 unfold okR at h2
 rw [Bool.and_eq_true] at h2
 have := h2.1
 unfold rdR at this
 rw [getD_lt _ hi, e] at this
 exact this
def rt (x : S99) : List UInt8 := Lib.itoa x.f0 ++ 58 :: Lib.itoa x.f1
def pairW (w : List UInt8) : Option S99 := match spl 58 w with
 | [x, y] => if (numR x).2 = true ∧ (numR y).2 = true then some ⟨(numR x).1, (numR y).1⟩ else none
 | _ => none
theorem pairW_2 {w x y : List UInt8} (h : spl 58 w = [x, y]) : pairW w = if (numR x).2 = true ∧ (numR y).2 = true then some ⟨(numR x).1, (numR y).1⟩ else none := by
 unfold pairW
 rw [h]
theorem pairW_n {w : List UInt8} (h : (spl 58 w).length ≠ 2) : pairW w = none := by
 unfold pairW
 split
 ·
  rename_i x y hs
  rw [hs] at h
  exact absurd rfl h
 ·
  rfl
theorem pairW_rt {w : List UInt8} {v : S99} (h : pairW w = some v) : rt v = w := by
 by_cases h2 : (spl 58 w).length = 2
 ·
  obtain ⟨x, y, hs⟩ := spl2_of h2
  have hj := join_spl 58 w
  rw [hs, join_cons2, Lib.join_one] at hj
  rw [pairW_2 hs] at h
  split at h
  ·
   rename_i hn
   injection h with h
   subst h
   obtain ⟨a, ha, ha2⟩ := numR_iff.1 hn.1
   obtain ⟨c, hc, hc2⟩ := numR_iff.1 hn.2
   unfold rt
   rw [ha2, hc2, (numL_itoa ha).1, (numL_itoa hc).1]
   exact hj
  ·
   cases h
 ·
  rw [pairW_n h2] at h
  cases h
def allP : List (List UInt8) → Option (List S99)
 | [] => some []
 | w :: r => (pairW w).bind fun v => (allP r).bind fun vs => some (v :: vs)
theorem allP_some : ∀ {P : List (List UInt8)} {vs : List S99}, allP P = some vs → vs.length = P.length ∧ vs.map rt = P
 | [], vs, h => by
  injection h with h
  subst h
  exact ⟨rfl, rfl⟩
 | w :: r, vs, h => by
  rw [allP] at h
  cases h1 : pairW w with
  | none => rw [h1] at h; cases h
  | some v =>
   cases h2 : allP r with
   | none => rw [h1, h2] at h; cases h
   | some ws =>
    rw [h1, h2] at h
    injection h with h
    subst h
    obtain ⟨a, b⟩ := allP_some h2
    exact ⟨by simp [a], by rw [List.map_cons, pairW_rt h1, b]⟩
def fin (vs : List S99) : List S99 × Bool := if readOk vs = true then (vs, true) else ([], false)
def rread (l : List UInt8) : List S99 × Bool := if l = [] then ([], true) else match allP (spl 32 l) with
 | some vs => fin vs
 | none => ([], false)
theorem rread_ok (l : List UInt8) : okReadingS (rread l).1 := by
 have hf : ∀ vs, okReadingS (fin vs).1 := by
  intro vs
  unfold fin
  split
  ·
   rename_i h
   obtain ⟨a, b⟩ := readOk_bd h
   refine ⟨by show vs.length ≤ 1048576; omega, fun x hx => ?_⟩
   have := okR1_bd (b x hx)
   exact ⟨by omega, by omega⟩
  ·
   exact ⟨by decide, fun x hx => by cases hx⟩
 unfold rread
 split
 ·
  exact ⟨by decide, fun x hx => by cases hx⟩
 ·
  split
  ·
   exact hf _
  ·
   exact ⟨by decide, fun x hx => by cases hx⟩
theorem specRead_ev (b : ByteArray) (hb : b.size ≤ 1048576) : Ev (fun k => spec_ReadReadings.f k b) (rread b.data.toList) := by
 have hz := size_of b
 unfold spec_ReadReadings.f
 suffices h : Ev (fun k => spec_l06Read.f k b) (rread b.data.toList) from Ev.bind h (Ev.now _)
 unfold spec_l06Read.f rread
 simp only [Option.bind_some]
 by_cases h0 : b.data.toList = []
 ·
  simp only [show b.toList = ([] : List UInt8) from (toList_iff b _).2 h0, if_true]
  rw [if_pos h0]
  exact Ev.now _
 ·
  simp only [show ¬ b.toList = ([] : List UInt8) from fun h => h0 ((toList_iff b _).1 h), if_false]
  rw [if_neg h0]
  refine Ev.bind (specSplit_ev b 32 hb) ?_
  have hlen := spl_len 32 b.data.toList
  have hs : ∀ p ∈ spl 32 b.data.toList, p.length ≤ 1048576 := fun p hp => by have := spl_piece hp; omega
  generalize spl 32 b.data.toList = P at hlen hs
  have key : ∀ (m i : Nat) (acc : List S99), i + m = P.length → acc.length = i →
    Ev (fun k => spec_l06Read.l0 k acc (P.map mkB) (i : Int)) (match allP (P.drop i) with | some vs => fin (acc ++ vs) | none => ([], false)) := by
   intro m
   induction m with
   | zero =>
    intro i acc hi ha
    rw [List.drop_eq_nil_of_le (by omega)]
    refine Ev.succ ?_
    simp only [spec_l06Read.l0, List.length_map, if_neg (show ¬ (i : Int) < (P.length : Int) by omega)]
    refine Ev.bind (specOk_ev acc (by omega)) ?_
    simp only [allP, List.append_nil]
    unfold fin
    cases readOk acc <;> exact Ev.now _
   | succ m ih =>
    intro i acc hi ha
    have hlt : i < P.length := by omega
    have hp := hs _ (List.getElem_mem hlt)
    rw [List.drop_eq_getElem_cons hlt, allP]
    refine Ev.succ ?_
    simp only [spec_l06Read.l0, List.length_map, rdOf_mkB _ i hlt, if_pos (show (i : Int) < (P.length : Int) by omega), if_pos (show (0 : Int) ≤ i by omega)]
    refine Ev.bind (specSplit_ev (mkB P[i]) 58 (by rw [mkB_size]; omega)) ?_
    rw [mkB_toList, List.length_map]
    by_cases h2 : (spl 58 P[i]).length = 2
    ·
     obtain ⟨x, y, hxy⟩ := spl2_of h2
     have hx := spl_piece (c := 58) (l := P[i]) (p := x) (by rw [hxy]; simp)
     have hy := spl_piece (c := 58) (l := P[i]) (p := y) (by rw [hxy]; simp)
     rw [pairW_2 hxy, hxy]
     have f1 : rdOf ByteArray.empty ([x, y].map mkB) 1 = mkB y := rfl
     have f0 : rdOf ByteArray.empty ([x, y].map mkB) 0 = mkB x := rfl
     simp only [List.length_cons, List.length_nil, show (((0 + 1 + 1 : Nat) : Int) = 2) = True from eq_true rfl, if_true, show ((0 : Int) < ((0 + 1 + 1 : Nat) : Int)) = True from eq_true (by decide), show ((1 : Int) < ((0 + 1 + 1 : Nat) : Int)) = True from eq_true (by decide), f0, f1]
     refine Ev.bind (specNum_ev (mkB x) (by rw [mkB_size]; omega)) ?_
     refine Ev.bind (specNum_ev (mkB y) (by rw [mkB_size]; omega)) ?_
     rw [mkB_toList, mkB_toList]
     cases h1 : (numR x).2 with
     | false =>
      simp only [Bool.false_eq_true, false_and, if_false, Option.bind_none]
      exact Ev.now _
     | true =>
      cases h3 : (numR y).2 with
      | false =>
       simp only [Bool.false_eq_true, and_false, if_false, if_true, Option.bind_none]
       exact Ev.now _
      | true =>
       simp only [if_true, and_self, Option.bind_some, if_pos (show acc.length < 8796093022208 by omega), w64 (x := (i : Int) + 1) (by omega) (by omega)]
       have ih2 := ih (i + 1) (acc ++ [⟨(numR x).1, (numR y).1⟩]) (by omega) (by rw [List.length_append, List.length_singleton]; omega)
       cases hr : allP (P.drop (i + 1)) with
       | none => rw [hr] at ih2; exact ih2
       | some vs =>
        rw [hr] at ih2
        simp only [Option.bind_some]
        simp only [List.append_assoc, List.singleton_append] at ih2
        exact ih2
    ·
     rw [pairW_n h2]
     simp only [if_neg (show ¬ ((spl 58 P[i]).length : Int) = 2 by omega)]
     exact Ev.now _
  have h := key _ 0 [] (Nat.zero_add _) rfl
  rw [List.drop_zero] at h
  exact h
theorem join_map_le (c : UInt8) {α : Type} (f : α → List UInt8) : ∀ (vs : List α) (v : α), v ∈ vs → (f v).length ≤ (Lib.join (vs.map f) [c]).length := by
 intro vs
 induction vs with
 | nil => intro v hv; cases hv
 | cons x r ih =>
  intro v hv
  cases r with
  | nil =>
   rw [List.mem_singleton.1 hv, List.map_cons, List.map_nil, Lib.join_one]
   exact Nat.le_refl _
  | cons y t =>
   rw [List.map_cons, List.map_cons, join_cons2, List.length_append, List.length_cons]
   rcases List.mem_cons.1 hv with rfl | hv
   ·
    omega
   ·
    have := ih v hv
    rw [List.map_cons] at this
    omega
theorem text_ev (vs : List S99) (hl : vs.length ≤ 4611686018427387904) (hj : (Lib.join (vs.map rt) [32]).length ≤ 1048576) : Ev (fun k => impl_ReadingsText.f k vs) (if readOk vs = true then mkB (Lib.join (vs.map rt) [32]) else ⟨#[]⟩) := by
 unfold impl_ReadingsText.f
 refine Ev.bind (implOk_ev vs hl) ?_
 cases hok : readOk vs with
 | false => exact Ev.now _
 | true =>
  simp only [if_true]
  obtain ⟨h48, hbd⟩ := readOk_bd hok
  have hg : ∀ i : Nat, i < vs.length → rdR vs i ∈ vs := fun i hi => by
   unfold rdR
   exact getD_mem _ hi
  have hrt : ∀ i : Nat, i < vs.length → (rt (rdR vs i)).length ≤ 1048576 := fun i hi => by
   have := join_map_le 32 rt vs _ (hg i hi)
   omega
  have emap : (List.range vs.length).map (fun i => mkB (rt (rdR vs i))) = (vs.map rt).map mkB := by
   refine List.ext_getElem (by simp) fun i h1 h2 => ?_
   rw [List.getElem_map, List.getElem_range, List.getElem_map, List.getElem_map]
   unfold rdR
   rw [getD_lt _ (by simpa using h1)]
  refine ev_build (fun k acc i => impl_ReadingsText.l0 k acc vs (vs.length : Int) i) vs.length (fun i => mkB (rt (rdR vs i))) _ (fun i acc hi ha _ hs => ?_) ?_
  ·
   refine Ev.succ ?_
   have hb := okR1_bd (hbd _ (hg i hi))
   have hr := hrt i hi
   have d0 : impl_Decimal.f (rdR vs i).f0 = some (mkB (Lib.itoa (rdR vs i).f0)) := by
    unfold impl_Decimal.f
    rw [if_pos (by omega)]
    rfl
   have d1 : impl_Decimal.f (rdR vs i).f1 = some (mkB (Lib.itoa (rdR vs i).f1)) := by
    unfold impl_Decimal.f
    rw [if_pos (by omega)]
    rfl
   have e1 : mkB (Lib.itoa (rdR vs i).f0) ++ (⟨#[58]⟩ : ByteArray) = mkB (Lib.itoa (rdR vs i).f0 ++ [58]) := mkB_append _ [58]
   unfold rt at hr
   rw [List.length_append, List.length_cons] at hr
   simp only [impl_ReadingsText.l0, if_pos (show (i : Int) < (vs.length : Int) by omega), if_pos (show (0 : Int) ≤ i by omega), rdR_eq, d0, d1, Option.bind_some, e1, mkB_append, mkB_size, List.length_append, List.length_singleton]
   simp only [if_pos (show (Lib.itoa (rdR vs i).f0).length + 1 ≤ 9223372036854775807 by omega), if_pos (show (Lib.itoa (rdR vs i).f0).length + 1 + (Lib.itoa (rdR vs i).f1).length ≤ 9223372036854775807 by omega), if_pos (show acc.length < 8796093022208 by omega), w64 (x := (i : Int) + 1) (by omega) (by omega)]
   have e2 : (Lib.itoa (rdR vs i).f0 ++ [58]) ++ Lib.itoa (rdR vs i).f1 = rt (rdR vs i) := by
    unfold rt
    simp
   rw [e2]
   exact hs
  ·
   refine Ev.succ ?_
   simp only [impl_ReadingsText.l0, if_neg (show ¬ (vs.length : Int) < (vs.length : Int) by omega)]
   rw [emap]
   unfold strings_Join.f
   have e3 : ((vs.map rt).map mkB).map (fun x => x.data.toList) = vs.map rt := by
    rw [List.map_map]
    exact (List.map_congr_left fun x _ => rfl).trans (List.map_id _)
   rw [e3, show (⟨#[32]⟩ : ByteArray).data.toList = [32] from rfl, if_pos ⟨by omega, by simp; omega⟩]
   exact Ev.now _
theorem implRead_ev (b : ByteArray) (hb : b.size ≤ 1048576) : Ev (fun k => impl_ReadReadings.f k b) (rread b.data.toList) := by
 have hz := size_of b
 unfold impl_ReadReadings.f
 by_cases h0 : b.data.toList = []
 ·
  simp only [show b.toList = ([] : List UInt8) from (toList_iff b _).2 h0, if_true]
  unfold rread
  rw [if_pos h0]
  exact Ev.now _
 ·
  simp only [show ¬ b.toList = ([] : List UInt8) from fun h => h0 ((toList_iff b _).1 h), if_false]
  have hsp := splitN_f b 32 49 (by decide) (by decide) hb
  rw [show ((49 : Nat) : Int) = 49 from rfl] at hsp
  rw [hsp]
  simp only [Option.bind_some, List.length_map]
  have hc := splitN_cases 32 49 (by decide) b.data.toList
  have hs : ∀ p ∈ Lib.splitK [32] 0 (min 49 (b.data.toList.length + 1) - 1) b.data.toList, p.length ≤ 1048576 := fun p hp => by have := splitK_piece 32 _ _ p hp; omega
  generalize Lib.splitK [32] 0 (min 49 (b.data.toList.length + 1) - 1) b.data.toList = P at hc hs
  have hPl : P.length ≤ 49 := by
   rcases hc with ⟨h1, h2⟩ | ⟨h1, h2⟩
   ·
    rw [h1]; exact h2
   ·
    omega
  have fin2 : ∀ vs, allP P = some vs → Ev (fun k => (impl_ReadingsText.f k vs).bind fun t => if t.toList = b.toList then some (vs, true) else some ([], false)) (rread b.data.toList) := by
   intro vs hvs
   obtain ⟨hvl, hvr⟩ := allP_some hvs
   have hne : ¬ (⟨#[]⟩ : ByteArray).toList = b.toList := fun e => h0 (by rw [ByteArray.toList_eq, ByteArray.toList_eq] at e; exact e.symm)
   rcases hc with ⟨h1, h2⟩ | ⟨h1, h2⟩
   ·
    have hj : Lib.join (vs.map rt) [32] = b.data.toList := by rw [hvr, h1, join_spl]
    refine Ev.bind (text_ev vs (by omega) (by rw [hj]; omega)) ?_
    unfold rread
    rw [if_neg h0, ← h1, hvs]
    dsimp only
    unfold fin
    cases readOk vs with
    | false =>
     simp only [Bool.false_eq_true, if_false, if_neg hne]
     exact Ev.now _
    | true =>
     simp only [if_true, hj, mkB_of]
     exact Ev.now _
   ·
    have hno : ∀ ws : List S99, 48 < ws.length → readOk ws = false := fun ws hw => by
     unfold readOk
     rw [decide_eq_false (by omega), Bool.false_and]
    have hr : rread b.data.toList = ([], false) := by
     unfold rread
     rw [if_neg h0]
     cases hq : allP (spl 32 b.data.toList) with
     | none => rfl
     | some ws =>
      obtain ⟨a, _⟩ := allP_some hq
      show fin ws = _
      unfold fin
      rw [hno ws (by omega)]
      rfl
    rw [hr]
    unfold impl_ReadingsText.f
    refine Ev.bind (Ev.bind (r := (⟨#[]⟩ : ByteArray)) (implOk_ev vs (by omega)) ?_) ?_
    ·
     rw [hno vs (by omega)]
     exact Ev.now _
    ·
     simp only [if_neg hne]
     exact Ev.now _
  have none2 : allP P = none → rread b.data.toList = ([], false) := by
   intro hn
   unfold rread
   rw [if_neg h0]
   rcases hc with ⟨h1, h2⟩ | ⟨h1, h2⟩
   ·
    rw [← h1, hn]
   ·
    cases hq : allP (spl 32 b.data.toList) with
    | none => rfl
    | some ws =>
     obtain ⟨a, _⟩ := allP_some hq
     show fin ws = _
     unfold fin readOk
     rw [decide_eq_false (by omega), Bool.false_and]
     rfl
  have key : ∀ (m i : Nat) (acc : List S99), i + m = P.length → acc.length = i → (∀ vs, allP (P.drop i) = some vs → allP P = some (acc ++ vs)) → (allP (P.drop i) = none → allP P = none) →
    Ev (fun k => impl_ReadReadings.l0 k b acc (P.map mkB) (P.length : Int) (i : Int)) (rread b.data.toList) := by
   intro m
   induction m with
   | zero =>
    intro i acc hi ha hv _
    rw [List.drop_eq_nil_of_le (by omega)] at hv
    have h := fin2 acc (by simpa using hv [] rfl)
    refine Ev.step (fun k => ?_) h
    simp only [impl_ReadReadings.l0, if_neg (show ¬ (i : Int) < (P.length : Int) by omega)]
   | succ m ih =>
    intro i acc hi ha hv hn
    have hlt : i < P.length := by omega
    have hp := hs _ (List.getElem_mem hlt)
    rw [List.drop_eq_getElem_cons hlt, allP] at hv hn
    refine Ev.succ ?_
    simp only [impl_ReadReadings.l0, List.length_map, rdOf_mkB _ i hlt, if_pos (show (i : Int) < (P.length : Int) by omega), if_pos (show (0 : Int) ≤ i by omega)]
    obtain ⟨u, v, f, gc, gu, gv, gm, gcase⟩ := cut_two 58 P[i]
    rw [cutF (mkB P[i]) 58 (by rw [mkB_size]; omega) gc]
    have n1 : impl_ReadDecimal.f (mkB u) = some (numR u) := by
     unfold impl_ReadDecimal.f
     rw [if_pos (by rw [mkB_size]; omega), rdecI_eq, mkB_toList]
    have n2 : impl_ReadDecimal.f (mkB v) = some (numR v) := by
     unfold impl_ReadDecimal.f
     rw [if_pos (by rw [mkB_size]; omega), rdecI_eq, mkB_toList]
    simp only [Option.bind_some, n1, n2]
    by_cases hnn : (numR u).2 = true ∧ (numR v).2 = true
    ·
     obtain ⟨c, hc2, hc3⟩ := numR_iff.1 hnn.2
     have g : spl 58 P[i] = [u, v] := by
      rcases gcase with g | ⟨_, g⟩
      ·
       exact g.1
      ·
       rw [numL_no g (by decide) (by decide)] at hc2
       cases hc2
     have hw : pairW P[i] = some ⟨(numR u).1, (numR v).1⟩ := by rw [pairW_2 g, if_pos hnn]
     rw [hw] at hv hn
     simp only [hnn.1, hnn.2, if_true, if_pos (show acc.length < 8796093022208 by omega), w64 (x := (i : Int) + 1) (by omega) (by omega)]
     refine ih (i + 1) (acc ++ [⟨(numR u).1, (numR v).1⟩]) (by omega) (by rw [List.length_append, List.length_singleton]; omega) (fun vs hvs => ?_) (fun hno => ?_)
     ·
      have := hv _ (by rw [hvs]; rfl)
      rw [this, List.append_assoc]
      rfl
     ·
      exact hn (by rw [hno]; rfl)
    ·
     have hw : pairW P[i] = none := by
      rcases gcase with g | ⟨g, _⟩
      ·
       rw [pairW_2 g.1, if_neg hnn]
      ·
       exact pairW_n g
     rw [hw] at hn
     rw [none2 (hn rfl)]
     cases h1 : (numR u).2 with
     | false =>
      simp only [Bool.false_eq_true, if_false]
      exact Ev.now _
     | true =>
      cases h3 : (numR v).2 with
      | false =>
       simp only [Bool.false_eq_true, if_false, if_true]
       exact Ev.now _
      | true => exact absurd ⟨h1, h3⟩ hnn
  exact key _ 0 [] (Nat.zero_add _) rfl (fun vs h => by simpa using h) (fun h => by simpa using h)
theorem FnExactReadReadings : laws_FnExactReadReadings.Pure := by
 intro a0 _
 have h : Ev (fun k => laws_FnExactReadReadings.f k a0) true := by
  unfold laws_FnExactReadReadings.f
  by_cases hb : a0.size ≤ 1048576
  ·
   simp only [if_neg (show ¬ (a0.size : Int) > 1048576 by omega)]
   have ok := rread_ok a0.data.toList
   refine Ev.bind (specRead_ev a0 hb) ?_
   refine Ev.bind (implRead_ev a0 hb) ?_
   refine Ev.bind (eqReadingS_evo _ ok) ?_
   simp only [if_true, bne_self_eq_false]
   refine Ev.succ ?_
   simp only [laws_FnExactReadReadings.j0, Bool.false_eq_true, if_false]
   have cb := cntReadingS_bd _ ok
   refine Ev.bind (markReadingS_ev _ 1 ok (by decide) (by decide)) ?_
   refine Ev.bind (heldReadingS_ev _ 1 ok (by decide) (by decide)) ?_
   simp only [if_neg (show ¬ (1 + cntReadingS (rread a0.data.toList).1) < 0 by omega), if_true]
   refine Ev.bind (implRead_ev a0 hb) ?_
   refine Ev.bind (eqReadingS_evo _ ok) ?_
   simp only [if_true, bne_self_eq_false]
   refine Ev.succ ?_
   simp only [laws_FnExactReadReadings.j1, Bool.false_eq_true, if_false]
   refine Ev.bind (heldReadingS_ev _ 1 ok (by decide) (by decide)) ?_
   simp only [if_neg (show ¬ (1 + cntReadingS (rread a0.data.toList).1) < 0 by omega), if_true]
   exact Ev.now _
  ·
   simp only [if_pos (show (a0.size : Int) > 1048576 by omega)]
   exact Ev.now _
 obtain ⟨K, h⟩ := h
 exact ⟨K, h K (Nat.le_refl _)⟩
end Go.Proofs.YtdbocilpcknlhaaDoor.Pure
