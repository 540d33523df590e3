/- The program's ReadUnit returns what the reference's returns, for all arguments. No condition beyond the statement's own; the card ties the laid variables of Go's library to the program's text: a table of powers of ten, two errors, and one size. -/
import Derived.Test.YtdbocilpcknlhaaDoorPFnExactReadUnitx0
import Derived.Test.YtdbocilpcknlhaaDoorPFnExactReadUnitx1
import Derived.Test.YtdbocilpcknlhaaDoorPFnExactReadUnitx2
import Derived.Test.YtdbocilpcknlhaaDoorPFnExactReadUnitx3
import Derived.Test.YtdbocilpcknlhaaDoorPFnExactReadUnitx4
import Derived.Test.YtdbocilpcknlhaaDoorPFnExactReadUnitx5
import Derived.Test.YtdbocilpcknlhaaDoorPFnExactReadUnitx6
import Derived.Test.YtdbocilpcknlhaaDoorPFnExactReadUnitx7
namespace Go.Proofs.YtdbocilpcknlhaaDoor.Pure
open Go.RowKit Go.Proofs.YtdbocilpcknlhaaDoor.PFnExactReadUnit Go.Proofs.YtdbocilpcknlhaaDoorW.PrintWords Go.Proofs.YtdbocilpcknlhaaDoorW.PrintLast Go.Proofs.YtdbocilpcknlhaaDoorW.PrintMore
set_option linter.unusedVariables false
set_option linter.unusedSimpArgs false
def dval (acc : Nat) (d : List UInt8) : Nat := d.foldl (fun a c => a * 10 + (c.toNat - 48)) acc
def isDig (c : UInt8) : Bool := decide (48 ≤ c.toNat) && decide (c.toNat ≤ 57)
theorem isDig_iff (c : UInt8) : isDig c = true ↔ 48 ≤ c.toNat ∧ c.toNat ≤ 57 := by unfold isDig; rw [Bool.and_eq_true, decide_eq_true_eq, decide_eq_true_eq]
theorem dval_snoc (d : List UInt8) (acc : Nat) (c : UInt8) : dval acc (d ++ [c]) = dval acc d * 10 + (c.toNat - 48) := by
 unfold dval
 rw [List.foldl_append]
 rfl
theorem dval_cons (acc : Nat) (x : UInt8) (d : List UInt8) : dval acc (x :: d) = dval (acc * 10 + (x.toNat - 48)) d := List.foldl_cons ..
theorem dval_ge (d : List UInt8) : ∀ (acc : Nat), acc ≤ dval acc d := by
 induction d with
 | nil => exact fun acc => Nat.le_refl _
 | cons x d ih =>
  intro acc
  rw [dval_cons]
  exact Nat.le_trans (by omega) (ih _)
theorem dval_pos (x : UInt8) (e : List UInt8) (h : x.toNat ≠ 48) (h1 : 48 ≤ x.toNat) : 1 ≤ dval 0 (x :: e) := by
 rw [dval_cons]
 exact Nat.le_trans (by omega) (dval_ge e _)
theorem dval_lt : ∀ (d : List UInt8) (acc : Nat), d.all isDig = true → dval acc d < (acc + 1) * 10 ^ d.length
 | [], acc, _ => by simp [dval]
 | x :: d, acc, h => by
  rw [List.all_cons, Bool.and_eq_true] at h
  have h1 := (isDig_iff x).1 h.1
  have h2 := dval_lt d (acc * 10 + (x.toNat - 48)) h.2
  refine Nat.lt_of_lt_of_le h2 ?_
  rw [List.length_cons, Nat.pow_succ, Nat.mul_comm (10 ^ d.length) 10, ← Nat.mul_assoc]
  exact Nat.mul_le_mul_right _ (by omega)
theorem chr_dig (c : UInt8) (h : 48 ≤ c.toNat ∧ c.toNat ≤ 57) : UInt8.ofNat (48 + (c.toNat - 48)) = c := by
 rw [show 48 + (c.toNat - 48) = c.toNat by omega]
 exact UInt8.ofNat_toNat
theorem dec_dval : ∀ (n : Nat) (d : List UInt8), d.length = n → d ≠ [] → d.all isDig = true → (d.head? ≠ some 48 ∨ d.length = 1) → Lib.decDigits (dval 0 d) = d := by
 intro n
 induction n with
 | zero => intro d hl hne; exact absurd (List.eq_nil_of_length_eq_zero hl) hne
 | succ n ih =>
  intro d hl hne ha hh
  obtain ⟨e, c, rfl⟩ : ∃ e c, d = e ++ [c] := ⟨d.dropLast, d.getLast hne, (List.dropLast_concat_getLast hne).symm⟩
  rw [List.all_append, Bool.and_eq_true] at ha
  have hc := (isDig_iff c).1 (by simpa using ha.2)
  rw [List.length_append, List.length_singleton] at hl
  rw [dval_snoc]
  by_cases he : e = []
  ·
   subst he
   rw [show dval 0 [] * 10 + (c.toNat - 48) = c.toNat - 48 by simp [dval], Lib.decDigits_one (by omega), chr_dig c hc]
   rfl
  ·
   have hh2 : e.head? ≠ some 48 := by
    rcases hh with hh | hh
    ·
     cases e with
     | nil => exact absurd rfl he
     | cons x e => simpa using hh
    ·
     rw [List.length_append, List.length_singleton] at hh
     exact absurd (List.eq_nil_of_length_eq_zero (by omega)) he
   have hp : 1 ≤ dval 0 e := by
    cases e with
    | nil => exact absurd rfl he
    | cons x e =>
     have hx : x ≠ 48 := by simpa using hh2
     rw [List.all_cons, Bool.and_eq_true] at ha
     have h1 := (isDig_iff x).1 ha.1.1
     have : x.toNat ≠ 48 := fun h => hx (UInt8.toNat_inj.1 h)
     exact dval_pos x e this h1.1
   have h2 := ih e (by omega) he ha.1 (.inl hh2)
   rw [Lib.decDigits, dif_neg (by omega), show (dval 0 e * 10 + (c.toNat - 48)) / 10 = dval 0 e by omega, show (dval 0 e * 10 + (c.toNat - 48)) % 10 = c.toNat - 48 by omega, h2, chr_dig c hc]
theorem dec_facts : ∀ (u : Nat), Lib.decDigits u ≠ [] ∧ (Lib.decDigits u).all isDig = true ∧ ((Lib.decDigits u).head? ≠ some 48 ∨ (Lib.decDigits u).length = 1) ∧ dval 0 (Lib.decDigits u) = u ∧ (u ≠ 0 → (Lib.decDigits u).head? ≠ some 48) := by
 intro u
 induction u using Nat.strongRecOn with
 | _ u ih =>
  by_cases h : u < 10
  ·
   rw [Lib.decDigits_one h]
   have hn : (UInt8.ofNat (48 + u)).toNat = 48 + u := by
    rw [UInt8.toNat_ofNat']
    omega
   refine ⟨by simp, ?_, .inr rfl, ?_, ?_⟩
   ·
    rw [List.all_cons, List.all_nil, Bool.and_true, isDig_iff, hn]
    omega
   ·
    show 0 * 10 + ((UInt8.ofNat (48 + u)).toNat - 48) = u
    rw [hn]
    omega
   ·
    intro hu e
    simp only [List.head?_cons, Option.some.injEq] at e
    rw [e] at hn
    have : (48 : UInt8).toNat = 48 := rfl
    omega
  ·
   obtain ⟨a1, a2, a3, a4, a5⟩ := ih (u / 10) (by omega)
   have e1 : Lib.decDigits u = Lib.decDigits (u / 10) ++ [UInt8.ofNat (48 + u % 10)] := by rw [Lib.decDigits, dif_neg h]
   have hn : (UInt8.ofNat (48 + u % 10)).toNat = 48 + u % 10 := by
    rw [UInt8.toNat_ofNat']
    omega
   have hh : (Lib.decDigits u).head? ≠ some 48 := by
    rw [e1]
    have h5 := a5 (by omega)
    cases hd : Lib.decDigits (u / 10) with
    | nil => exact absurd hd a1
    | cons x r => rw [hd] at h5; simpa using h5
   refine ⟨by rw [e1]; simp, ?_, .inl hh, ?_, fun _ => hh⟩
   ·
    rw [e1, List.all_append, a2, Bool.true_and, List.all_cons, List.all_nil, Bool.and_true, isDig_iff, hn]
    omega
   ·
    rw [e1, dval_snoc, a4, hn]
    omega
theorem parse_dval : ∀ (d : List UInt8) (acc : Nat), d.all isDig = true → dval acc d ≤ 999999999999999999 → Lib.parseUintM 18446744073709551615 acc d = .ok (dval acc d)
 | [], acc, _, _ => rfl
 | c :: d, acc, h, hv => by
  rw [List.all_cons, Bool.and_eq_true] at h
  have h1 := (isDig_iff c).1 h.1
  have h2 : dval (acc * 10 + (c.toNat - 48)) d ≤ 999999999999999999 := hv
  have h3 := dval_ge d (acc * 10 + (c.toNat - 48))
  unfold Lib.parseUintM
  rw [if_pos h1, if_neg (by omega), if_neg (by omega)]
  exact parse_dval d _ h.2 h2
def numD (d : List UInt8) (lone : Bool) : Option Nat := if d = [] ∨ 18 < d.length then none else if d.head? = some 48 ∧ lone = false then none else if d.all isDig = true then some (dval 0 d) else none
def numL (l : List UInt8) : Option Int := if l.head? = some 45 then (numD l.tail false).map (fun u => -(u : Int)) else (numD l (decide (l.length = 1))).map (fun u => (u : Int))
theorem numD_some {d : List UInt8} {lone : Bool} {u : Nat} (h : numD d lone = some u) : d ≠ [] ∧ d.length ≤ 18 ∧ (d.head? ≠ some 48 ∨ lone = true) ∧ d.all isDig = true ∧ u = dval 0 d := by
 unfold numD at h
 split at h
 ·
  cases h
 ·
  rename_i h1
  split at h
  ·
   cases h
  ·
   rename_i h2
   split at h
   ·
    rename_i h3
    injection h with h
    refine ⟨fun e => h1 (.inl e), Nat.le_of_not_lt fun e => h1 (.inr e), ?_, h3, h.symm⟩
    cases lone with
    | true => exact .inr rfl
    | false => exact .inl fun e => h2 ⟨e, rfl⟩
   ·
    cases h
theorem numD_lt {d : List UInt8} (h1 : d.length ≤ 18) (h2 : d.all isDig = true) : dval 0 d ≤ 999999999999999999 := by
 have h := dval_lt d 0 h2
 have h3 : 10 ^ d.length ≤ 10 ^ 18 := Nat.pow_le_pow_right (by decide) h1
 have h4 : (10 : Nat) ^ 18 = 1000000000000000000 := by decide
 omega
theorem trim45 (l : List UInt8) : Lib.trimPrefix l [45] = if l.head? = some 45 then l.tail else l := by
 unfold Lib.trimPrefix Lib.hasPrefix
 cases l with
 | nil => simp
 | cons c r =>
  by_cases h : c = 45
  ·
   subst h; simp
  ·
   have h2 : ¬ (45 : UInt8) = c := fun e => h e.symm
   simp [h, h2]
theorem dig_head {l : List UInt8} (h : l.all isDig = true) : l.head? ≠ some 45 := by
 cases l with
 | nil => simp
 | cons c r =>
  rw [List.all_cons, Bool.and_eq_true] at h
  have h1 := (isDig_iff c).1 h.1
  intro e
  simp only [List.head?_cons, Option.some.injEq] at e
  rw [e] at h1
  exact absurd h1.1 (by decide)
theorem numL_itoa {l : List UInt8} {v : Int} (h : numL l = some v) : Lib.itoa v = l ∧ (Lib.trimPrefix l [45]).length ≤ 18 ∧ Lib.parseIntB 64 l = .ok v := by
 have h64 : (2 : Nat) ^ 64 - 1 = 18446744073709551615 := by decide
 have h63 : (2 : Nat) ^ (64 - 1) = 9223372036854775808 := by decide
 rw [trim45]
 unfold numL at h
 split at h
 ·
  rename_i h45
  cases hn : numD l.tail false with
  | none => rw [hn] at h; cases h
  | some u =>
   rw [hn] at h
   replace h := Option.some.inj h
   dsimp only at h
   obtain ⟨a1, a2, a3, a4, rfl⟩ := numD_some hn
   have a3 : l.tail.head? ≠ some 48 := a3.resolve_right (by simp)
   cases l with
   | nil => simp at h45
   | cons c d =>
    simp only [List.head?_cons, Option.some.injEq] at h45
    subst h45
    simp only [List.tail_cons] at *
    have hd := dec_dval d.length d rfl a1 a4 (.inl a3)
    have hlt := numD_lt a2 a4
    have hpos : 1 ≤ dval 0 d := by
     cases d with
     | nil => exact absurd rfl a1
     | cons x e =>
      have hx : x ≠ 48 := by simpa using a3
      rw [List.all_cons, Bool.and_eq_true] at a4
      have h1 := (isDig_iff x).1 a4.1
      have : x.toNat ≠ 48 := fun h => hx (UInt8.toNat_inj.1 h)
      exact dval_pos x e this h1.1
    subst h
    refine ⟨?_, by simpa using a2, ?_⟩
    ·
     unfold Lib.itoa
     rw [if_pos (by omega), show (-(dval 0 d : Int)).natAbs = dval 0 d by omega, hd]
    ·
     unfold Lib.parseIntB Lib.parseUintB
     simp only [show ((45 : UInt8).toNat = 43 ∨ (45 : UInt8).toNat = 45) by decide, if_true, if_neg a1, h64, parse_dval d 0 a4 hlt, h63]
     rw [if_neg (by omega), if_neg (by omega)]
     simp
 ·
  rename_i h45
  cases hn : numD l (decide (l.length = 1)) with
  | none => rw [hn] at h; cases h
  | some u =>
   rw [hn] at h
   replace h := Option.some.inj h
   dsimp only at h
   obtain ⟨a1, a2, a3, a4, rfl⟩ := numD_some hn
   rw [decide_eq_true_eq] at a3
   have hd := dec_dval l.length l rfl a1 a4 a3
   have hlt := numD_lt a2 a4
   subst h
   refine ⟨?_, by rw [if_neg h45]; exact a2, ?_⟩
   ·
    unfold Lib.itoa
    rw [if_neg (by omega), Int.toNat_natCast, hd]
   ·
    cases l with
    | nil => exact absurd rfl a1
    | cons c d =>
     have h1 := (isDig_iff c).1 (by rw [List.all_cons, Bool.and_eq_true] at a4; exact a4.1)
     have e1 : ¬ c.toNat = 43 := by omega
     have e2 : ¬ c.toNat = 45 := by omega
     unfold Lib.parseIntB Lib.parseUintB
     simp only [e1, e2, or_false, if_false, if_neg a1, h64, parse_dval (c :: d) 0 a4 hlt, h63, false_and, not_false_eq_true, true_and]
     rw [if_neg (by omega)]
theorem itoa_numL {l : List UInt8} {v : Int} (h : Lib.itoa v = l) (ht : (Lib.trimPrefix l [45]).length ≤ 18) : numL l = some v := by
 rw [trim45] at ht
 unfold Lib.itoa at h
 unfold numL
 split at h
 ·
  rename_i hv
  subst h
  obtain ⟨a1, a2, a3, a4, a5⟩ := dec_facts v.natAbs
  simp only [List.head?_cons, if_true, List.tail_cons] at ht ⊢
  have hn : numD (Lib.decDigits v.natAbs) false = some v.natAbs := by
   unfold numD
   rw [if_neg (by rintro (h | h); exact a1 h; omega), if_neg (fun h => a5 (by omega) h.1), if_pos a2, a4]
  rw [hn]
  refine congrArg some ?_
  dsimp only
  omega
 ·
  rename_i hv
  subst h
  obtain ⟨a1, a2, a3, a4, a5⟩ := dec_facts v.toNat
  have h45 := dig_head a2
  rw [if_neg h45] at ht ⊢
  have hn : numD (Lib.decDigits v.toNat) (decide ((Lib.decDigits v.toNat).length = 1)) = some v.toNat := by
   unfold numD
   rw [if_neg (by rintro (h | h); exact a1 h; omega), if_neg (by rintro ⟨h, h2⟩; rw [decide_eq_false_iff_not] at h2; exact (a3.resolve_right h2) h), if_pos a2, a4]
  rw [hn]
  refine congrArg some ?_
  dsimp only
  omega
theorem w64 {x : Int} (h0 : -9223372036854775808 ≤ x) (h1 : x ≤ 9223372036854775807) : wrap64 x = x := by unfold wrap64; omega
theorem getD_lt {α : Type} {l : List α} {i : Nat} (d : α) (h : i < l.length) : l.getD i d = l[i] := by
 rw [List.getD_eq_getElem?_getD, List.getElem?_eq_getElem h]; rfl
def mkB (l : List UInt8) : ByteArray := ⟨l.toArray⟩
theorem mkB_toList (l : List UInt8) : (mkB l).data.toList = l := rfl
theorem mkB_of (b : ByteArray) : mkB b.data.toList = b := by unfold mkB; cases b; rfl
theorem mkB_inj {a : List UInt8} {b : ByteArray} : mkB a = b ↔ a = b.data.toList := by
 constructor
 ·
  intro h; rw [← h]; rfl
 ·
  intro h; rw [h]; exact mkB_of b
theorem mkB_extract (b : ByteArray) (s e : Nat) : b.extract s e = mkB ((b.data.toList.take e).drop s) := by
 rw [← mkB_of (b.extract s e), Lib.extract_data, List.drop_take]
theorem mkB_append (a b : List UInt8) : mkB a ++ mkB b = mkB (a ++ b) := by
 rw [← mkB_of (mkB a ++ mkB b), ByteArray.toList_data_append]
 rfl
theorem mkB_size (l : List UInt8) : (mkB l).size = l.length := by
 show l.toArray.size = l.length
 simp
def spl (c : UInt8) : List UInt8 → List (List UInt8)
 | [] => [[]]
 | x :: r => if x = c then [] :: spl c r else match spl c r with
  | [] => [[x]]
  | h :: t => (x :: h) :: t
def att (p : List UInt8) : List (List UInt8) → List (List UInt8)
 | [] => [p]
 | h :: t => (p ++ h) :: t
theorem spl_cons (c x : UInt8) (r : List UInt8) : spl c (x :: r) = if x = c then [] :: spl c r else att [x] (spl c r) := by
 rw [spl]
 split
 ·
  rfl
 ·
  cases spl c r <;> rfl
theorem spl_ne (c : UInt8) : ∀ l, spl c l ≠ []
 | [] => by simp [spl]
 | x :: r => by
  rw [spl_cons]
  split
  ·
   simp
  ·
   cases spl c r <;> simp [att]
theorem att_nil {l : List (List UInt8)} (h : l ≠ []) : att [] l = l := by
 cases l with
 | nil => exact absurd rfl h
 | cons a t => simp [att]
theorem att_att (p q : List UInt8) {l : List (List UInt8)} (h : l ≠ []) : att p (att q l) = att (p ++ q) l := by
 cases l with
 | nil => exact absurd rfl h
 | cons a t => simp [att]
theorem att_length (p : List UInt8) {l : List (List UInt8)} (h : l ≠ []) : (att p l).length = l.length := by
 cases l with
 | nil => exact absurd rfl h
 | cons a t => rfl
theorem spl_len (c : UInt8) : ∀ l : List UInt8, (spl c l).length ≤ l.length + 1
 | [] => by simp [spl]
 | x :: r => by
  have := spl_len c r
  rw [spl_cons]
  split
  ·
   simp only [List.length_cons]; omega
  ·
   rw [att_length _ (spl_ne c r)]; simp only [List.length_cons]; omega
theorem spl_none (c : UInt8) : ∀ l : List UInt8, c ∉ l → spl c l = [l]
 | [], _ => rfl
 | x :: r, h => by
  rw [List.mem_cons, not_or] at h
  rw [spl_cons, if_neg (fun e => h.1 e.symm), spl_none c r h.2]
  rfl
theorem spl_first (c : UInt8) (r : List UInt8) : ∀ l : List UInt8, c ∉ l → spl c (l ++ c :: r) = l :: spl c r
 | [], _ => by rw [List.nil_append, spl_cons, if_pos rfl]
 | x :: l, h => by
  rw [List.mem_cons, not_or] at h
  rw [List.cons_append, spl_cons, if_neg (fun e => h.1 e.symm), spl_first c r l h.2]
  rfl
theorem spl_free (c : UInt8) : ∀ l : List UInt8, ∀ p ∈ spl c l, c ∉ p
 | [], p, hp => by
  rw [spl, List.mem_singleton] at hp
  rw [hp]
  simp
 | x :: r, p, hp => by
  have ih := spl_free c r
  rw [spl_cons] at hp
  split at hp
  ·
   rcases List.mem_cons.1 hp with rfl | hp
   ·
    simp
   ·
    exact ih p hp
  ·
   rename_i hx
   cases hs : spl c r with
   | nil => exact absurd hs (spl_ne c r)
   | cons a t =>
    rw [hs] at hp ih
    rcases List.mem_cons.1 hp with rfl | hp
    ·
     intro hc
     rcases List.mem_cons.1 hc with e | hc
     ·
      exact hx e.symm
     ·
      exact ih a (List.mem_cons_self ..) hc
    ·
     exact ih p (List.mem_cons_of_mem _ hp)
theorem join_cons2 (x y : List UInt8) (r : List (List UInt8)) (c : UInt8) : Lib.join (x :: y :: r) [c] = x ++ c :: Lib.join (y :: r) [c] := by
 rw [Lib.join_cons, Lib.join_cons]
 simp [Lib.joinTail]
theorem join_att (c : UInt8) (p : List UInt8) {l : List (List UInt8)} (h : l ≠ []) : Lib.join (att p l) [c] = p ++ Lib.join l [c] := by
 cases l with
 | nil => exact absurd rfl h
 | cons a t =>
  show Lib.join ((p ++ a) :: t) [c] = _
  rw [Lib.join_cons, Lib.join_cons, List.append_assoc]
theorem join_spl (c : UInt8) : ∀ l : List UInt8, Lib.join (spl c l) [c] = l
 | [] => by rw [spl, Lib.join_one]
 | x :: r => by
  have ih := join_spl c r
  rw [spl_cons]
  split
  ·
   rename_i hx
   cases hs : spl c r with
   | nil => exact absurd hs (spl_ne c r)
   | cons a t =>
    rw [join_cons2, ← hs, ih, hx]
    rfl
  ·
   rw [join_att c _ (spl_ne c r), ih]
   rfl
theorem spl_piece {c : UInt8} {l p : List UInt8} (hp : p ∈ spl c l) : p.length ≤ l.length := by
 have hj := join_spl c l
 have : p.length ≤ (Lib.join (spl c l) [c]).length := by
  clear hj
  revert hp
  generalize spl c l = P
  intro hp
  induction P with
  | nil => exact absurd hp (List.not_mem_nil)
  | cons a t ih =>
   cases t with
   | nil =>
    rw [List.mem_singleton.1 hp, Lib.join_one]
    exact Nat.le_refl _
   | cons a2 t2 =>
    rw [join_cons2, List.length_append, List.length_cons]
    rcases List.mem_cons.1 hp with rfl | hp
    ·
     omega
    ·
     have := ih hp
     omega
 rw [hj] at this
 exact this
theorem spl_index (c : UInt8) (l : List UInt8) : (Lib.index l [c] = -1 ∧ spl c l = [l]) ∨ (∃ i : Nat, Lib.index l [c] = i ∧ spl c l = l.take i :: spl c (l.drop (i + 1)) ∧ i < l.length ∧ l = l.take i ++ c :: l.drop (i + 1)) := by
 have occ : ∀ j, Lib.occAt l [c] j = true ↔ l[j]? = some c := by
  intro j
  unfold Lib.occAt
  have : l[j]? = (l.drop j).head? := by rw [List.head?_drop]
  rw [this]
  cases l.drop j with
  | nil => simp
  | cons y t =>
   show (c == y && List.isPrefixOf [] t) = true ↔ some y = some c
   rw [Bool.and_eq_true, beq_iff_eq]
   exact ⟨fun h => congrArg some h.1.symm, fun h => ⟨(Option.some.inj h).symm, rfl⟩⟩
 rcases Lib.index_spec l [c] with ⟨h1, h2⟩ | ⟨i, h1, h2, h3, h4⟩
 ·
  refine .inl ⟨h1, spl_none c l fun hm => ?_⟩
  obtain ⟨j, hj, hj2⟩ := List.getElem_of_mem hm
  have h3 := h2 j (by omega)
  rw [(occ j).2 (by rw [List.getElem?_eq_getElem hj, hj2])] at h3
  cases h3
 ·
  have hc := (occ i).1 h3
  obtain ⟨hi, hc2⟩ := List.getElem?_eq_some_iff.1 hc
  have e : l = l.take i ++ c :: l.drop (i + 1) := by
   conv => lhs; rw [← List.take_append_drop i l]
   rw [List.drop_eq_getElem_cons hi, hc2]
  refine .inr ⟨i, h1, ?_, hi, e⟩
  conv => lhs; rw [e]
  refine spl_first c _ _ fun hm => ?_
  obtain ⟨j, hj, hj2⟩ := List.getElem_of_mem hm
  rw [List.length_take] at hj
  rw [List.getElem_take] at hj2
  have h5 := h4 j (by omega)
  rw [(occ j).2 (by rw [List.getElem?_eq_getElem (by omega), hj2])] at h5
  cases h5
theorem splK (c : UInt8) : ∀ (n : Nat) (l : List UInt8), ((spl c l).length ≤ n + 1 → Lib.splitK [c] 0 n l = spl c l) ∧ (n + 1 < (spl c l).length → (Lib.splitK [c] 0 n l).length = n + 1)
 | 0, l => by
  refine ⟨fun h => ?_, fun _ => rfl⟩
  rcases spl_index c l with ⟨_, h2⟩ | ⟨i, _, h2, _⟩
  ·
   rw [h2]; rfl
  ·
   rw [h2, List.length_cons] at h
   exact absurd (List.eq_nil_of_length_eq_zero (by omega)) (spl_ne c (l.drop (i + 1)))
 | n + 1, l => by
  rcases spl_index c l with ⟨h1, h2⟩ | ⟨i, h1, h2, _⟩
  ·
   refine ⟨fun _ => ?_, fun h => ?_⟩
   ·
    rw [Lib.splitK, h1, if_pos (by rfl), h2]
   ·
    rw [h2, List.length_singleton] at h
    omega
  ·
   have ih := splK c n (l.drop (i + 1))
   have e : Lib.splitK [c] 0 (n + 1) l = l.take i :: Lib.splitK [c] 0 n (l.drop (i + 1)) := by
    rw [Lib.splitK, h1, if_neg (by simp)]
    rfl
   rw [e, h2, List.length_cons, List.length_cons]
   exact ⟨fun h => by rw [ih.1 (by omega)], fun h => by rw [ih.2 (by omega)]⟩
theorem numL_itoa1 {l : List UInt8} {v : Int} (h : numL l = some v) : Lib.itoa v = l := (numL_itoa h).1
theorem numL_bytes {l : List UInt8} {v : Int} (h : numL l = some v) : l ≠ [] ∧ ∀ x ∈ l, x = 45 ∨ isDig x = true := by
 unfold numL at h
 split at h
 ·
  rename_i h45
  cases hn : numD l.tail false with
  | none => rw [hn] at h; cases h
  | some u =>
   obtain ⟨a1, a2, a3, a4, rfl⟩ := numD_some hn
   cases l with
   | nil => simp at h45
   | cons c d =>
    refine ⟨by simp, fun x hx => ?_⟩
    rcases List.mem_cons.1 hx with rfl | hx
    ·
     exact .inl (Option.some.inj h45)
    ·
     exact .inr (List.all_eq_true.1 a4 x hx)
 ·
  cases hn : numD l (decide (l.length = 1)) with
  | none => rw [hn] at h; cases h
  | some u =>
   obtain ⟨a1, a2, a3, a4, rfl⟩ := numD_some hn
   exact ⟨a1, fun x hx => .inr (List.all_eq_true.1 a4 x hx)⟩
def allN : List (List UInt8) → Option (List Int)
 | [] => some []
 | l :: r => (numL l).bind fun v => (allN r).bind fun vs => some (v :: vs)
theorem allN_some : ∀ {P : List (List UInt8)} {vs : List Int}, allN P = some vs → vs.length = P.length ∧ vs.map Lib.itoa = P ∧ ∀ p ∈ P, p ≠ [] ∧ ∀ x ∈ p, x = 45 ∨ isDig x = true
 | [], vs, h => by
  injection h with h
  subst h
  exact ⟨rfl, rfl, fun p hp => absurd hp (List.not_mem_nil)⟩
 | l :: r, vs, h => by
  rw [allN] at h
  cases h1 : numL l with
  | none => rw [h1] at h; cases h
  | some v =>
   cases h2 : allN r with
   | none => rw [h1, h2] at h; cases h
   | some ws =>
    rw [h1, h2] at h
    injection h with h
    subst h
    obtain ⟨a, b, c⟩ := allN_some h2
    refine ⟨by simp [a], by rw [List.map_cons, numL_itoa1 h1, b], fun p hp => ?_⟩
    rcases List.mem_cons.1 hp with rfl | hp
    ·
     exact numL_bytes h1
    ·
     exact c p hp
def rlist (l : List UInt8) : List Int × Bool := if l = [45] then ([], true) else if 64 < (spl 44 l).length then ([], false) else match allN (spl 44 l) with
 | some vs => if vs.all ltOk = true then (vs, true) else ([], false)
 | none => ([], false)
theorem mem_spl {c x : UInt8} : ∀ {l : List UInt8}, x ∈ l → x = c ∨ ∃ p ∈ spl c l, x ∈ p
 | y :: r, h => by
  rw [spl_cons]
  rcases List.mem_cons.1 h with rfl | h
  ·
   split
   ·
    rename_i e; exact .inl e
   ·
    refine .inr ?_
    cases hs : spl c r with
    | nil => exact absurd hs (spl_ne c r)
    | cons a t => exact ⟨x :: a, List.mem_cons_self .., List.mem_cons_self ..⟩
  ·
   rcases mem_spl (c := c) h with h | ⟨p, hp, hx⟩
   ·
    exact .inl h
   ·
    refine .inr ?_
    split
    ·
     exact ⟨p, List.mem_cons_of_mem _ hp, hx⟩
    ·
     cases hs : spl c r with
     | nil => exact absurd hs (spl_ne c r)
     | cons a t =>
      rw [hs] at hp
      rcases List.mem_cons.1 hp with rfl | hp
      ·
       exact ⟨y :: p, List.mem_cons_self .., List.mem_cons_of_mem _ hx⟩
      ·
       exact ⟨p, List.mem_cons_of_mem _ hp, hx⟩
theorem allN_listT {l : List UInt8} {vs : List Int} (h : allN (spl 44 l) = some vs) (hl : (spl 44 l).length ≤ 64) (ha : vs.all ltOk = true) : listT vs = mkB l := by
 obtain ⟨a, b, c⟩ := allN_some h
 have h0 : vs.length ≠ 0 := fun e => spl_ne 44 l (List.eq_nil_of_length_eq_zero (by omega))
 unfold listT
 rw [if_neg (by omega), if_neg h0, if_pos ha, b, join_spl]
 rfl
theorem rlist_text {l : List UInt8} {vs : List Int} (h : rlist l = (vs, true)) : listT vs = mkB l ∧ l ≠ [] ∧ ∀ x ∈ l, x = 44 ∨ x = 45 ∨ isDig x = true := by
 unfold rlist at h
 split at h
 ·
  rename_i e
  injection h with h _
  subst h
  rw [e]
  exact ⟨rfl, by simp, fun x hx => .inr (.inl (List.mem_singleton.1 hx))⟩
 ·
  split at h
  ·
   injection h with _ h; cases h
  ·
   rename_i h64
   cases hn : allN (spl 44 l) with
   | none => rw [hn] at h; injection h with _ h; cases h
   | some ws =>
    rw [hn] at h
    dsimp only at h
    split at h
    ·
     rename_i ha
     injection h with h _
     subst h
     refine ⟨allN_listT hn (by omega) ha, ?_, fun x hx => ?_⟩
     ·
      intro e
      subst e
      exact ((allN_some hn).2.2 [] (by simp [spl])).1 rfl
     ·
      rcases mem_spl (c := 44) hx with h | ⟨p, hp, hxp⟩
      ·
       exact .inl h
      ·
       exact .inr (((allN_some hn).2.2 p hp).2 x hxp)
    ·
     injection h with _ h; cases h
theorem rlist_blank {l : List UInt8} (h : (32 : UInt8) ∈ l) : (rlist l).2 = false := by
 cases hr : rlist l with
 | mk vs ok =>
  cases ok with
  | false => rfl
  | true =>
   rcases (rlist_text hr).2.2 32 h with h | h | h
   ·
    exact absurd h (by decide)
   ·
    exact absurd h (by decide)
   ·
    exact absurd h (by decide)
theorem rlist_nil : rlist [] = ([], false) := rfl
def rlistI (l : List UInt8) (P : List (List UInt8)) : List Int × Bool := match allN P with
 | some vs => if listT vs = mkB l then (vs, true) else ([], false)
 | none => ([], false)
theorem listT_long {vs : List Int} (h : vs.length > 64) : listT vs = mkB [] := by
 unfold listT
 rw [if_pos h]
 rfl
theorem mkB_inj2 {a b : List UInt8} : mkB a = mkB b ↔ a = b := mkB_inj
theorem rlistI_eq {l : List UInt8} (hl : l ≠ [45]) : rlistI l (Lib.splitK [44] 0 (min 65 (l.length + 1) - 1) l) = rlist l := by
 have hlen := spl_len 44 l
 have hk := splK 44 (min 65 (l.length + 1) - 1) l
 unfold rlist
 rw [if_neg hl]
 by_cases h65 : (spl 44 l).length ≤ 65
 ·
  rw [hk.1 (by omega)]
  unfold rlistI
  cases hn : allN (spl 44 l) with
  | none =>
   dsimp only
   split <;> rfl
  | some vs =>
   obtain ⟨a, b, c⟩ := allN_some hn
   have hne : l ≠ [] := by
    intro e
    subst e
    exact (c [] (by simp [spl])).1 rfl
   dsimp only
   by_cases h64 : 64 < (spl 44 l).length
   ·
    rw [if_pos h64, listT_long (by omega), if_neg (fun e => hne (mkB_inj2.1 e).symm)]
   ·
    rw [if_neg h64]
    by_cases ha : vs.all ltOk = true
    ·
     rw [if_pos ha, if_pos (allN_listT hn (by omega) ha)]
    ·
     have h0 : vs.length ≠ 0 := fun e => spl_ne 44 l (List.eq_nil_of_length_eq_zero (by omega))
     have : listT vs = mkB [] := by
      unfold listT
      rw [if_neg (by omega), if_neg h0, if_neg ha]
      rfl
     rw [if_neg ha, this, if_neg (fun e => hne (mkB_inj2.1 e).symm)]
 ·
  have hP := hk.2 (by omega)
  rw [if_pos (by omega)]
  unfold rlistI
  cases hn : allN (Lib.splitK [44] 0 (min 65 (l.length + 1) - 1) l) with
  | none => rfl
  | some vs =>
   obtain ⟨a, _, _⟩ := allN_some hn
   dsimp only
   rw [listT_long (by omega), if_neg (fun e => by have := (mkB_inj2.1 e).symm; subst this; simp [spl] at h65)]
def wid (l : List UInt8) (n : Nat) : Option (List UInt8 × List Int) := match spl 32 l with
 | [p, q] => if (rlist q).2 = true ∧ (rlist q).1.length = n then some (p, (rlist q).1) else none
 | _ => none
theorem wid_text {l p : List UInt8} {n : Nat} {vs : List Int} (h : wid l n = some (p, vs)) : vs.length = n ∧ mkB p ++ (⟨#[32]⟩ : ByteArray) ++ listT vs = mkB l ∧ l ≠ [] ∧ p.length ≤ l.length ∧ (listT vs).size ≤ l.length := by
 unfold wid at h
 split at h
 ·
  rename_i a q hs
  split at h
  ·
   rename_i hq
   injection h with h
   injection h with h1 h2
   subst h1
   subst h2
   have hj := join_spl 32 l
   rw [hs, join_cons2, Lib.join_one] at hj
   have ht := (rlist_text (l := q) (vs := (rlist q).1) (by rw [← hq.1])).1
   refine ⟨hq.2, ?_, ?_, ?_, ?_⟩
   ·
    rw [ht, ← hj]
    show mkB a ++ mkB [32] ++ mkB q = _
    rw [mkB_append, mkB_append, List.append_assoc]
    rfl
   ·
    rw [← hj]; simp
   ·
    rw [← hj]; simp
   ·
    rw [ht, mkB_size, ← hj]; simp; omega
  ·
   cases h
 ·
  cases h
theorem Ev.succ {α : Type} {g : Nat → Option α} {r : α} (h : Ev (fun k => g (k + 1)) r) : Ev g r := Ev.step (fun _ => rfl) h
theorem Ev.now' {α : Type} {a b : α} (h : a = b) : Ev (fun _ => some a) b := h ▸ Ev.now a
def smallC (c : Int) : Bool := decide (97 ≤ c) && decide (c ≤ 122)
def digitC (c : Int) : Bool := decide (48 ≤ c) && decide (c ≤ 57)
def nameC (c : Int) : Bool := smallC c || digitC c
def nameOk (b : ByteArray) : Bool := decide (1 ≤ b.size) && (decide (b.size ≤ 10) && (smallC (bt b 0) && (List.range b.size).all fun i => nameC (bt b i)))
theorem specDigit_eq (c : Int) : spec_l01Digit.f c = some (digitC c) := by
 unfold spec_l01Digit.f digitC
 by_cases h : c ≥ 48
 ·
  rw [if_pos h, decide_eq_true (show 48 ≤ c from h)]; rfl
 ·
  rw [if_neg h, decide_eq_false (show ¬ 48 ≤ c from h)]; rfl
def numR (l : List UInt8) : Int × Bool := match numL l with
 | some v => (v, true)
 | none => (0, false)
theorem bt_get (b : ByteArray) (i : Nat) (h : i < b.data.toList.length) : bt b (i : Int) = ((b.data.toList[i].toNat : Nat) : Int) := by
 have h2 : i < b.size := by simpa using h
 rw [← bt_at b (i : Int) (by simpa using h2)]
 simp only [Int.toNat_natCast]
 rfl
theorem size_of (b : ByteArray) : b.size = b.data.toList.length := rfl
theorem digit_cast (c : UInt8) : digitC ((c.toNat : Nat) : Int) = isDig c := by
 unfold digitC isDig
 congr 1
 ·
  exact decide_eq_decide.2 (by omega)
 ·
  exact decide_eq_decide.2 (by omega)
theorem specNumLoop (b : ByteArray) (fr : Nat) (hfr : fr ≤ 1) (hb : b.data.toList.length ≤ 4611686018427387904) : ∀ (m i acc : Nat), i + m = b.data.toList.length → m ≤ 18 → acc < 10 ^ (18 - m) →
  Ev (fun k => spec_l01Number.l0 k b (fr : Int) (acc : Int) (i : Int)) (if (b.data.toList.drop i).all isDig = true then ((if fr = 1 then -((dval acc (b.data.toList.drop i) : Nat) : Int) else ((dval acc (b.data.toList.drop i) : Nat) : Int)), true) else (0, false)) := by
 intro m
 induction m with
 | zero =>
  intro i acc hi hm ha
  rw [List.drop_eq_nil_of_le (by omega), if_pos (show [].all isDig = true from rfl)]
  have h18 : acc < 1000000000000000000 := by simpa using ha
  refine Ev.step (f := fun _ => some ((if fr = 1 then -(acc : Int) else (acc : Int)), true)) (fun k => ?_) (Ev.now _)
  simp only [spec_l01Number.l0]
  rw [if_neg (by rw [size_of]; omega)]
  by_cases h : fr = 1
  ·
   rw [if_pos (by omega), if_pos h, w64 (by omega) (by omega)]
  ·
   rw [if_neg (by omega), if_neg h]
 | succ m ih =>
  intro i acc hi hm ha
  have hlt : i < b.data.toList.length := by omega
  have hp : (10 : Nat) ^ (18 - (m + 1)) ≤ 10 ^ 17 := Nat.pow_le_pow_right (by decide) (by omega)
  have h17 : (10 : Nat) ^ 17 = 100000000000000000 := by decide
  have hb0 := b.data.toList[i].toNat_lt
  rw [List.drop_eq_getElem_cons hlt, List.all_cons]
  cases hd : isDig b.data.toList[i] with
  | false =>
   rw [Bool.false_and, if_neg (by decide)]
   refine Ev.step (f := fun _ => some (0, false)) (fun k => ?_) (Ev.now _)
   simp only [spec_l01Number.l0]
   rw [if_pos (by rw [size_of]; omega), if_pos (by omega), specDigit_eq, bt_get b i hlt, digit_cast, hd]
   rfl
  | true =>
   rw [Bool.true_and, dval_cons]
   have hd2 := (isDig_iff _).1 hd
   have ih2 := ih (i + 1) (acc * 10 + (b.data.toList[i].toNat - 48)) (by omega) (by omega) (by
    have e : 18 - m = (18 - (m + 1)) + 1 := by omega
    rw [e, Nat.pow_succ]
    omega)
   refine Ev.step (fun k => ?_) ih2
   simp only [spec_l01Number.l0]
   rw [if_pos (by rw [size_of]; omega), if_pos (by omega), specDigit_eq, bt_get b i hlt, digit_cast, hd]
   simp only [Option.bind_some, if_true]
   rw [w64 (x := 10 * (acc : Int)) (by omega) (by omega), w64 (x := (i : Int) + 1) (by omega) (by omega), w64 (by omega) (by omega)]
   congr 1
   omega
theorem specNum_ev (b : ByteArray) (hb : b.size ≤ 4611686018427387904) : Ev (fun k => spec_l01Number.f k b) (numR b.data.toList) := by
 have hz := size_of b
 have j1 : ∀ fr : Nat, fr ≤ 1 → fr ≤ b.data.toList.length → (fr = 1 → b.data.toList.length ≠ 0) →
   Ev (fun k => spec_l01Number.j1 k b (fr : Int)) (match numD (b.data.toList.drop fr) (decide (b.data.toList.length ≤ 1)) with | some u => ((if fr = 1 then -(u : Int) else (u : Int)), true) | none => (0, false)) := by
  intro fr h1 h2 h3
  have j2t : Ev (fun k => spec_l01Number.j2 k b (fr : Int) true) (0, false) := Ev.step (f := fun _ => some (0, false)) (fun k => by simp [spec_l01Number.j2]) (Ev.now _)
  unfold numD
  refine Ev.succ ?_
  simp only [spec_l01Number.j1]
  by_cases e1 : b.data.toList.length = fr
  ·
   rw [if_pos (.inl (List.drop_eq_nil_of_le (by omega)))]
   simp only [show ((b.size : Int) = fr) by omega, if_true]
   exact j2t
  ·
   simp only [show ¬ ((b.size : Int) = fr) by omega, if_false]
   rw [w64 (by omega) (by omega)]
   by_cases e2 : b.data.toList.length - fr > 18
   ·
    rw [if_pos (.inr (by rw [List.length_drop]; omega))]
    simp only [show ((b.size : Int) - fr > 18) by omega, if_true]
    exact j2t
   ·
    have hlt : fr < b.data.toList.length := by omega
    rw [if_neg (fun h => h.elim (fun h => by have := congrArg List.length h; rw [List.length_drop, List.length_nil] at this; omega) (fun h => by rw [List.length_drop] at h; omega))]
    simp only [show ¬ ((b.size : Int) - fr > 18) by omega, if_false, show (0 : Int) ≤ fr by omega, show (fr : Int) < b.size by omega, if_true]
    rw [bt_get b fr hlt, List.head?_drop, List.getElem?_eq_getElem hlt]
    have go : Ev (fun k => spec_l01Number.j2 k b (fr : Int) false) (match (if (b.data.toList.drop fr).all isDig = true then some (dval 0 (b.data.toList.drop fr)) else none) with | some u => ((if fr = 1 then -(u : Int) else (u : Int)), true) | none => (0, false)) := by
     have hl := specNumLoop b fr h1 (by omega) (b.data.toList.length - fr) fr 0 (by omega) (by omega) (Nat.pow_pos (by decide))
     refine Ev.step (f := fun k => spec_l01Number.l0 k b (fr : Int) 0 (fr : Int)) (fun k => by simp [spec_l01Number.j2]) ?_
     have e : (match (if (b.data.toList.drop fr).all isDig = true then some (dval 0 (b.data.toList.drop fr)) else none) with | some u => ((if fr = 1 then -(u : Int) else (u : Int)), true) | none => (0, false)) = (if (b.data.toList.drop fr).all isDig = true then ((if fr = 1 then -((dval 0 (b.data.toList.drop fr) : Nat) : Int) else ((dval 0 (b.data.toList.drop fr) : Nat) : Int)), true) else ((0 : Int), false)) := by
      by_cases hall : (b.data.toList.drop fr).all isDig = true
      ·
       simp only [hall, if_true]
      ·
       simp only [hall, if_false]
       rfl
     rw [e]
     exact hl
    by_cases e3 : b.data.toList[fr] = 48
    ·
     have e3' : ((b.data.toList[fr].toNat : Nat) : Int) = 48 := by rw [e3]; rfl
     simp only [e3', if_true]
     by_cases e4 : b.data.toList.length ≤ 1
     ·
      rw [decide_eq_true e4, if_neg (by rintro ⟨_, h⟩; cases h), decide_eq_false (show ¬ (b.size : Int) > 1 by omega)]
      exact go
     ·
      rw [decide_eq_false e4, e3, if_pos ⟨rfl, rfl⟩, decide_eq_true (show (b.size : Int) > 1 by omega)]
      exact j2t
    ·
     have e3' : ¬ ((b.data.toList[fr].toNat : Nat) : Int) = 48 := fun h => e3 (UInt8.toNat_inj.1 ((show b.data.toList[fr].toNat = 48 by omega).trans rfl))
     simp only [e3', if_false]
     rw [if_neg (fun h => e3 (Option.some.inj h.1))]
     exact go
 unfold spec_l01Number.f numR numL
 by_cases h0 : b.data.toList.length = 0
 ·
  have hnil := List.eq_nil_of_length_eq_zero h0
  simp only [show ¬ (b.size : Int) > 0 by omega, if_false]
  have h := j1 0 (by omega) (by omega) (by omega)
  refine Ev.step (f := fun k => spec_l01Number.j1 k b 0) (fun k => by simp [spec_l01Number.j0]) ?_
  rw [hnil] at h ⊢
  exact h
 ·
  simp only [show (b.size : Int) > 0 by omega, if_true, show (0 : Int) < b.size by omega]
  have hb0 := bt_get b 0 (by omega)
  rw [show ((0 : Nat) : Int) = 0 from rfl] at hb0
  rw [hb0]
  have hh : b.data.toList.head? = some b.data.toList[0] := by
   rw [List.head?_eq_getElem?, List.getElem?_eq_getElem (by omega)]
  rw [hh]
  by_cases h45 : b.data.toList[0] = 45
  ·
   have e45 : ((b.data.toList[0].toNat : Nat) : Int) = 45 := by rw [h45]; rfl
   rw [e45, h45, if_pos rfl]
   have h := j1 1 (by omega) (by omega) (by omega)
   refine Ev.step (f := fun k => spec_l01Number.j1 k b 1) (fun k => by simp [spec_l01Number.j0]) ?_
   have e5 : numD (b.data.toList.drop 1) (decide (b.data.toList.length ≤ 1)) = numD b.data.toList.tail false := by
    rw [List.drop_one]
    by_cases h1 : b.data.toList.length ≤ 1
    ·
     have : b.data.toList.tail = [] := List.eq_nil_of_length_eq_zero (by rw [List.length_tail]; omega)
     rw [this]
     rfl
    ·
     rw [decide_eq_false h1]
   rw [e5] at h
   cases hn : numD b.data.toList.tail false with
   | none => rw [hn] at h; exact h
   | some u => rw [hn] at h; exact h
  ·
   have e45 : ¬ ((b.data.toList[0].toNat : Nat) : Int) = 45 := fun h => h45 (UInt8.toNat_inj.1 ((show b.data.toList[0].toNat = 45 by omega).trans rfl))
   rw [if_neg (fun e => h45 (Option.some.inj e))]
   have h := j1 0 (by omega) (by omega) (by omega)
   refine Ev.step (f := fun k => spec_l01Number.j1 k b 0) (fun k => ?_) ?_
   ·
    have : (((b.data.toList[0].toNat : Nat) : Int) == 45) = false := by simpa using e45
    rw [this]
    simp [spec_l01Number.j0]
   ·
    rw [List.drop_zero] at h
    rw [show decide (b.data.toList.length = 1) = decide (b.data.toList.length ≤ 1) from decide_eq_decide.2 (by omega)]
    cases hn : numD b.data.toList (decide (b.data.toList.length ≤ 1)) with
    | none => rw [hn] at h; exact h
    | some u => rw [hn] at h; exact h
theorem rdecI_eq (b : ByteArray) : rdecI b = numR b.data.toList := by
 unfold numR
 cases hn : numL b.data.toList with
 | some v =>
  obtain ⟨h1, h2, h3⟩ := numL_itoa hn
  unfold rdecI
  rw [h3]
  dsimp only
  rw [if_pos ⟨h2, by rw [h1]⟩]
 | none =>
  unfold rdecI
  split
  ·
   split
   ·
    rename_i v _ h
    have := itoa_numL (mkB_inj.1 h.2) h.1
    rw [hn] at this
    cases this
   ·
    rfl
  ·
   rfl
theorem specSplit_ev (b : ByteArray) (c : UInt8) (hb : b.size ≤ 1048576) : Ev (fun k => spec_l01Split.f k b ((c.toNat : Nat) : Int)) ((spl c b.data.toList).map mkB) := by
 have hz := size_of b
 have key : ∀ (m i s : Nat) (acc : List ByteArray), i + m = b.data.toList.length → s ≤ i → acc.length ≤ i →
   Ev (fun k => spec_l01Split.l0 k b ((c.toNat : Nat) : Int) acc (s : Int) (i : Int)) (acc ++ (att ((b.data.toList.take i).drop s) (spl c (b.data.toList.drop i))).map mkB) := by
  intro m
  induction m with
  | zero =>
   intro i s acc hi hs ha
   refine Ev.step (f := fun _ => some (acc ++ [b.extract s b.size])) (fun k => ?_) (Ev.now' ?_)
   ·
    simp only [spec_l01Split.l0]
    rw [if_neg (by omega), if_pos (by omega), if_pos (by omega), if_pos (by omega), Int.toNat_natCast]
   ·
    rw [List.drop_eq_nil_of_le (show b.data.toList.length ≤ i by omega), mkB_extract, hz, List.take_of_length_le (Nat.le_refl _), List.take_of_length_le (show b.data.toList.length ≤ i by omega)]
    simp [spl, att]
  | succ m ih =>
   intro i s acc hi hs ha
   have hlt : i < b.data.toList.length := by omega
   by_cases hc : b.data.toList[i] = c
   ·
    have ih2 := ih (i + 1) (i + 1) (acc ++ [mkB ((b.data.toList.take i).drop s)]) (by omega) (by omega) (by rw [List.length_append, List.length_singleton]; omega)
    rw [List.drop_eq_getElem_cons hlt, spl_cons, if_pos hc]
    rw [List.drop_eq_nil_of_le (show (b.data.toList.take (i + 1)).length ≤ i + 1 by rw [List.length_take]; omega), att_nil (spl_ne c _), List.append_assoc] at ih2
    refine Ev.step (fun k => ?_) (show Ev _ (acc ++ (att ((b.data.toList.take i).drop s) ([] :: spl c (b.data.toList.drop (i + 1)))).map mkB) from by
     simp only [att, List.append_nil, List.map_cons]
     exact ih2)
    simp only [spec_l01Split.l0]
    rw [if_pos (by omega), if_pos (by omega), bt_get b i hlt, hc, if_pos rfl, if_pos (by omega), if_pos (by omega), if_pos (by omega), if_pos (by omega), w64 (by omega) (by omega), Int.toNat_natCast, Int.toNat_natCast, mkB_extract]
    rfl
   ·
    have ih2 := ih (i + 1) s acc (by omega) (by omega) (by omega)
    rw [List.drop_eq_getElem_cons hlt, spl_cons, if_neg hc, att_att _ _ (spl_ne c _)]
    have e : (b.data.toList.take i).drop s ++ [b.data.toList[i]] = (b.data.toList.take (i + 1)).drop s := by
     rw [List.take_succ_eq_append_getElem hlt, List.drop_append_of_le_length (by rw [List.length_take]; omega)]
    rw [e]
    refine Ev.step (fun k => ?_) ih2
    simp only [spec_l01Split.l0]
    rw [if_pos (by omega), if_pos (by omega), bt_get b i hlt, if_neg (fun h => hc (UInt8.toNat_inj.1 (by omega))), w64 (by omega) (by omega)]
    rfl
 have h := key b.data.toList.length 0 0 [] (by omega) (by omega) (by simp)
 rw [List.take_zero, List.drop_nil, List.drop_zero, att_nil (spl_ne c _), List.nil_append] at h
 unfold spec_l01Split.f
 exact h
theorem specIn_eq (a lo hi : Int) : spec_l00In.f a lo hi = some (inB lo hi a) := by
 unfold spec_l00In.f inB
 by_cases h : a ≥ lo
 ·
  rw [if_pos h, decide_eq_true (show lo ≤ a from h)]; rfl
 ·
  rw [if_neg h, decide_eq_false (show ¬ lo ≤ a from h)]; rfl
theorem toList_iff (b : ByteArray) (l : List UInt8) : b.toList = l ↔ b.data.toList = l := by rw [ByteArray.toList_eq]
theorem rdOf_mkB (P : List (List UInt8)) (i : Nat) (h : i < P.length) : rdOf ByteArray.empty (P.map mkB) (i : Int) = mkB P[i] := by
 unfold rdOf
 rw [Int.toNat_natCast, getD_lt _ (by rw [List.length_map]; exact h), List.getElem_map]
def allS : List (List UInt8) → Option (List Int)
 | [] => some []
 | l :: r => (numL l).bind fun v => if ltOk v = true then (allS r).bind fun vs => some (v :: vs) else none
theorem allS_eq : ∀ P : List (List UInt8), allS P = match allN P with | some vs => if vs.all ltOk = true then some vs else none | none => none
 | [] => rfl
 | l :: r => by
  rw [allS, allN, allS_eq r]
  cases numL l with
  | none => rfl
  | some v =>
   cases allN r with
   | none => simp
   | some vs =>
    simp only [Option.bind_some, List.all_cons, Bool.and_eq_true]
    by_cases h1 : ltOk v = true
    ·
     by_cases h2 : vs.all ltOk = true <;> simp [h1, h2]
    ·
     simp [h1]
theorem specList_ev (b : ByteArray) (hb : b.size ≤ 1048576) : Ev (fun k => spec_ReadList.f k b) (rlist b.data.toList) := by
 have hz := size_of b
 unfold spec_ReadList.f rlist
 by_cases h45 : b.data.toList = [45]
 ·
  simp only [show b.toList = ([45] : List UInt8) from (toList_iff b _).2 h45, if_true]
  rw [if_pos h45]
  exact Ev.now _
 ·
  simp only [show ¬ b.toList = ([45] : List UInt8) from fun h => h45 ((toList_iff b _).1 h), if_false]
  rw [if_neg h45]
  refine Ev.bind (specSplit_ev b 44 hb) ?_
  rw [List.length_map]
  by_cases h64 : 64 < (spl 44 b.data.toList).length
  ·
   simp only [show ((spl 44 b.data.toList).length : Int) > 64 by omega, if_true]
   rw [if_pos h64]
   exact Ev.now _
  ·
   simp only [show ¬ ((spl 44 b.data.toList).length : Int) > 64 by omega, if_false]
   rw [if_neg h64]
   have hs : ∀ p ∈ spl 44 b.data.toList, p.length ≤ 1048576 := fun p hp => by have := spl_piece hp; omega
   have key : ∀ (m i : Nat) (acc : List Int), i + m = (spl 44 b.data.toList).length → acc.length = i →
     Ev (fun k => spec_ReadList.l0 k ((spl 44 b.data.toList).map mkB) acc (i : Int)) (match allS ((spl 44 b.data.toList).drop i) with | some vs => (acc ++ vs, true) | none => ([], false)) := by
    intro m
    induction m with
    | zero =>
     intro i acc hi ha
     rw [List.drop_eq_nil_of_le (by omega)]
     refine Ev.step (f := fun _ => some (acc, true)) (fun k => ?_) (Ev.now' (by simp [allS]))
     simp only [spec_ReadList.l0]
     rw [List.length_map, if_neg (by omega)]
    | succ m ih =>
     intro i acc hi ha
     have hlt : i < (spl 44 b.data.toList).length := by omega
     have hp := hs _ (List.getElem_mem hlt)
     rw [List.drop_eq_getElem_cons hlt, allS]
     refine Ev.succ ?_
     simp only [spec_ReadList.l0, List.length_map, rdOf_mkB _ i hlt, if_pos (show (i : Int) < (spl 44 b.data.toList).length by omega), if_pos (show (0 : Int) ≤ i by omega)]
     refine Ev.bind (specNum_ev (mkB (spl 44 b.data.toList)[i]) (by rw [mkB_size]; omega)) ?_
     rw [mkB_toList]
     unfold numR
     cases hn : numL (spl 44 b.data.toList)[i] with
     | none => exact Ev.now _
     | some v =>
      simp only [Option.bind_some, if_true, specIn_eq]
      rw [show inB (-1000000000000) 1000000000000 v = ltOk v from rfl]
      cases hv : ltOk v with
      | false => exact Ev.now _
      | true =>
       simp only [if_true, if_pos (show acc.length < 17592186044416 by omega), w64 (x := (i : Int) + 1) (by omega) (by omega)]
       have ih2 := ih (i + 1) (acc ++ [v]) (by omega) (by rw [List.length_append, List.length_singleton]; omega)
       cases hr : allS ((spl 44 b.data.toList).drop (i + 1)) with
       | none => rw [hr] at ih2; exact ih2
       | some vs =>
        rw [hr] at ih2
        simp only [Option.bind_some]
        simp only [List.append_assoc, List.singleton_append] at ih2
        exact ih2
   have h := key _ 0 [] (Nat.zero_add _) rfl
   rw [List.drop_zero, allS_eq] at h
   cases hn : allN (spl 44 b.data.toList) with
   | none => rw [hn] at h; exact h
   | some vs =>
    rw [hn] at h
    dsimp only at h ⊢
    by_cases ha : vs.all ltOk = true
    ·
     rw [if_pos ha] at h ⊢
     exact h
    ·
     rw [if_neg ha] at h ⊢
     exact h
theorem implList_ev (b : ByteArray) (hb : b.size ≤ 1048576) : Ev (fun k => impl_ReadList.f k b) (rlist b.data.toList) := by
 have hz := size_of b
 unfold impl_ReadList.f
 by_cases h45 : b.data.toList = [45]
 ·
  simp only [show b.toList = ([45] : List UInt8) from (toList_iff b _).2 h45, if_true]
  unfold rlist
  rw [if_pos h45]
  exact Ev.now _
 ·
  simp only [show ¬ b.toList = ([45] : List UInt8) from fun h => h45 ((toList_iff b _).1 h), if_false]
  rw [← rlistI_eq h45]
  have hsp : strings_SplitN.f b (⟨#[44]⟩ : ByteArray) 65 = some ((Lib.splitK [44] 0 (min 65 (b.data.toList.length + 1) - 1) b.data.toList).map mkB) := by
   unfold strings_SplitN.f
   rw [if_pos ⟨by omega, by decide, by decide, by decide⟩]
   have h := Lib.splitB_data (⟨#[44]⟩ : ByteArray) 0 (min (65 : Int).toNat (b.size + 1) - 1) b
   refine congrArg some ?_
   rw [hz] at h ⊢
   rw [show (65 : Int).toNat = 65 from rfl] at h ⊢
   rw [show (⟨#[44]⟩ : ByteArray).data.toList = [44] from rfl] at h
   rw [← h, List.map_map]
   refine ((List.map_congr_left fun x _ => ?_).trans (List.map_id _)).symm
   exact mkB_of x
  rw [hsp]
  simp only [Option.bind_some, List.length_map]
  generalize hP : Lib.splitK [44] 0 (min 65 (b.data.toList.length + 1) - 1) b.data.toList = P
  have hPl : P.length ≤ 65 := by
   rcases Nat.lt_or_ge (min 65 (b.data.toList.length + 1) - 1 + 1) (spl 44 b.data.toList).length with h | h
   ·
    have := (splK 44 _ b.data.toList).2 h
    rw [hP] at this
    omega
   ·
    have := (splK 44 _ b.data.toList).1 h
    rw [hP] at this
    rw [this]
    omega
  have hPs : ∀ p ∈ P, p.length ≤ 1048576 := by
   rw [← hP]
   have gen : ∀ (n : Nat) (l : List UInt8), ∀ p ∈ Lib.splitK [44] 0 n l, p.length ≤ l.length := by
    intro n
    induction n with
    | zero => intro l p hp; rw [List.mem_singleton.1 hp]; exact Nat.le_refl _
    | succ n ih =>
     intro l p hp
     rw [Lib.splitK] at hp
     split at hp
     ·
      rw [List.mem_singleton.1 hp]; exact Nat.le_refl _
     ·
      rcases List.mem_cons.1 hp with rfl | hp
      ·
       rw [List.length_take]; omega
      ·
       have := ih _ p hp
       rw [List.length_drop] at this
       omega
   intro p hp
   have := gen _ _ p hp
   omega
  have key : ∀ (m i : Nat) (acc : List Int), i + m = P.length → acc.length = i →
    Ev (fun k => impl_ReadList.l0 k b acc (P.map mkB) (P.length : Int) (i : Int)) (match allN (P.drop i) with | some vs => if listT (acc ++ vs) = b then (acc ++ vs, true) else ([], false) | none => ([], false)) := by
   intro m
   induction m with
   | zero =>
    intro i acc hi ha
    rw [List.drop_eq_nil_of_le (by omega)]
    refine Ev.step (f := fun _ => some (if listT acc = b then (acc, true) else ([], false))) (fun k => ?_) (Ev.now' (by simp [allN]))
    simp only [impl_ReadList.l0]
    rw [if_neg (by omega)]
    simp only [impl_ListText.f, Option.bind_some]
    by_cases h : listT acc = b
    ·
     rw [if_pos (by rw [h]), if_pos h]
    ·
     rw [if_neg (fun e => h (by rw [← mkB_of b, ← mkB_of (listT acc), ← ByteArray.toList_eq, ← ByteArray.toList_eq, e])), if_neg h]
   | succ m ih =>
    intro i acc hi ha
    have hlt : i < P.length := by omega
    have hp := hPs _ (List.getElem_mem hlt)
    rw [List.drop_eq_getElem_cons hlt, allN]
    refine Ev.succ ?_
    simp only [impl_ReadList.l0, List.length_map, rdOf_mkB _ i hlt, if_pos (show (i : Int) < P.length by omega), if_pos (show (0 : Int) ≤ i by omega)]
    unfold impl_ReadDecimal.f
    rw [if_pos (by rw [mkB_size]; omega), rdecI_eq, mkB_toList]
    unfold numR
    cases hn : numL P[i] with
    | none => exact Ev.now _
    | some v =>
     simp only [Option.bind_some, if_true, if_pos (show acc.length < 17592186044416 by omega), w64 (x := (i : Int) + 1) (by omega) (by omega)]
     have ih2 := ih (i + 1) (acc ++ [v]) (by omega) (by rw [List.length_append, List.length_singleton]; omega)
     cases hr : allN (P.drop (i + 1)) with
     | none => rw [hr] at ih2; exact ih2
     | some vs =>
      rw [hr] at ih2
      simp only [Option.bind_some]
      simp only [List.append_assoc, List.singleton_append] at ih2
      exact ih2
  have h := key _ 0 [] (Nat.zero_add _) rfl
  rw [List.drop_zero] at h
  unfold rlistI
  cases hn : allN P with
  | none => rw [hn] at h; exact h
  | some vs =>
   rw [hn] at h
   dsimp only at h ⊢
   rw [mkB_of, List.nil_append] at *
   exact h
theorem implWid_ev (b : ByteArray) (n : Nat) (hb : b.size ≤ 1048576) (hn : n ≤ 1048576) : Ev (fun k => impl_readWithId.f k b (n : Int)) (match wid b.data.toList n with | some (p, vs) => (mkB p, vs, true) | none => ((⟨#[]⟩ : ByteArray), List.replicate n 0, false)) := by
 have hz := size_of b
 unfold impl_readWithId.f
 have hc : strings_Cut.f b (⟨#[32]⟩ : ByteArray) = some (mkB (Lib.cut b.data.toList [32]).1, mkB (Lib.cut b.data.toList [32]).2.1, (Lib.cut b.data.toList [32]).2.2) := by
  unfold strings_Cut.f
  rw [if_pos (by omega)]
  rfl
 rw [hc]
 simp only [Option.bind_some]
 have fin : ∀ (l : List Int) (ok : Bool) (p : List UInt8), Ev (fun k => (if ok = true then (if (l.length : Int) = n then (some (mkB p, l, true)) else (if (0 : Int) ≤ n then (if (n : Int).toNat ≤ 35184372088832 then (some ((⟨#[]⟩ : ByteArray), (List.replicate (n : Int).toNat (0 : Int)), false)) else (none)) else (none))) else (if (0 : Int) ≤ n then (if (n : Int).toNat ≤ 35184372088832 then (some ((⟨#[]⟩ : ByteArray), (List.replicate (n : Int).toNat 0), false)) else (none)) else (none)))) (if ok = true ∧ l.length = n then (mkB p, l, true) else ((⟨#[]⟩ : ByteArray), List.replicate n 0, false)) := by
  intro l ok p
  rw [Int.toNat_natCast, if_pos (show (0 : Int) ≤ n by omega), if_pos (show n ≤ 35184372088832 by omega)]
  cases ok with
  | false => exact Ev.now' (by simp)
  | true =>
   by_cases h : l.length = n
   ·
    simp only [if_true, if_pos (show (l.length : Int) = n by omega), h, and_self]
    exact Ev.now _
   ·
    simp only [if_true, if_neg (show ¬ (l.length : Int) = n by omega), h, and_false, if_false]
    exact Ev.now _
 rcases spl_index 32 b.data.toList with ⟨h1, h2⟩ | ⟨i, h1, h2, h3, h4⟩
 ·
  have e : Lib.cut b.data.toList [32] = (b.data.toList, [], false) := by
   unfold Lib.cut
   rw [h1, if_neg (by decide)]
  rw [e]
  dsimp only
  refine Ev.bind (implList_ev (mkB []) (by decide)) ?_
  rw [mkB_toList, rlist_nil]
  have hw : wid b.data.toList n = none := by
   unfold wid
   rw [h2]
  rw [hw]
  exact fin [] false []
 ·
  have e : Lib.cut b.data.toList [32] = (b.data.toList.take i, b.data.toList.drop (i + 1), true) := by
   unfold Lib.cut
   rw [h1, if_pos (by omega), Int.toNat_natCast]
   rfl
  rw [e]
  dsimp only
  refine Ev.bind (implList_ev (mkB (b.data.toList.drop (i + 1))) (by rw [mkB_size, List.length_drop]; omega)) ?_
  rw [mkB_toList]
  have hw : wid b.data.toList n = if (rlist (b.data.toList.drop (i + 1))).2 = true ∧ (rlist (b.data.toList.drop (i + 1))).1.length = n then some (b.data.toList.take i, (rlist (b.data.toList.drop (i + 1))).1) else none := by
   by_cases hm : (32 : UInt8) ∈ b.data.toList.drop (i + 1)
   ·
    rw [rlist_blank hm, if_neg (by simp)]
    unfold wid
    rw [h2]
    rcases spl_index 32 (b.data.toList.drop (i + 1)) with ⟨_, g2⟩ | ⟨j, _, g2, _⟩
    ·
     have := spl_free 32 (b.data.toList.drop (i + 1))
     rw [g2] at this
     exact absurd hm (this _ (List.mem_singleton.2 rfl))
    ·
     rw [g2]
     cases hs : spl 32 ((b.data.toList.drop (i + 1)).drop (j + 1)) with
     | nil => exact absurd hs (spl_ne 32 _)
     | cons a t => rfl
   ·
    unfold wid
    rw [h2, spl_none 32 _ hm]
  rw [hw]
  have hf := fin (rlist (b.data.toList.drop (i + 1))).1 (rlist (b.data.toList.drop (i + 1))).2 (b.data.toList.take i)
  by_cases hq : (rlist (b.data.toList.drop (i + 1))).2 = true ∧ (rlist (b.data.toList.drop (i + 1))).1.length = n
  ·
   rw [if_pos hq] at hf ⊢
   exact hf
  ·
   rw [if_neg hq] at hf ⊢
   exact hf
theorem specSmall_eq (c : Int) : spec_l01Small.f c = some (smallC c) := by
 unfold spec_l01Small.f smallC
 by_cases h : c ≥ 97
 ·
  rw [if_pos h, decide_eq_true (show 97 ≤ c from h)]; rfl
 ·
  rw [if_neg h, decide_eq_false (show ¬ 97 ≤ c from h)]; rfl
theorem ev_all {α ρ : Type} (L : Nat → Int → Option ρ) (xs : List α) (d : α) (p : α → Bool) (b c : ρ)
  (step : ∀ i, i < xs.length → p (xs.getD i d) = true → ∀ r, Ev (fun k => L k ((i + 1 : Nat) : Int)) r → Ev (fun k => L k (i : Int)) r)
  (bad : ∀ i, i < xs.length → p (xs.getD i d) = false → Ev (fun k => L k (i : Int)) b)
  (fin : Ev (fun k => L k (xs.length : Int)) c) : Ev (fun k => L k 0) (if xs.all p = true then c else b) := by
 have key : ∀ (m i : Nat), i + m = xs.length → Ev (fun k => L k (i : Int)) (if (xs.drop i).all p = true then c else b) := by
  intro m
  induction m with
  | zero =>
   intro i hi
   have : i = xs.length := by omega
   subst this
   rw [List.drop_length]
   exact fin
  | succ m ih =>
   intro i hi
   have hlt : i < xs.length := by omega
   rw [List.drop_eq_getElem_cons hlt, List.all_cons, ← getD_lt d hlt]
   cases hp : p (xs.getD i d) with
   | true => rw [Bool.true_and]; exact step i hlt hp _ (ih (i + 1) (by omega))
   | false => rw [Bool.false_and, if_neg (by decide)]; exact bad i hlt hp
 exact key xs.length 0 (by omega)
theorem specName_ev (b : ByteArray) : Ev (fun k => spec_l01Name.f k b) (nameOk b) := by
 unfold spec_l01Name.f nameOk
 have hz : b.toList = ([] : List UInt8) ↔ b.size = 0 := by
  rw [ByteArray.toList_eq, show b.size = b.data.toList.length from rfl]
  exact List.length_eq_zero_iff.symm
 by_cases h1 : b.size < 1
 ·
  rw [decide_eq_false (by omega), Bool.false_and]
  simp only [show b.toList = ([] : List UInt8) from hz.2 (by omega), if_true]
  exact Ev.step (f := fun _ => some false) (fun k => by simp [spec_l01Name.j0]) (Ev.now _)
 ·
  rw [decide_eq_true (show 1 ≤ b.size by omega), Bool.true_and]
  simp only [show ¬ b.toList = ([] : List UInt8) from fun e => by have := hz.1 e; omega, if_false]
  by_cases h10 : b.size > 10
  ·
   rw [decide_eq_false (show ¬ b.size ≤ 10 by omega), Bool.false_and]
   simp only [show (b.size : Int) > 10 by omega, if_true]
   exact Ev.step (f := fun _ => some false) (fun k => by simp [spec_l01Name.j0]) (Ev.now _)
  ·
   rw [decide_eq_true (show b.size ≤ 10 by omega), Bool.true_and]
   simp only [show ¬ (b.size : Int) > 10 by omega, if_false, show 0 < (b.size : Int) by omega, if_true, specSmall_eq, Option.bind_some]
   cases hs : smallC (bt b 0) with
   | false =>
    rw [Bool.false_and]
    exact Ev.step (f := fun _ => some false) (fun k => by simp [spec_l01Name.j0]) (Ev.now _)
   | true =>
    rw [Bool.true_and]
    refine Ev.step (f := fun k => spec_l01Name.l0 k b 0) (fun k => by simp [spec_l01Name.j0]) ?_
    have key := ev_all (fun k i => spec_l01Name.l0 k b i) (List.range b.size) 0 (fun i => nameC (bt b i)) false true (fun i hi hp s hs2 => ?_) (fun i hi hp => ?_) ?_
    ·
     revert key
     cases (List.range b.size).all fun i => nameC (bt b i) <;> exact id
    ·
     rw [List.length_range] at hi
     rw [getD_lt 0 (by simpa using hi), List.getElem_range] at hp
     refine Ev.step (fun k => ?_) hs2
     simp only [spec_l01Name.l0]
     rw [if_pos (by omega), if_pos (by omega), specSmall_eq, specDigit_eq]
     simp only [Option.bind_some]
     unfold nameC at hp
     cases h3 : smallC (bt b i) with
     | true => rw [if_pos rfl, w64 (by omega) (by omega)]; rfl
     | false =>
      rw [h3, Bool.false_or] at hp
      rw [hp, if_neg (by decide), if_pos rfl, w64 (by omega) (by omega)]
      rfl
    ·
     rw [List.length_range] at hi
     rw [getD_lt 0 (by simpa using hi), List.getElem_range] at hp
     refine Ev.step (f := fun _ => some false) (fun k => ?_) (Ev.now _)
     simp only [spec_l01Name.l0]
     unfold nameC at hp
     rw [Bool.or_eq_false_iff] at hp
     rw [if_pos (by omega), if_pos (by omega), specSmall_eq, specDigit_eq, hp.1, hp.2]
     rfl
    ·
     refine Ev.step (f := fun _ => some true) (fun k => ?_) (Ev.now _)
     simp only [spec_l01Name.l0]
     rw [List.length_range, if_neg (by omega)]
theorem implBytes_ev (b : ByteArray) (hb : b.size ≤ 10) : Ev (fun k => impl_onlyNameBytes.f k b) ((List.range b.size).all fun i => nameC (bt b i)) := by
 unfold impl_onlyNameBytes.f
 have key := ev_all (fun k i => impl_onlyNameBytes.l0 k b b.size i) (List.range b.size) 0 (fun i => nameC (bt b i)) false true (fun i hi hp s hs2 => ?_) (fun i hi hp => ?_) ?_
 ·
  revert key
  cases (List.range b.size).all fun i => nameC (bt b i) <;> exact id
 ·
  rw [List.length_range] at hi
  rw [getD_lt 0 (by simpa using hi), List.getElem_range] at hp
  refine Ev.step (fun k => ?_) hs2
  simp only [impl_onlyNameBytes.l0]
  rw [if_pos (by omega), if_pos (by omega), if_pos (by omega), w64 (by omega) (by omega)]
  simp only [nameC, smallC, digitC, Bool.or_eq_true, Bool.and_eq_true, decide_eq_true_eq] at hp
  split
  ·
   rw [if_neg (by omega), if_neg (by omega)]; rfl
  ·
   split
   ·
    omega
   ·
    rfl
 ·
  rw [List.length_range] at hi
  rw [getD_lt 0 (by simpa using hi), List.getElem_range] at hp
  refine Ev.step (f := fun _ => some false) (fun k => ?_) (Ev.now _)
  simp only [impl_onlyNameBytes.l0]
  rw [if_pos (by omega), if_pos (by omega), if_pos (by omega)]
  simp only [nameC, smallC, digitC, Bool.or_eq_false_iff, Bool.and_eq_false_iff, decide_eq_false_iff_not] at hp
  split
  ·
   split
   ·
    rfl
   ·
    rw [if_pos (by omega)]
  ·
   split
   ·
    rw [if_neg (by omega), if_pos (by omega)]
   ·
    omega
 ·
  refine Ev.step (f := fun _ => some true) (fun k => ?_) (Ev.now _)
  simp only [impl_onlyNameBytes.l0]
  rw [List.length_range, if_neg (by omega)]
theorem implName_ev (b : ByteArray) : Ev (fun k => impl_IsName.f k b) (nameOk b) := by
 unfold impl_IsName.f nameOk
 by_cases h1 : b.size < 1
 ·
  rw [decide_eq_false (by omega), Bool.false_and]
  simp only [show (b.size : Int) < 1 by omega, if_true]
  exact Ev.now _
 ·
  rw [decide_eq_true (show 1 ≤ b.size by omega), Bool.true_and]
  simp only [show ¬ (b.size : Int) < 1 by omega, if_false]
  by_cases h10 : b.size > 10
  ·
   rw [decide_eq_false (show ¬ b.size ≤ 10 by omega), Bool.false_and]
   simp only [show (b.size : Int) > 10 by omega, if_true]
   exact Ev.now _
  ·
   rw [decide_eq_true (show b.size ≤ 10 by omega), Bool.true_and]
   simp only [show ¬ (b.size : Int) > 10 by omega, if_false, show 0 < (b.size : Int) by omega, if_true]
   unfold smallC
   by_cases g1 : bt b 0 < 97
   ·
    simp only [g1, if_true, decide_eq_false (show ¬ 97 ≤ bt b 0 by omega), Bool.false_and]
    exact Ev.now _
   ·
    simp only [g1, if_false, decide_eq_true (show 97 ≤ bt b 0 by omega), Bool.true_and]
    by_cases g2 : bt b 0 > 122
    ·
     simp only [g2, if_true, decide_eq_false (show ¬ bt b 0 ≤ 122 by omega), Bool.false_and]
     exact Ev.now _
    ·
     simp only [g2, if_false, decide_eq_true (show bt b 0 ≤ 122 by omega), Bool.true_and]
     refine Ev.bind (implBytes_ev b (by omega)) ?_
     exact Ev.now _
def okX (p : ByteArray) (v0 v1 v2 v3 v4 v5 : Int) : Bool := nameOk p && (inB (0) (100000) v0 && (inB (max 1 v0) (100000) v1 && (inB (0) (100000) v2 && (inB (0) (100000000) v3 && (inB (1) (3) v4 && (inB (1) (3) v5))))))
def rtx (l : List UInt8) : ByteArray × Int × Int × Int × Int × Int × Int × Bool := match wid l 6 with
 | some (p, vs) => if okX (mkB p) (rd vs 0) (rd vs 1) (rd vs 2) (rd vs 3) (rd vs 4) (rd vs 5) = true then (mkB p, rd vs 0, rd vs 1, rd vs 2, rd vs 3, rd vs 4, rd vs 5, true) else (⟨#[]⟩, 0, 0, 0, 0, 0, 0, false)
 | none => (⟨#[]⟩, 0, 0, 0, 0, 0, 0, false)
theorem mx_eq (v : Int) : mx v 1 = max 1 v := by
 unfold mx
 split <;> omega
theorem mxU_eq (v : Int) : mxU 1 v = max 1 v := by
 unfold mxU
 split <;> omega
theorem specOne_ev (p : ByteArray) (v0 v1 v2 v3 v4 v5 : Int) : Ev (fun k => spec_l13One.f k [(⟨p, v0, v1, v2, v3, v4, v5⟩ : S69)]) (okX p v0 v1 v2 v3 v4 v5) := by
 unfold spec_l13One.f okX
 simp only [List.length_singleton, show 0 < 1 by decide, if_true]
 refine Ev.bind (specName_ev p) (Ev.now' ?_)
 show (nameOk p && unitR ⟨p, v0, v1, v2, v3, v4, v5⟩) = _
 unfold unitR
 rw [mxU_eq]
 rfl
theorem specUnit_ev (b : ByteArray) (hb : b.size ≤ 1048576) : Ev (fun k => spec_ReadUnit.f k b) (rtx b.data.toList) := by
 have hz := size_of b
 unfold spec_ReadUnit.f
 refine Ev.bind (specSplit_ev b 32 hb) ?_
 rw [List.length_map]
 by_cases h2 : (spl 32 b.data.toList).length = 2
 ·
  obtain ⟨p, q, hs⟩ : ∃ p q, spl 32 b.data.toList = [p, q] := by
   match h : spl 32 b.data.toList, h2 with
   | [p, q], _ => exact ⟨p, q, rfl⟩
  have hq := spl_piece (c := 32) (l := b.data.toList) (p := q) (by rw [hs]; simp)
  rw [hs]
  simp only [List.length_cons, List.length_nil, show (((0 + 1 + 1 : Nat) : Int) = 2) = True from eq_true rfl, if_true, show ((0 : Int) < ((0 + 1 + 1 : Nat) : Int)) = True from eq_true (by decide), show ((1 : Int) < ((0 + 1 + 1 : Nat) : Int)) = True from eq_true (by decide)]
  refine Ev.bind (specList_ev (mkB q) (by rw [mkB_size]; omega)) ?_
  rw [mkB_toList]
  have jt : ∀ (vs : List Int), Ev (fun k => spec_ReadUnit.j0 k [mkB p, mkB q] vs true) ((⟨#[]⟩ : ByteArray), 0, 0, 0, 0, 0, 0, false) := fun vs => Ev.step (f := fun _ => some ((⟨#[]⟩ : ByteArray), 0, 0, 0, 0, 0, 0, false)) (fun k => by simp [spec_ReadUnit.j0]) (Ev.now _)
  have hw : rtx b.data.toList = if (rlist q).2 = true ∧ (rlist q).1.length = 6 then (if okX (mkB p) (rd (rlist q).1 0) (rd (rlist q).1 1) (rd (rlist q).1 2) (rd (rlist q).1 3) (rd (rlist q).1 4) (rd (rlist q).1 5) = true then (mkB p, rd (rlist q).1 0, rd (rlist q).1 1, rd (rlist q).1 2, rd (rlist q).1 3, rd (rlist q).1 4, rd (rlist q).1 5, true) else (⟨#[]⟩, 0, 0, 0, 0, 0, 0, false)) else (⟨#[]⟩, 0, 0, 0, 0, 0, 0, false) := by
   unfold rtx wid
   rw [hs]
   dsimp only
   by_cases h : (rlist q).2 = true ∧ (rlist q).1.length = 6
   ·
    rw [if_pos h, if_pos h]
   ·
    rw [if_neg h, if_neg h]
  rw [hw]
  cases hok : (rlist q).2 with
  | false =>
   simp only [if_neg (show ¬ (false = true) by decide), false_and, if_false]
   exact jt _
  | true =>
   simp only [if_true, true_and]
   by_cases hl : (rlist q).1.length = 6
   ·
    rw [if_pos hl]
    refine Ev.succ ?_
    have e1 : (((rlist q).1.length : Int) != 6) = false := by rw [hl]; rfl
    simp only [e1, spec_ReadUnit.j0, if_neg (show ¬ (false = true) by decide), List.map_cons, List.map_nil, List.length_cons, List.length_nil, hl, show ((0 : Int) < ((0 + 1 + 1 : Nat) : Int)) = True from eq_true (by decide), show ((1 : Int) < ((0 + 1 + 1 : Nat) : Int)) = True from eq_true (by decide), show ((0 : Int) < ((6 : Nat) : Int)) = True from eq_true (by decide), show ((1 : Int) < ((6 : Nat) : Int)) = True from eq_true (by decide), show ((2 : Int) < ((6 : Nat) : Int)) = True from eq_true (by decide), show ((3 : Int) < ((6 : Nat) : Int)) = True from eq_true (by decide), show ((4 : Int) < ((6 : Nat) : Int)) = True from eq_true (by decide), show ((5 : Int) < ((6 : Nat) : Int)) = True from eq_true (by decide), if_true]
    refine Ev.bind (specOne_ev (mkB p) (rd (rlist q).1 0) (rd (rlist q).1 1) (rd (rlist q).1 2) (rd (rlist q).1 3) (rd (rlist q).1 4) (rd (rlist q).1 5)) ?_
    cases hv : okX (mkB p) (rd (rlist q).1 0) (rd (rlist q).1 1) (rd (rlist q).1 2) (rd (rlist q).1 3) (rd (rlist q).1 4) (rd (rlist q).1 5) with
    | true => exact Ev.now _
    | false => exact Ev.now _
   ·
    rw [if_neg hl]
    have e1 : (((rlist q).1.length : Int) != 6) = true := by
     rw [bne_iff_ne]
     omega
    simp only [e1]
    exact jt _
 ·
  have hw : rtx b.data.toList = (⟨#[]⟩, 0, 0, 0, 0, 0, 0, false) := by
   unfold rtx wid
   split
   ·
    rename_i h
    split at h
    ·
     rename_i p q hs
     rw [hs] at h2
     exact absurd rfl h2
    ·
     cases h
   ·
    rfl
  rw [hw]
  simp only [if_neg (show ¬ ((spl 32 b.data.toList).length : Int) = 2 by omega)]
  exact Ev.now _
theorem implValid_ev (p : ByteArray) (v0 v1 v2 v3 v4 v5 : Int) : Ev (fun k => impl_Unit_valid.f k p v0 v1 v2 v3 v4 v5) (okX p v0 v1 v2 v3 v4 v5) := by
 unfold impl_Unit_valid.f okX
 refine Ev.bind (implName_ev p) ?_
 simp only [impl_within.f, Option.bind_some, mx_eq]
 show Ev (fun _ => if nameOk p = true then (if inB (0) (100000) v0 = true then (if inB (max 1 v0) (100000) v1 = true then (if inB (0) (100000) v2 = true then (if inB (0) (100000000) v3 = true then (if inB (1) (3) v4 = true then some (inB (1) (3) v5) else some false) else some false) else some false) else some false) else some false) else some false) _
 cases nameOk p <;> cases inB (0) (100000) v0 <;> cases inB (max 1 v0) (100000) v1 <;> cases inB (0) (100000) v2 <;> cases inB (0) (100000000) v3 <;> cases inB (1) (3) v4 <;> cases inB (1) (3) v5 <;> exact Ev.now _
theorem implUnit_ev (b : ByteArray) (hb : b.size ≤ 1048576) : Ev (fun k => impl_ReadUnit.f k b) (rtx b.data.toList) := by
 have hz := size_of b
 unfold impl_ReadUnit.f
 refine Ev.bind (implWid_ev b 6 hb (by decide)) ?_
 unfold rtx
 cases hw : wid b.data.toList 6 with
 | none => exact Ev.now _
 | some pv =>
  obtain ⟨p, vs⟩ := pv
  obtain ⟨hl, ht, hne, hpl, hsz⟩ := wid_text hw
  have hvs : [rd vs 0, rd vs 1, rd vs 2, rd vs 3, rd vs 4, rd vs 5] = vs := by
   match vs, hl with
   | [x0, x1, x2, x3, x4, x5], _ => rfl
  simp only [hl, show ((0 : Int) < ((6 : Nat) : Int)) = True from eq_true (by decide), show ((1 : Int) < ((6 : Nat) : Int)) = True from eq_true (by decide), show ((2 : Int) < ((6 : Nat) : Int)) = True from eq_true (by decide), show ((3 : Int) < ((6 : Nat) : Int)) = True from eq_true (by decide), show ((4 : Int) < ((6 : Nat) : Int)) = True from eq_true (by decide), show ((5 : Int) < ((6 : Nat) : Int)) = True from eq_true (by decide), if_true]
  unfold impl_UnitText.f
  have hwi : impl_withId.f (mkB p) vs = some b := by
   unfold impl_withId.f impl_ListText.f
   simp only [Option.bind_some]
   rw [if_pos (by rw [mkB_size]; omega), if_pos (by rw [show mkB p ++ (⟨#[32]⟩ : ByteArray) = mkB (p ++ [32]) from mkB_append p [32], mkB_size, List.length_append, List.length_singleton]; omega), ht, mkB_of]
  simp only [hvs, hwi]
  refine Ev.bind (Ev.bind (r := if okX (mkB p) (rd vs 0) (rd vs 1) (rd vs 2) (rd vs 3) (rd vs 4) (rd vs 5) = true then b else ⟨#[]⟩) (implValid_ev (mkB p) (rd vs 0) (rd vs 1) (rd vs 2) (rd vs 3) (rd vs 4) (rd vs 5)) ?_) ?_
  ·
   cases okX (mkB p) (rd vs 0) (rd vs 1) (rd vs 2) (rd vs 3) (rd vs 4) (rd vs 5) with
   | true => exact Ev.now _
   | false => exact Ev.now _
  ·
   cases okX (mkB p) (rd vs 0) (rd vs 1) (rd vs 2) (rd vs 3) (rd vs 4) (rd vs 5) with
   | true =>
    simp only [if_true]
    exact Ev.now _
   | false =>
    simp only [if_neg (show ¬ (false = true) by decide)]
    rw [if_neg (fun e => hne (by rw [ByteArray.toList_eq, ByteArray.toList_eq] at e; exact e.symm))]
    exact Ev.now _
theorem FnExactReadUnit : laws_FnExactReadUnit.Pure := by
 intro a0 _
 have h : Ev (fun k => laws_FnExactReadUnit.f k a0) true := by
  unfold laws_FnExactReadUnit.f
  by_cases hb : a0.size ≤ 1048576
  ·
   simp only [if_neg (show ¬ (a0.size : Int) > 1048576 by omega)]
   refine Ev.bind (specUnit_ev a0 hb) ?_
   refine Ev.bind (implUnit_ev a0 hb) ?_
   unfold laws_eqUnit.f
   simp only [if_true, Option.bind_some, bne_self_eq_false]
   exact Ev.now _
  ·
   simp only [if_pos (show (a0.size : Int) > 1048576 by omega)]
   exact Ev.now _
 obtain ⟨K, h⟩ := h
 exact ⟨K, h K (Nat.le_refl _)⟩
end Go.Proofs.YtdbocilpcknlhaaDoor.Pure
