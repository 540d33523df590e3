/- FnLeaks: for every two draws of meters, bounds, zones, the worst zone and the texts of the meters are as the law says. -/
import Derived.Test.YtmeimhakaieagaaDoorPFnLeaksx0
import Derived.Test.YtmeimhakaieagaaDoorPFnLeaksx1
import Derived.Test.YtmeimhakaieagaaDoorPFnLeaksx2
import Derived.Test.YtmeimhakaieagaaDoorPFnLeaksx3
import Derived.Test.YtmeimhakaieagaaDoorPFnLeaksx4
import Derived.Test.YtmeimhakaieagaaDoorPFnLeaksx5
import Derived.Test.YtmeimhakaieagaaDoorPFnLeaksx6
import Derived.Test.YtmeimhakaieagaaDoorPFnLeaksx7
namespace Go.Proofs.YtmeimhakaieagaaDoor.Pure
open Go.RowKit Go.Proofs.YtmeimhakaieagaaDoor.PFnLeaks Go.Proofs.YtmeimhakaieagaaDoorW.PrintWords Go.Proofs.YtmeimhakaieagaaDoorW.PrintLast Go.Proofs.YtmeimhakaieagaaDoorW.PrintMore
set_option linter.unusedVariables false
set_option linter.unusedSimpArgs false
def dval (acc : Nat) (d : List UInt8) : Nat := d.foldl (fun a c => a * 10 + (c.toNat - 48)) acc
def isDig (c : UInt8) : Bool := decide (48 ≤ c.toNat) && decide (c.toNat ≤ 57)
theorem isDig_iff (c : UInt8) : isDig c = true ↔ 48 ≤ c.toNat ∧ c.toNat ≤ 57 := by unfold isDig; rw [Bool.and_eq_true, decide_eq_true_eq, decide_eq_true_eq]
theorem dval_snoc (d : List UInt8) (acc : Nat) (c : UInt8) : dval acc (d ++ [c]) = dval acc d * 10 + (c.toNat - 48) := by
 unfold dval
 rw [List.foldl_append]
 rfl
theorem dval_cons (acc : Nat) (x : UInt8) (d : List UInt8) : dval acc (x :: d) = dval (acc * 10 + (x.toNat - 48)) d := List.foldl_cons ..
theorem dval_ge (d : List UInt8) : ∀ (acc : Nat), acc ≤ dval acc d := by
 induction d with
 | nil => exact fun acc => Nat.le_refl _
 | cons x d ih =>
  intro acc
  rw [dval_cons]
  exact Nat.le_trans (by omega) (ih _)
theorem dval_pos (x : UInt8) (e : List UInt8) (h : x.toNat ≠ 48) (h1 : 48 ≤ x.toNat) : 1 ≤ dval 0 (x :: e) := by
 rw [dval_cons]
 exact Nat.le_trans (by omega) (dval_ge e _)
theorem dval_lt : ∀ (d : List UInt8) (acc : Nat), d.all isDig = true → dval acc d < (acc + 1) * 10 ^ d.length
 | [], acc, _ => by simp [dval]
 | x :: d, acc, h => by
  rw [List.all_cons, Bool.and_eq_true] at h
  have h1 := (isDig_iff x).1 h.1
  have h2 := dval_lt d (acc * 10 + (x.toNat - 48)) h.2
  refine Nat.lt_of_lt_of_le h2 ?_
  rw [List.length_cons, Nat.pow_succ, Nat.mul_comm (10 ^ d.length) 10, ← Nat.mul_assoc]
  exact Nat.mul_le_mul_right _ (by omega)
theorem chr_dig (c : UInt8) (h : 48 ≤ c.toNat ∧ c.toNat ≤ 57) : UInt8.ofNat (48 + (c.toNat - 48)) = c := by
 rw [show 48 + (c.toNat - 48) = c.toNat by omega]
 exact UInt8.ofNat_toNat
theorem dec_dval : ∀ (n : Nat) (d : List UInt8), d.length = n → d ≠ [] → d.all isDig = true → (d.head? ≠ some 48 ∨ d.length = 1) → Lib.decDigits (dval 0 d) = d := by
 intro n
 induction n with
 | zero => intro d hl hne; exact absurd (List.eq_nil_of_length_eq_zero hl) hne
 | succ n ih =>
  intro d hl hne ha hh
  obtain ⟨e, c, rfl⟩ : ∃ e c, d = e ++ [c] := ⟨d.dropLast, d.getLast hne, (List.dropLast_concat_getLast hne).symm⟩
  rw [List.all_append, Bool.and_eq_true] at ha
  have hc := (isDig_iff c).1 (by simpa using ha.2)
  rw [List.length_append, List.length_singleton] at hl
  rw [dval_snoc]
  by_cases he : e = []
  ·
   subst he
   rw [show dval 0 [] * 10 + (c.toNat - 48) = c.toNat - 48 by simp [dval], Lib.decDigits_one (by omega), chr_dig c hc]
   rfl
  ·
   have hh2 : e.head? ≠ some 48 := by
    rcases hh with hh | hh
    ·
     cases e with
     | nil => exact absurd rfl he
     | cons x e => simpa using hh
    ·
     rw [List.length_append, List.length_singleton] at hh
     exact absurd (List.eq_nil_of_length_eq_zero (by omega)) he
   have hp : 1 ≤ dval 0 e := by
    cases e with
    | nil => exact absurd rfl he
    | cons x e =>
     have hx : x ≠ 48 := by simpa using hh2
     rw [List.all_cons, Bool.and_eq_true] at ha
     have h1 := (isDig_iff x).1 ha.1.1
     have : x.toNat ≠ 48 := fun h => hx (UInt8.toNat_inj.1 h)
     exact dval_pos x e this h1.1
   have h2 := ih e (by omega) he ha.1 (.inl hh2)
   rw [Lib.decDigits, dif_neg (by omega), show (dval 0 e * 10 + (c.toNat - 48)) / 10 = dval 0 e by omega, show (dval 0 e * 10 + (c.toNat - 48)) % 10 = c.toNat - 48 by omega, h2, chr_dig c hc]
theorem dec_facts : ∀ (u : Nat), Lib.decDigits u ≠ [] ∧ (Lib.decDigits u).all isDig = true ∧ ((Lib.decDigits u).head? ≠ some 48 ∨ (Lib.decDigits u).length = 1) ∧ dval 0 (Lib.decDigits u) = u ∧ (u ≠ 0 → (Lib.decDigits u).head? ≠ some 48) := by
 intro u
 induction u using Nat.strongRecOn with
 | _ u ih =>
  by_cases h : u < 10
  ·
   rw [Lib.decDigits_one h]
   have hn : (UInt8.ofNat (48 + u)).toNat = 48 + u := by
    rw [UInt8.toNat_ofNat']
    omega
   refine ⟨by simp, ?_, .inr rfl, ?_, ?_⟩
   ·
    rw [List.all_cons, List.all_nil, Bool.and_true, isDig_iff, hn]
    omega
   ·
    show 0 * 10 + ((UInt8.ofNat (48 + u)).toNat - 48) = u
    rw [hn]
    omega
   ·
    intro hu e
    simp only [List.head?_cons, Option.some.injEq] at e
    rw [e] at hn
    have : (48 : UInt8).toNat = 48 := rfl
    omega
  ·
   obtain ⟨a1, a2, a3, a4, a5⟩ := ih (u / 10) (by omega)
   have e1 : Lib.decDigits u = Lib.decDigits (u / 10) ++ [UInt8.ofNat (48 + u % 10)] := by rw [Lib.decDigits, dif_neg h]
   have hn : (UInt8.ofNat (48 + u % 10)).toNat = 48 + u % 10 := by
    rw [UInt8.toNat_ofNat']
    omega
   have hh : (Lib.decDigits u).head? ≠ some 48 := by
    rw [e1]
    have h5 := a5 (by omega)
    cases hd : Lib.decDigits (u / 10) with
    | nil => exact absurd hd a1
    | cons x r => rw [hd] at h5; simpa using h5
   refine ⟨by rw [e1]; simp, ?_, .inl hh, ?_, fun _ => hh⟩
   ·
    rw [e1, List.all_append, a2, Bool.true_and, List.all_cons, List.all_nil, Bool.and_true, isDig_iff, hn]
    omega
   ·
    rw [e1, dval_snoc, a4, hn]
    omega
theorem parse_dval : ∀ (d : List UInt8) (acc : Nat), d.all isDig = true → dval acc d ≤ 999999999999999999 → Lib.parseUintM 18446744073709551615 acc d = .ok (dval acc d)
 | [], acc, _, _ => rfl
 | c :: d, acc, h, hv => by
  rw [List.all_cons, Bool.and_eq_true] at h
  have h1 := (isDig_iff c).1 h.1
  have h2 : dval (acc * 10 + (c.toNat - 48)) d ≤ 999999999999999999 := hv
  have h3 := dval_ge d (acc * 10 + (c.toNat - 48))
  unfold Lib.parseUintM
  rw [if_pos h1, if_neg (by omega), if_neg (by omega)]
  exact parse_dval d _ h.2 h2
def numD (d : List UInt8) (lone : Bool) : Option Nat := if d = [] ∨ 18 < d.length then none else if d.head? = some 48 ∧ lone = false then none else if d.all isDig = true then some (dval 0 d) else none
def numL (l : List UInt8) : Option Int := if l.head? = some 45 then (numD l.tail false).map (fun u => -(u : Int)) else (numD l (decide (l.length = 1))).map (fun u => (u : Int))
theorem numD_some {d : List UInt8} {lone : Bool} {u : Nat} (h : numD d lone = some u) : d ≠ [] ∧ d.length ≤ 18 ∧ (d.head? ≠ some 48 ∨ lone = true) ∧ d.all isDig = true ∧ u = dval 0 d := by
 unfold numD at h
 split at h
 ·
  cases h
 ·
  rename_i h1
  split at h
  ·
   cases h
  ·
   rename_i h2
   split at h
   ·
    rename_i h3
    injection h with h
    refine ⟨fun e => h1 (.inl e), Nat.le_of_not_lt fun e => h1 (.inr e), ?_, h3, h.symm⟩
    cases lone with
    | true => exact .inr rfl
    | false => exact .inl fun e => h2 ⟨e, rfl⟩
   ·
    cases h
theorem numD_lt {d : List UInt8} (h1 : d.length ≤ 18) (h2 : d.all isDig = true) : dval 0 d ≤ 999999999999999999 := by
 have h := dval_lt d 0 h2
 have h3 : 10 ^ d.length ≤ 10 ^ 18 := Nat.pow_le_pow_right (by decide) h1
 have h4 : (10 : Nat) ^ 18 = 1000000000000000000 := by decide
 omega
theorem trim45 (l : List UInt8) : Lib.trimPrefix l [45] = if l.head? = some 45 then l.tail else l := by
 unfold Lib.trimPrefix Lib.hasPrefix
 cases l with
 | nil => simp
 | cons c r =>
  by_cases h : c = 45
  ·
   subst h; simp
  ·
   have h2 : ¬ (45 : UInt8) = c := fun e => h e.symm
   simp [h, h2]
theorem dig_head {l : List UInt8} (h : l.all isDig = true) : l.head? ≠ some 45 := by
 cases l with
 | nil => simp
 | cons c r =>
  rw [List.all_cons, Bool.and_eq_true] at h
  have h1 := (isDig_iff c).1 h.1
  intro e
  simp only [List.head?_cons, Option.some.injEq] at e
  rw [e] at h1
  exact absurd h1.1 (by decide)
theorem numL_itoa {l : List UInt8} {v : Int} (h : numL l = some v) : Lib.itoa v = l ∧ (Lib.trimPrefix l [45]).length ≤ 18 ∧ Lib.parseIntB 64 l = .ok v := by
 have h64 : (2 : Nat) ^ 64 - 1 = 18446744073709551615 := by decide
 have h63 : (2 : Nat) ^ (64 - 1) = 9223372036854775808 := by decide
 rw [trim45]
 unfold numL at h
 split at h
 ·
  rename_i h45
  cases hn : numD l.tail false with
  | none => rw [hn] at h; cases h
  | some u =>
   rw [hn] at h
   replace h := Option.some.inj h
   dsimp only at h
   obtain ⟨a1, a2, a3, a4, rfl⟩ := numD_some hn
   have a3 : l.tail.head? ≠ some 48 := a3.resolve_right (by simp)
   cases l with
   | nil => simp at h45
   | cons c d =>
    simp only [List.head?_cons, Option.some.injEq] at h45
    subst h45
    simp only [List.tail_cons] at *
    have hd := dec_dval d.length d rfl a1 a4 (.inl a3)
    have hlt := numD_lt a2 a4
    have hpos : 1 ≤ dval 0 d := by
     cases d with
     | nil => exact absurd rfl a1
     | cons x e =>
      have hx : x ≠ 48 := by simpa using a3
      rw [List.all_cons, Bool.and_eq_true] at a4
      have h1 := (isDig_iff x).1 a4.1
      have : x.toNat ≠ 48 := fun h => hx (UInt8.toNat_inj.1 h)
      exact dval_pos x e this h1.1
    subst h
    refine ⟨?_, by simpa using a2, ?_⟩
    ·
     unfold Lib.itoa
     rw [if_pos (by omega), show (-(dval 0 d : Int)).natAbs = dval 0 d by omega, hd]
    ·
     unfold Lib.parseIntB Lib.parseUintB
     simp only [show ((45 : UInt8).toNat = 43 ∨ (45 : UInt8).toNat = 45) by decide, if_true, if_neg a1, h64, parse_dval d 0 a4 hlt, h63]
     rw [if_neg (by omega), if_neg (by omega)]
     simp
 ·
  rename_i h45
  cases hn : numD l (decide (l.length = 1)) with
  | none => rw [hn] at h; cases h
  | some u =>
   rw [hn] at h
   replace h := Option.some.inj h
   dsimp only at h
   obtain ⟨a1, a2, a3, a4, rfl⟩ := numD_some hn
   rw [decide_eq_true_eq] at a3
   have hd := dec_dval l.length l rfl a1 a4 a3
   have hlt := numD_lt a2 a4
   subst h
   refine ⟨?_, by rw [if_neg h45]; exact a2, ?_⟩
   ·
    unfold Lib.itoa
    rw [if_neg (by omega), Int.toNat_natCast, hd]
   ·
    cases l with
    | nil => exact absurd rfl a1
    | cons c d =>
     have h1 := (isDig_iff c).1 (by rw [List.all_cons, Bool.and_eq_true] at a4; exact a4.1)
     have e1 : ¬ c.toNat = 43 := by omega
     have e2 : ¬ c.toNat = 45 := by omega
     unfold Lib.parseIntB Lib.parseUintB
     simp only [e1, e2, or_false, if_false, if_neg a1, h64, parse_dval (c :: d) 0 a4 hlt, h63, false_and, not_false_eq_true, true_and]
     rw [if_neg (by omega)]
theorem itoa_numL {l : List UInt8} {v : Int} (h : Lib.itoa v = l) (ht : (Lib.trimPrefix l [45]).length ≤ 18) : numL l = some v := by
 rw [trim45] at ht
 unfold Lib.itoa at h
 unfold numL
 split at h
 ·
  rename_i hv
  subst h
  obtain ⟨a1, a2, a3, a4, a5⟩ := dec_facts v.natAbs
  simp only [List.head?_cons, if_true, List.tail_cons] at ht ⊢
  have hn : numD (Lib.decDigits v.natAbs) false = some v.natAbs := by
   unfold numD
   rw [if_neg (by rintro (h | h); exact a1 h; omega), if_neg (fun h => a5 (by omega) h.1), if_pos a2, a4]
  rw [hn]
  refine congrArg some ?_
  dsimp only
  omega
 ·
  rename_i hv
  subst h
  obtain ⟨a1, a2, a3, a4, a5⟩ := dec_facts v.toNat
  have h45 := dig_head a2
  rw [if_neg h45] at ht ⊢
  have hn : numD (Lib.decDigits v.toNat) (decide ((Lib.decDigits v.toNat).length = 1)) = some v.toNat := by
   unfold numD
   rw [if_neg (by rintro (h | h); exact a1 h; omega), if_neg (by rintro ⟨h, h2⟩; rw [decide_eq_false_iff_not] at h2; exact (a3.resolve_right h2) h), if_pos a2, a4]
  rw [hn]
  refine congrArg some ?_
  dsimp only
  omega
theorem w64 {x : Int} (h0 : -9223372036854775808 ≤ x) (h1 : x ≤ 9223372036854775807) : wrap64 x = x := by unfold wrap64; omega
theorem getD_mem {α : Type} {l : List α} {i : Nat} (d : α) (h : i < l.length) : l.getD i d ∈ l := by
 rw [List.getD_eq_getElem?_getD, List.getElem?_eq_getElem h]; exact List.getElem_mem _
theorem getD_lt {α : Type} {l : List α} {i : Nat} (d : α) (h : i < l.length) : l.getD i d = l[i] := by
 rw [List.getD_eq_getElem?_getD, List.getElem?_eq_getElem h]; rfl
theorem take_succ_getD {α : Type} (l : List α) (d : α) {i : Nat} (h : i < l.length) : l.take (i + 1) = l.take i ++ [l.getD i d] := by
 rw [List.take_succ_eq_append_getElem h, getD_lt d h]
def mkB (l : List UInt8) : ByteArray := ⟨l.toArray⟩
theorem mkB_toList (l : List UInt8) : (mkB l).data.toList = l := rfl
theorem mkB_of (b : ByteArray) : mkB b.data.toList = b := by unfold mkB; cases b; rfl
theorem mkB_inj {a : List UInt8} {b : ByteArray} : mkB a = b ↔ a = b.data.toList := by
 constructor
 ·
  intro h; rw [← h]; rfl
 ·
  intro h; rw [h]; exact mkB_of b
theorem mkB_append (a b : List UInt8) : mkB a ++ mkB b = mkB (a ++ b) := by
 rw [← mkB_of (mkB a ++ mkB b), ByteArray.toList_data_append]
 rfl
theorem mkB_size (l : List UInt8) : (mkB l).size = l.length := by
 show l.toArray.size = l.length
 simp
def spl (c : UInt8) : List UInt8 → List (List UInt8)
 | [] => [[]]
 | x :: r => if x = c then [] :: spl c r else match spl c r with
  | [] => [[x]]
  | h :: t => (x :: h) :: t
def att (p : List UInt8) : List (List UInt8) → List (List UInt8)
 | [] => [p]
 | h :: t => (p ++ h) :: t
theorem spl_cons (c x : UInt8) (r : List UInt8) : spl c (x :: r) = if x = c then [] :: spl c r else att [x] (spl c r) := by
 rw [spl]
 split
 ·
  rfl
 ·
  cases spl c r <;> rfl
theorem spl_ne (c : UInt8) : ∀ l, spl c l ≠ []
 | [] => by simp [spl]
 | x :: r => by
  rw [spl_cons]
  split
  ·
   simp
  ·
   cases spl c r <;> simp [att]
theorem att_length (p : List UInt8) {l : List (List UInt8)} (h : l ≠ []) : (att p l).length = l.length := by
 cases l with
 | nil => exact absurd rfl h
 | cons a t => rfl
theorem spl_len (c : UInt8) : ∀ l : List UInt8, (spl c l).length ≤ l.length + 1
 | [] => by simp [spl]
 | x :: r => by
  have := spl_len c r
  rw [spl_cons]
  split
  ·
   simp only [List.length_cons]; omega
  ·
   rw [att_length _ (spl_ne c r)]; simp only [List.length_cons]; omega
theorem spl_none (c : UInt8) : ∀ l : List UInt8, c ∉ l → spl c l = [l]
 | [], _ => rfl
 | x :: r, h => by
  rw [List.mem_cons, not_or] at h
  rw [spl_cons, if_neg (fun e => h.1 e.symm), spl_none c r h.2]
  rfl
theorem spl_first (c : UInt8) (r : List UInt8) : ∀ l : List UInt8, c ∉ l → spl c (l ++ c :: r) = l :: spl c r
 | [], _ => by rw [List.nil_append, spl_cons, if_pos rfl]
 | x :: l, h => by
  rw [List.mem_cons, not_or] at h
  rw [List.cons_append, spl_cons, if_neg (fun e => h.1 e.symm), spl_first c r l h.2]
  rfl
theorem spl_free (c : UInt8) : ∀ l : List UInt8, ∀ p ∈ spl c l, c ∉ p
 | [], p, hp => by
  rw [spl, List.mem_singleton] at hp
  rw [hp]
  simp
 | x :: r, p, hp => by
  have ih := spl_free c r
  rw [spl_cons] at hp
  split at hp
  ·
   rcases List.mem_cons.1 hp with rfl | hp
   ·
    simp
   ·
    exact ih p hp
  ·
   rename_i hx
   cases hs : spl c r with
   | nil => exact absurd hs (spl_ne c r)
   | cons a t =>
    rw [hs] at hp ih
    rcases List.mem_cons.1 hp with rfl | hp
    ·
     intro hc
     rcases List.mem_cons.1 hc with e | hc
     ·
      exact hx e.symm
     ·
      exact ih a (List.mem_cons_self ..) hc
    ·
     exact ih p (List.mem_cons_of_mem _ hp)
theorem join_cons2 (x y : List UInt8) (r : List (List UInt8)) (c : UInt8) : Lib.join (x :: y :: r) [c] = x ++ c :: Lib.join (y :: r) [c] := by
 rw [Lib.join_cons, Lib.join_cons]
 simp [Lib.joinTail]
theorem join_att (c : UInt8) (p : List UInt8) {l : List (List UInt8)} (h : l ≠ []) : Lib.join (att p l) [c] = p ++ Lib.join l [c] := by
 cases l with
 | nil => exact absurd rfl h
 | cons a t =>
  show Lib.join ((p ++ a) :: t) [c] = _
  rw [Lib.join_cons, Lib.join_cons, List.append_assoc]
theorem join_spl (c : UInt8) : ∀ l : List UInt8, Lib.join (spl c l) [c] = l
 | [] => by rw [spl, Lib.join_one]
 | x :: r => by
  have ih := join_spl c r
  rw [spl_cons]
  split
  ·
   rename_i hx
   cases hs : spl c r with
   | nil => exact absurd hs (spl_ne c r)
   | cons a t =>
    rw [join_cons2, ← hs, ih, hx]
    rfl
  ·
   rw [join_att c _ (spl_ne c r), ih]
   rfl
theorem spl_index (c : UInt8) (l : List UInt8) : (Lib.index l [c] = -1 ∧ spl c l = [l]) ∨ (∃ i : Nat, Lib.index l [c] = i ∧ spl c l = l.take i :: spl c (l.drop (i + 1)) ∧ i < l.length ∧ l = l.take i ++ c :: l.drop (i + 1)) := by
 have occ : ∀ j, Lib.occAt l [c] j = true ↔ l[j]? = some c := by
  intro j
  unfold Lib.occAt
  have : l[j]? = (l.drop j).head? := by rw [List.head?_drop]
  rw [this]
  cases l.drop j with
  | nil => simp
  | cons y t =>
   show (c == y && List.isPrefixOf [] t) = true ↔ some y = some c
   rw [Bool.and_eq_true, beq_iff_eq]
   exact ⟨fun h => congrArg some h.1.symm, fun h => ⟨(Option.some.inj h).symm, rfl⟩⟩
 rcases Lib.index_spec l [c] with ⟨h1, h2⟩ | ⟨i, h1, h2, h3, h4⟩
 ·
  refine .inl ⟨h1, spl_none c l fun hm => ?_⟩
  obtain ⟨j, hj, hj2⟩ := List.getElem_of_mem hm
  have h3 := h2 j (by omega)
  rw [(occ j).2 (by rw [List.getElem?_eq_getElem hj, hj2])] at h3
  cases h3
 ·
  have hc := (occ i).1 h3
  obtain ⟨hi, hc2⟩ := List.getElem?_eq_some_iff.1 hc
  have e : l = l.take i ++ c :: l.drop (i + 1) := by
   conv => lhs; rw [← List.take_append_drop i l]
   rw [List.drop_eq_getElem_cons hi, hc2]
  refine .inr ⟨i, h1, ?_, hi, e⟩
  conv => lhs; rw [e]
  refine spl_first c _ _ fun hm => ?_
  obtain ⟨j, hj, hj2⟩ := List.getElem_of_mem hm
  rw [List.length_take] at hj
  rw [List.getElem_take] at hj2
  have h5 := h4 j (by omega)
  rw [(occ j).2 (by rw [List.getElem?_eq_getElem (by omega), hj2])] at h5
  cases h5
theorem splK (c : UInt8) : ∀ (n : Nat) (l : List UInt8), ((spl c l).length ≤ n + 1 → Lib.splitK [c] 0 n l = spl c l) ∧ (n + 1 < (spl c l).length → (Lib.splitK [c] 0 n l).length = n + 1)
 | 0, l => by
  refine ⟨fun h => ?_, fun _ => rfl⟩
  rcases spl_index c l with ⟨_, h2⟩ | ⟨i, _, h2, _⟩
  ·
   rw [h2]; rfl
  ·
   rw [h2, List.length_cons] at h
   exact absurd (List.eq_nil_of_length_eq_zero (by omega)) (spl_ne c (l.drop (i + 1)))
 | n + 1, l => by
  rcases spl_index c l with ⟨h1, h2⟩ | ⟨i, h1, h2, _⟩
  ·
   refine ⟨fun _ => ?_, fun h => ?_⟩
   ·
    rw [Lib.splitK, h1, if_pos (by rfl), h2]
   ·
    rw [h2, List.length_singleton] at h
    omega
  ·
   have ih := splK c n (l.drop (i + 1))
   have e : Lib.splitK [c] 0 (n + 1) l = l.take i :: Lib.splitK [c] 0 n (l.drop (i + 1)) := by
    rw [Lib.splitK, h1, if_neg (by simp)]
    rfl
   rw [e, h2, List.length_cons, List.length_cons]
   exact ⟨fun h => by rw [ih.1 (by omega)], fun h => by rw [ih.2 (by omega)]⟩
theorem numL_itoa1 {l : List UInt8} {v : Int} (h : numL l = some v) : Lib.itoa v = l := (numL_itoa h).1
theorem numL_bytes {l : List UInt8} {v : Int} (h : numL l = some v) : l ≠ [] ∧ ∀ x ∈ l, x = 45 ∨ isDig x = true := by
 unfold numL at h
 split at h
 ·
  rename_i h45
  cases hn : numD l.tail false with
  | none => rw [hn] at h; cases h
  | some u =>
   obtain ⟨a1, a2, a3, a4, rfl⟩ := numD_some hn
   cases l with
   | nil => simp at h45
   | cons c d =>
    refine ⟨by simp, fun x hx => ?_⟩
    rcases List.mem_cons.1 hx with rfl | hx
    ·
     exact .inl (Option.some.inj h45)
    ·
     exact .inr (List.all_eq_true.1 a4 x hx)
 ·
  cases hn : numD l (decide (l.length = 1)) with
  | none => rw [hn] at h; cases h
  | some u =>
   obtain ⟨a1, a2, a3, a4, rfl⟩ := numD_some hn
   exact ⟨a1, fun x hx => .inr (List.all_eq_true.1 a4 x hx)⟩
def allN : List (List UInt8) → Option (List Int)
 | [] => some []
 | l :: r => (numL l).bind fun v => (allN r).bind fun vs => some (v :: vs)
theorem allN_some : ∀ {P : List (List UInt8)} {vs : List Int}, allN P = some vs → vs.length = P.length ∧ vs.map Lib.itoa = P ∧ ∀ p ∈ P, p ≠ [] ∧ ∀ x ∈ p, x = 45 ∨ isDig x = true
 | [], vs, h => by
  injection h with h
  subst h
  exact ⟨rfl, rfl, fun p hp => absurd hp (List.not_mem_nil)⟩
 | l :: r, vs, h => by
  rw [allN] at h
  cases h1 : numL l with
  | none => rw [h1] at h; cases h
  | some v =>
   cases h2 : allN r with
   | none => rw [h1, h2] at h; cases h
   | some ws =>
    rw [h1, h2] at h
    injection h with h
    subst h
    obtain ⟨a, b, c⟩ := allN_some h2
    refine ⟨by simp [a], by rw [List.map_cons, numL_itoa1 h1, b], fun p hp => ?_⟩
    rcases List.mem_cons.1 hp with rfl | hp
    ·
     exact numL_bytes h1
    ·
     exact c p hp
def rlist (l : List UInt8) : List Int × Bool := if l = [45] then ([], true) else if 64 < (spl 44 l).length then ([], false) else match allN (spl 44 l) with
 | some vs => if vs.all ltOk = true then (vs, true) else ([], false)
 | none => ([], false)
theorem mem_spl {c x : UInt8} : ∀ {l : List UInt8}, x ∈ l → x = c ∨ ∃ p ∈ spl c l, x ∈ p
 | y :: r, h => by
  rw [spl_cons]
  rcases List.mem_cons.1 h with rfl | h
  ·
   split
   ·
    rename_i e; exact .inl e
   ·
    refine .inr ?_
    cases hs : spl c r with
    | nil => exact absurd hs (spl_ne c r)
    | cons a t => exact ⟨x :: a, List.mem_cons_self .., List.mem_cons_self ..⟩
  ·
   rcases mem_spl (c := c) h with h | ⟨p, hp, hx⟩
   ·
    exact .inl h
   ·
    refine .inr ?_
    split
    ·
     exact ⟨p, List.mem_cons_of_mem _ hp, hx⟩
    ·
     cases hs : spl c r with
     | nil => exact absurd hs (spl_ne c r)
     | cons a t =>
      rw [hs] at hp
      rcases List.mem_cons.1 hp with rfl | hp
      ·
       exact ⟨y :: p, List.mem_cons_self .., List.mem_cons_of_mem _ hx⟩
      ·
       exact ⟨p, List.mem_cons_of_mem _ hp, hx⟩
theorem allN_listT {l : List UInt8} {vs : List Int} (h : allN (spl 44 l) = some vs) (hl : (spl 44 l).length ≤ 64) (ha : vs.all ltOk = true) : listT vs = mkB l := by
 obtain ⟨a, b, c⟩ := allN_some h
 have h0 : vs.length ≠ 0 := fun e => spl_ne 44 l (List.eq_nil_of_length_eq_zero (by omega))
 unfold listT
 rw [if_neg (by omega), if_neg h0, if_pos ha, b, join_spl]
 rfl
theorem rlist_text {l : List UInt8} {vs : List Int} (h : rlist l = (vs, true)) : listT vs = mkB l ∧ l ≠ [] ∧ ∀ x ∈ l, x = 44 ∨ x = 45 ∨ isDig x = true := by
 unfold rlist at h
 split at h
 ·
  rename_i e
  injection h with h _
  subst h
  rw [e]
  exact ⟨rfl, by simp, fun x hx => .inr (.inl (List.mem_singleton.1 hx))⟩
 ·
  split at h
  ·
   injection h with _ h; cases h
  ·
   rename_i h64
   cases hn : allN (spl 44 l) with
   | none => rw [hn] at h; injection h with _ h; cases h
   | some ws =>
    rw [hn] at h
    dsimp only at h
    split at h
    ·
     rename_i ha
     injection h with h _
     subst h
     refine ⟨allN_listT hn (by omega) ha, ?_, fun x hx => ?_⟩
     ·
      intro e
      subst e
      exact ((allN_some hn).2.2 [] (by simp [spl])).1 rfl
     ·
      rcases mem_spl (c := 44) hx with h | ⟨p, hp, hxp⟩
      ·
       exact .inl h
      ·
       exact .inr (((allN_some hn).2.2 p hp).2 x hxp)
    ·
     injection h with _ h; cases h
theorem rlist_blank {l : List UInt8} (h : (32 : UInt8) ∈ l) : (rlist l).2 = false := by
 cases hr : rlist l with
 | mk vs ok =>
  cases ok with
  | false => rfl
  | true =>
   rcases (rlist_text hr).2.2 32 h with h | h | h
   ·
    exact absurd h (by decide)
   ·
    exact absurd h (by decide)
   ·
    exact absurd h (by decide)
theorem rlist_nil : rlist [] = ([], false) := rfl
def rlistI (l : List UInt8) (P : List (List UInt8)) : List Int × Bool := match allN P with
 | some vs => if listT vs = mkB l then (vs, true) else ([], false)
 | none => ([], false)
theorem listT_long {vs : List Int} (h : vs.length > 64) : listT vs = mkB [] := by
 unfold listT
 rw [if_pos h]
 rfl
theorem mkB_inj2 {a b : List UInt8} : mkB a = mkB b ↔ a = b := mkB_inj
theorem rlistI_eq {l : List UInt8} (hl : l ≠ [45]) : rlistI l (Lib.splitK [44] 0 (min 65 (l.length + 1) - 1) l) = rlist l := by
 have hlen := spl_len 44 l
 have hk := splK 44 (min 65 (l.length + 1) - 1) l
 unfold rlist
 rw [if_neg hl]
 by_cases h65 : (spl 44 l).length ≤ 65
 ·
  rw [hk.1 (by omega)]
  unfold rlistI
  cases hn : allN (spl 44 l) with
  | none =>
   dsimp only
   split <;> rfl
  | some vs =>
   obtain ⟨a, b, c⟩ := allN_some hn
   have hne : l ≠ [] := by
    intro e
    subst e
    exact (c [] (by simp [spl])).1 rfl
   dsimp only
   by_cases h64 : 64 < (spl 44 l).length
   ·
    rw [if_pos h64, listT_long (by omega), if_neg (fun e => hne (mkB_inj2.1 e).symm)]
   ·
    rw [if_neg h64]
    by_cases ha : vs.all ltOk = true
    ·
     rw [if_pos ha, if_pos (allN_listT hn (by omega) ha)]
    ·
     have h0 : vs.length ≠ 0 := fun e => spl_ne 44 l (List.eq_nil_of_length_eq_zero (by omega))
     have : listT vs = mkB [] := by
      unfold listT
      rw [if_neg (by omega), if_neg h0, if_neg ha]
      rfl
     rw [if_neg ha, this, if_neg (fun e => hne (mkB_inj2.1 e).symm)]
 ·
  have hP := hk.2 (by omega)
  rw [if_pos (by omega)]
  unfold rlistI
  cases hn : allN (Lib.splitK [44] 0 (min 65 (l.length + 1) - 1) l) with
  | none => rfl
  | some vs =>
   obtain ⟨a, _, _⟩ := allN_some hn
   dsimp only
   rw [listT_long (by omega), if_neg (fun e => by have := (mkB_inj2.1 e).symm; subst this; simp [spl] at h65)]
def wid (l : List UInt8) (n : Nat) : Option (List UInt8 × List Int) := match spl 32 l with
 | [p, q] => if (rlist q).2 = true ∧ (rlist q).1.length = n then some (p, (rlist q).1) else none
 | _ => none
theorem wid_text {l p : List UInt8} {n : Nat} {vs : List Int} (h : wid l n = some (p, vs)) : vs.length = n ∧ mkB p ++ (⟨#[32]⟩ : ByteArray) ++ listT vs = mkB l ∧ l ≠ [] ∧ p.length ≤ l.length ∧ (listT vs).size ≤ l.length := by
 unfold wid at h
 split at h
 ·
  rename_i a q hs
  split at h
  ·
   rename_i hq
   injection h with h
   injection h with h1 h2
   subst h1
   subst h2
   have hj := join_spl 32 l
   rw [hs, join_cons2, Lib.join_one] at hj
   have ht := (rlist_text (l := q) (vs := (rlist q).1) (by rw [← hq.1])).1
   refine ⟨hq.2, ?_, ?_, ?_, ?_⟩
   ·
    rw [ht, ← hj]
    show mkB a ++ mkB [32] ++ mkB q = _
    rw [mkB_append, mkB_append, List.append_assoc]
    rfl
   ·
    rw [← hj]; simp
   ·
    rw [← hj]; simp
   ·
    rw [ht, mkB_size, ← hj]; simp; omega
  ·
   cases h
 ·
  cases h
theorem Ev.succ {α : Type} {g : Nat → Option α} {r : α} (h : Ev (fun k => g (k + 1)) r) : Ev g r := Ev.step (fun _ => rfl) h
theorem Ev.now' {α : Type} {a b : α} (h : a = b) : Ev (fun _ => some a) b := h ▸ Ev.now a
def smallC (c : Int) : Bool := decide (97 ≤ c) && decide (c ≤ 122)
def digitC (c : Int) : Bool := decide (48 ≤ c) && decide (c ≤ 57)
def nameC (c : Int) : Bool := smallC c || digitC c
def nameOk (b : ByteArray) : Bool := decide (1 ≤ b.size) && (decide (b.size ≤ 10) && (smallC (bt b 0) && (List.range b.size).all fun i => nameC (bt b i)))
def numR (l : List UInt8) : Int × Bool := match numL l with
 | some v => (v, true)
 | none => (0, false)
theorem size_of (b : ByteArray) : b.size = b.data.toList.length := rfl
theorem rdecI_eq (b : ByteArray) : rdecI b = numR b.data.toList := by
 unfold numR
 cases hn : numL b.data.toList with
 | some v =>
  obtain ⟨h1, h2, h3⟩ := numL_itoa hn
  unfold rdecI
  rw [h3]
  dsimp only
  rw [if_pos ⟨h2, by rw [h1]⟩]
 | none =>
  unfold rdecI
  split
  ·
   split
   ·
    rename_i v _ h
    have := itoa_numL (mkB_inj.1 h.2) h.1
    rw [hn] at this
    cases this
   ·
    rfl
  ·
   rfl
theorem toList_iff (b : ByteArray) (l : List UInt8) : b.toList = l ↔ b.data.toList = l := by rw [ByteArray.toList_eq]
theorem rdOf_mkB (P : List (List UInt8)) (i : Nat) (h : i < P.length) : rdOf ByteArray.empty (P.map mkB) (i : Int) = mkB P[i] := by
 unfold rdOf
 rw [Int.toNat_natCast, getD_lt _ (by rw [List.length_map]; exact h), List.getElem_map]
theorem implList_ev (b : ByteArray) (hb : b.size ≤ 1048576) : Ev (fun k => impl_ReadList.f k b) (rlist b.data.toList) := by
 have hz := size_of b
 unfold impl_ReadList.f
 by_cases h45 : b.data.toList = [45]
 ·
  simp only [show b.toList = ([45] : List UInt8) from (toList_iff b _).2 h45, if_true]
  unfold rlist
  rw [if_pos h45]
  exact Ev.now _
 ·
  simp only [show ¬ b.toList = ([45] : List UInt8) from fun h => h45 ((toList_iff b _).1 h), if_false]
  rw [← rlistI_eq h45]
  have hsp : strings_SplitN.f b (⟨#[44]⟩ : ByteArray) 65 = some ((Lib.splitK [44] 0 (min 65 (b.data.toList.length + 1) - 1) b.data.toList).map mkB) := by
   unfold strings_SplitN.f
   rw [if_pos ⟨by omega, by decide, by decide, by decide⟩]
   have h := Lib.splitB_data (⟨#[44]⟩ : ByteArray) 0 (min (65 : Int).toNat (b.size + 1) - 1) b
   refine congrArg some ?_
   rw [hz] at h ⊢
   rw [show (65 : Int).toNat = 65 from rfl] at h ⊢
   rw [show (⟨#[44]⟩ : ByteArray).data.toList = [44] from rfl] at h
   rw [← h, List.map_map]
   refine ((List.map_congr_left fun x _ => ?_).trans (List.map_id _)).symm
   exact mkB_of x
  rw [hsp]
  simp only [Option.bind_some, List.length_map]
  generalize hP : Lib.splitK [44] 0 (min 65 (b.data.toList.length + 1) - 1) b.data.toList = P
  have hPl : P.length ≤ 65 := by
   rcases Nat.lt_or_ge (min 65 (b.data.toList.length + 1) - 1 + 1) (spl 44 b.data.toList).length with h | h
   ·
    have := (splK 44 _ b.data.toList).2 h
    rw [hP] at this
    omega
   ·
    have := (splK 44 _ b.data.toList).1 h
    rw [hP] at this
    rw [this]
    omega
  have hPs : ∀ p ∈ P, p.length ≤ 1048576 := by
   rw [← hP]
   have gen : ∀ (n : Nat) (l : List UInt8), ∀ p ∈ Lib.splitK [44] 0 n l, p.length ≤ l.length := by
    intro n
    induction n with
    | zero => intro l p hp; rw [List.mem_singleton.1 hp]; exact Nat.le_refl _
    | succ n ih =>
     intro l p hp
     rw [Lib.splitK] at hp
     split at hp
     ·
      rw [List.mem_singleton.1 hp]; exact Nat.le_refl _
     ·
      rcases List.mem_cons.1 hp with rfl | hp
      ·
       rw [List.length_take]; omega
      ·
       have := ih _ p hp
       rw [List.length_drop] at this
       omega
   intro p hp
   have := gen _ _ p hp
   omega
  have key : ∀ (m i : Nat) (acc : List Int), i + m = P.length → acc.length = i →
    Ev (fun k => impl_ReadList.l0 k b acc (P.map mkB) (P.length : Int) (i : Int)) (match allN (P.drop i) with | some vs => if listT (acc ++ vs) = b then (acc ++ vs, true) else ([], false) | none => ([], false)) := by
   intro m
   induction m with
   | zero =>
    intro i acc hi ha
    rw [List.drop_eq_nil_of_le (by omega)]
    refine Ev.step (f := fun _ => some (if listT acc = b then (acc, true) else ([], false))) (fun k => ?_) (Ev.now' (by simp [allN]))
    simp only [impl_ReadList.l0]
    rw [if_neg (by omega)]
    simp only [impl_ListText.f, Option.bind_some]
    by_cases h : listT acc = b
    ·
     rw [if_pos (by rw [h]), if_pos h]
    ·
     rw [if_neg (fun e => h (by rw [← mkB_of b, ← mkB_of (listT acc), ← ByteArray.toList_eq, ← ByteArray.toList_eq, e])), if_neg h]
   | succ m ih =>
    intro i acc hi ha
    have hlt : i < P.length := by omega
    have hp := hPs _ (List.getElem_mem hlt)
    rw [List.drop_eq_getElem_cons hlt, allN]
    refine Ev.succ ?_
    simp only [impl_ReadList.l0, List.length_map, rdOf_mkB _ i hlt, if_pos (show (i : Int) < P.length by omega), if_pos (show (0 : Int) ≤ i by omega)]
    unfold impl_ReadDecimal.f
    rw [if_pos (by rw [mkB_size]; omega), rdecI_eq, mkB_toList]
    unfold numR
    cases hn : numL P[i] with
    | none => exact Ev.now _
    | some v =>
     simp only [Option.bind_some, if_true, if_pos (show acc.length < 17592186044416 by omega), w64 (x := (i : Int) + 1) (by omega) (by omega)]
     have ih2 := ih (i + 1) (acc ++ [v]) (by omega) (by rw [List.length_append, List.length_singleton]; omega)
     cases hr : allN (P.drop (i + 1)) with
     | none => rw [hr] at ih2; exact ih2
     | some vs =>
      rw [hr] at ih2
      simp only [Option.bind_some]
      simp only [List.append_assoc, List.singleton_append] at ih2
      exact ih2
  have h := key _ 0 [] (Nat.zero_add _) rfl
  rw [List.drop_zero] at h
  unfold rlistI
  cases hn : allN P with
  | none => rw [hn] at h; exact h
  | some vs =>
   rw [hn] at h
   dsimp only at h ⊢
   rw [mkB_of, List.nil_append] at *
   exact h
theorem implWid_ev (b : ByteArray) (n : Nat) (hb : b.size ≤ 1048576) (hn : n ≤ 1048576) : Ev (fun k => impl_readWithId.f k b (n : Int)) (match wid b.data.toList n with | some (p, vs) => (mkB p, vs, true) | none => ((⟨#[]⟩ : ByteArray), List.replicate n 0, false)) := by
 have hz := size_of b
 unfold impl_readWithId.f
 have hc : strings_Cut.f b (⟨#[32]⟩ : ByteArray) = some (mkB (Lib.cut b.data.toList [32]).1, mkB (Lib.cut b.data.toList [32]).2.1, (Lib.cut b.data.toList [32]).2.2) := by
  unfold strings_Cut.f
  rw [if_pos (by omega)]
  rfl
 rw [hc]
 simp only [Option.bind_some]
 have fin : ∀ (l : List Int) (ok : Bool) (p : List UInt8), Ev (fun k => (if ok = true then (if (l.length : Int) = n then (some (mkB p, l, true)) else (if (0 : Int) ≤ n then (if (n : Int).toNat ≤ 35184372088832 then (some ((⟨#[]⟩ : ByteArray), (List.replicate (n : Int).toNat (0 : Int)), false)) else (none)) else (none))) else (if (0 : Int) ≤ n then (if (n : Int).toNat ≤ 35184372088832 then (some ((⟨#[]⟩ : ByteArray), (List.replicate (n : Int).toNat 0), false)) else (none)) else (none)))) (if ok = true ∧ l.length = n then (mkB p, l, true) else ((⟨#[]⟩ : ByteArray), List.replicate n 0, false)) := by
  intro l ok p
  rw [Int.toNat_natCast, if_pos (show (0 : Int) ≤ n by omega), if_pos (show n ≤ 35184372088832 by omega)]
  cases ok with
  | false => exact Ev.now' (by simp)
  | true =>
   by_cases h : l.length = n
   ·
    simp only [if_true, if_pos (show (l.length : Int) = n by omega), h, and_self]
    exact Ev.now _
   ·
    simp only [if_true, if_neg (show ¬ (l.length : Int) = n by omega), h, and_false, if_false]
    exact Ev.now _
 rcases spl_index 32 b.data.toList with ⟨h1, h2⟩ | ⟨i, h1, h2, h3, h4⟩
 ·
  have e : Lib.cut b.data.toList [32] = (b.data.toList, [], false) := by
   unfold Lib.cut
   rw [h1, if_neg (by decide)]
  rw [e]
  dsimp only
  refine Ev.bind (implList_ev (mkB []) (by decide)) ?_
  rw [mkB_toList, rlist_nil]
  have hw : wid b.data.toList n = none := by
   unfold wid
   rw [h2]
  rw [hw]
  exact fin [] false []
 ·
  have e : Lib.cut b.data.toList [32] = (b.data.toList.take i, b.data.toList.drop (i + 1), true) := by
   unfold Lib.cut
   rw [h1, if_pos (by omega), Int.toNat_natCast]
   rfl
  rw [e]
  dsimp only
  refine Ev.bind (implList_ev (mkB (b.data.toList.drop (i + 1))) (by rw [mkB_size, List.length_drop]; omega)) ?_
  rw [mkB_toList]
  have hw : wid b.data.toList n = if (rlist (b.data.toList.drop (i + 1))).2 = true ∧ (rlist (b.data.toList.drop (i + 1))).1.length = n then some (b.data.toList.take i, (rlist (b.data.toList.drop (i + 1))).1) else none := by
   by_cases hm : (32 : UInt8) ∈ b.data.toList.drop (i + 1)
   ·
    rw [rlist_blank hm, if_neg (by simp)]
    unfold wid
    rw [h2]
    rcases spl_index 32 (b.data.toList.drop (i + 1)) with ⟨_, g2⟩ | ⟨j, _, g2, _⟩
    ·
     have := spl_free 32 (b.data.toList.drop (i + 1))
     rw [g2] at this
     exact absurd hm (this _ (List.mem_singleton.2 rfl))
    ·
     rw [g2]
     cases hs : spl 32 ((b.data.toList.drop (i + 1)).drop (j + 1)) with
     | nil => exact absurd hs (spl_ne 32 _)
     | cons a t => rfl
   ·
    unfold wid
    rw [h2, spl_none 32 _ hm]
  rw [hw]
  have hf := fin (rlist (b.data.toList.drop (i + 1))).1 (rlist (b.data.toList.drop (i + 1))).2 (b.data.toList.take i)
  by_cases hq : (rlist (b.data.toList.drop (i + 1))).2 = true ∧ (rlist (b.data.toList.drop (i + 1))).1.length = n
  ·
   rw [if_pos hq] at hf ⊢
   exact hf
  ·
   rw [if_neg hq] at hf ⊢
   exact hf
theorem ev_all {α ρ : Type} (L : Nat → Int → Option ρ) (xs : List α) (d : α) (p : α → Bool) (b c : ρ)
  (step : ∀ i, i < xs.length → p (xs.getD i d) = true → ∀ r, Ev (fun k => L k ((i + 1 : Nat) : Int)) r → Ev (fun k => L k (i : Int)) r)
  (bad : ∀ i, i < xs.length → p (xs.getD i d) = false → Ev (fun k => L k (i : Int)) b)
  (fin : Ev (fun k => L k (xs.length : Int)) c) : Ev (fun k => L k 0) (if xs.all p = true then c else b) := by
 have key : ∀ (m i : Nat), i + m = xs.length → Ev (fun k => L k (i : Int)) (if (xs.drop i).all p = true then c else b) := by
  intro m
  induction m with
  | zero =>
   intro i hi
   have : i = xs.length := by omega
   subst this
   rw [List.drop_length]
   exact fin
  | succ m ih =>
   intro i hi
   have hlt : i < xs.length := by omega
   rw [List.drop_eq_getElem_cons hlt, List.all_cons, ← getD_lt d hlt]
   cases hp : p (xs.getD i d) with
   | true => rw [Bool.true_and]; exact step i hlt hp _ (ih (i + 1) (by omega))
   | false => rw [Bool.false_and, if_neg (by decide)]; exact bad i hlt hp
 exact key xs.length 0 (by omega)
theorem implBytes_ev (b : ByteArray) (hb : b.size ≤ 10) : Ev (fun k => impl_onlyNameBytes.f k b) ((List.range b.size).all fun i => nameC (bt b i)) := by
 unfold impl_onlyNameBytes.f
 have key := ev_all (fun k i => impl_onlyNameBytes.l0 k b b.size i) (List.range b.size) 0 (fun i => nameC (bt b i)) false true (fun i hi hp s hs2 => ?_) (fun i hi hp => ?_) ?_
 ·
  revert key
  cases (List.range b.size).all fun i => nameC (bt b i) <;> exact id
 ·
  rw [List.length_range] at hi
  rw [getD_lt 0 (by simpa using hi), List.getElem_range] at hp
  refine Ev.step (fun k => ?_) hs2
  simp only [impl_onlyNameBytes.l0]
  rw [if_pos (by omega), if_pos (by omega), if_pos (by omega), w64 (by omega) (by omega)]
  simp only [nameC, smallC, digitC, Bool.or_eq_true, Bool.and_eq_true, decide_eq_true_eq] at hp
  split
  ·
   rw [if_neg (by omega), if_neg (by omega)]; rfl
  ·
   split
   ·
    omega
   ·
    rfl
 ·
  rw [List.length_range] at hi
  rw [getD_lt 0 (by simpa using hi), List.getElem_range] at hp
  refine Ev.step (f := fun _ => some false) (fun k => ?_) (Ev.now _)
  simp only [impl_onlyNameBytes.l0]
  rw [if_pos (by omega), if_pos (by omega), if_pos (by omega)]
  simp only [nameC, smallC, digitC, Bool.or_eq_false_iff, Bool.and_eq_false_iff, decide_eq_false_iff_not] at hp
  split
  ·
   split
   ·
    rfl
   ·
    rw [if_pos (by omega)]
  ·
   split
   ·
    rw [if_neg (by omega), if_pos (by omega)]
   ·
    omega
 ·
  refine Ev.step (f := fun _ => some true) (fun k => ?_) (Ev.now _)
  simp only [impl_onlyNameBytes.l0]
  rw [List.length_range, if_neg (by omega)]
theorem implName_ev (b : ByteArray) : Ev (fun k => impl_IsName.f k b) (nameOk b) := by
 unfold impl_IsName.f nameOk
 by_cases h1 : b.size < 1
 ·
  rw [decide_eq_false (by omega), Bool.false_and]
  simp only [show (b.size : Int) < 1 by omega, if_true]
  exact Ev.now _
 ·
  rw [decide_eq_true (show 1 ≤ b.size by omega), Bool.true_and]
  simp only [show ¬ (b.size : Int) < 1 by omega, if_false]
  by_cases h10 : b.size > 10
  ·
   rw [decide_eq_false (show ¬ b.size ≤ 10 by omega), Bool.false_and]
   simp only [show (b.size : Int) > 10 by omega, if_true]
   exact Ev.now _
  ·
   rw [decide_eq_true (show b.size ≤ 10 by omega), Bool.true_and]
   simp only [show ¬ (b.size : Int) > 10 by omega, if_false, show 0 < (b.size : Int) by omega, if_true]
   unfold smallC
   by_cases g1 : bt b 0 < 97
   ·
    simp only [g1, if_true, decide_eq_false (show ¬ 97 ≤ bt b 0 by omega), Bool.false_and]
    exact Ev.now _
   ·
    simp only [g1, if_false, decide_eq_true (show 97 ≤ bt b 0 by omega), Bool.true_and]
    by_cases g2 : bt b 0 > 122
    ·
     simp only [g2, if_true, decide_eq_false (show ¬ bt b 0 ≤ 122 by omega), Bool.false_and]
     exact Ev.now _
    ·
     simp only [g2, if_false, decide_eq_true (show bt b 0 ≤ 122 by omega), Bool.true_and]
     refine Ev.bind (implBytes_ev b (by omega)) ?_
     exact Ev.now _
def SrcOk (l0 : List Int) : Prop := l0.length ≤ 1048576 ∧ ∀ x ∈ l0, 0 ≤ x ∧ x ≤ 255
theorem wrapu64_rng (n : Int) : 0 ≤ IntKind.u64.wrap n ∧ IntKind.u64.wrap n < 18446744073709551616 := by
 have e : IntKind.u64.wrap n = n % 18446744073709551616 := by simp [IntKind.wrap, IntKind.bits, IntKind.signed]
 rw [e]
 omega
theorem seed_byte (n : Int) : 0 ≤ Go.bits .and .u64 (IntKind.u64.wrap n / 1099511627776) 255 ∧ Go.bits .and .u64 (IntKind.u64.wrap n / 1099511627776) 255 ≤ 255 := by
 obtain ⟨h0, h1⟩ := wrapu64_rng n
 have e := bits_mask .u64 32 (by decide) (fun m a b => by
  have e : IntKind.u64.wrap m = m % 18446744073709551616 := by simp [IntKind.wrap, IntKind.bits, IntKind.signed]
  rw [e]; omega) 8 (by decide) (IntKind.u64.wrap n / 1099511627776) (by omega) (by omega)
 have e2 : Go.bits .and .u64 (IntKind.u64.wrap n / 1099511627776) 255 = (IntKind.u64.wrap n / 1099511627776) % 256 := e
 rw [e2]
 omega
theorem next_eq {l0 : List Int} (h : SrcOk l0) (s t : Int) (h0 : 0 ≤ s) (h1 : s ≤ 1000000000000) : ∃ r t', spec_l00Src_next.f l0 s t = some (r, s + 1, t') ∧ 0 ≤ r ∧ r ≤ 255 := by
 obtain ⟨hl, hx⟩ := h
 unfold spec_l00Src_next.f
 rw [w64 (x := s + 1) (by omega) (by omega)]
 have hb : ∀ n, ∃ t', (some (wrap64 (Go.bits .and .u64 ((IntKind.u64.wrap n) / 1099511627776) 255), s + 1, IntKind.u64.wrap n) : Option (Int × Int × Int)) = some (wrap64 (Go.bits .and .u64 ((IntKind.u64.wrap n) / 1099511627776) 255), s + 1, t') := fun n => ⟨_, rfl⟩
 by_cases c : s < (l0.length : Int)
 ·
  rw [if_pos c, if_pos h0, if_pos (by omega)]
  have hr : 0 ≤ rd l0 s ∧ rd l0 s ≤ 255 := by
   have e : rd l0 s = l0.getD s.toNat 0 := rfl
   rw [e]
   exact hx _ (getD_mem 0 (by omega))
  rw [w64 (x := rd l0 s) (by omega) (by omega)]
  exact ⟨_, _, rfl, hr.1, hr.2⟩
 ·
  rw [if_neg c]
  by_cases d : s + 1 ≤ (l0.length : Int)
  ·
   omega
  ·
   rw [if_neg d]
   refine ⟨_, _, rfl, ?_⟩
   have hb := seed_byte ((IntKind.u64.wrap ((IntKind.u64.wrap (t * 6364136223846793005)) + 0)) + 1442695040888963407)
   rw [w64 (by omega) (by omega)]
   exact hb
theorem pick_eq {l0 : List Int} (h : SrcOk l0) (s t n : Int) (h0 : 0 ≤ s) (h1 : s ≤ 900000000000) (hn : 1 ≤ n) (hn2 : n ≤ 60000) : ∃ r s' t', spec_l00Src_pick.f l0 s t n = some (r, s', t') ∧ 0 ≤ r ∧ r < n ∧ s ≤ s' ∧ s' ≤ s + 2 := by
 unfold spec_l00Src_pick.f
 by_cases c : n ≤ 1
 ·
  rw [if_pos c]
  exact ⟨_, _, _, rfl, by omega, by omega, by omega, by omega⟩
 ·
  rw [if_neg c]
  obtain ⟨r, t', e, r0, r1⟩ := next_eq h s t h0 (by omega)
  rw [e]
  simp only [Option.bind_some]
  by_cases d : n > 200
  ·
   rw [if_pos d]
   obtain ⟨r2, t2, e2, r20, r21⟩ := next_eq h (s + 1) t' (by omega) (by omega)
   rw [e2]
   simp only [Option.bind_some]
   rw [if_neg (by omega), w64 (x := r * 256) (by omega) (by omega), w64 (by omega) (by omega)]
   refine ⟨_, _, _, rfl, Int.tmod_nonneg _ (by omega), Int.tmod_lt_of_pos _ (by omega), by omega, by omega⟩
  ·
   rw [if_neg d, if_neg (by omega)]
   refine ⟨_, _, _, rfl, Int.tmod_nonneg _ (by omega), Int.tmod_lt_of_pos _ (by omega), by omega, by omega⟩
theorem join_lenG (c : UInt8) (m : Nat) : ∀ xs : List (List UInt8), (∀ x ∈ xs, x.length ≤ m) → (Lib.join xs [c]).length ≤ (m + 1) * xs.length
 | [], _ => by simp [Lib.join_nil]
 | [y], h => by
  have := h y (by simp)
  rw [Lib.join_one, List.length_singleton]
  omega
 | y :: z :: t, h => by
  have ih := join_lenG c m (z :: t) (fun x hx => h x (List.mem_cons_of_mem _ hx))
  have := h y (by simp)
  rw [join_cons2, List.length_append, List.length_cons]
  rw [List.length_cons (a := y), Nat.mul_add, Nat.mul_one]
  omega
theorem ltOk_bd {x : Int} (h : ltOk x = true) : -1000000000000 ≤ x ∧ x ≤ 1000000000000 := by
 unfold ltOk inB at h
 simpa using h
theorem listT_len (l : List Int) : (listT l).data.toList.length ≤ 1408 := by
 unfold listT
 split
 ·
  exact Nat.zero_le _
 ·
  split
  ·
   decide
  ·
   split
   ·
    rename_i h64 _ ha
    have := join_lenG 44 21 (l.map Lib.itoa) (fun x hx => by
     obtain ⟨y, hy, rfl⟩ := List.mem_map.1 hx
     have := ltOk_bd (List.all_eq_true.1 ha y hy)
     exact Lib.itoa_length_le y (by omega) (by omega))
    rw [List.length_map] at this
    show (Lib.join (l.map Lib.itoa) [44]).length ≤ 1408
    omega
   ·
    exact Nat.zero_le _
theorem decLen : ∀ (n u : Nat), u < 10 ^ (n + 1) → (Lib.decDigits u).length ≤ n + 1
 | 0, u, h => by rw [Lib.decDigits_one (by omega)]; simp
 | n + 1, u, h => by
  by_cases hu : u < 10
  ·
   rw [Lib.decDigits_one hu]; simp
  ·
   rw [Lib.decDigits, dif_neg hu, List.length_append, List.length_singleton]
   have := decLen n (u / 10) (by rw [Nat.pow_succ] at h; omega)
   omega
theorem numL_of {v : Int} (h0 : -1000000000000 ≤ v) (h1 : v ≤ 1000000000000) : numL (Lib.itoa v) = some v := itoa_numL rfl (by
 rw [trim45]
 have hd := decLen 12 v.natAbs (by omega)
 have hd2 := decLen 12 v.toNat (by omega)
 unfold Lib.itoa
 split
 ·
  rw [if_pos (by simp), List.tail_cons]; omega
 ·
  rw [if_neg (dig_head (dec_facts _).2.1)]; omega)
theorem allN_map : ∀ vs : List Int, (∀ v ∈ vs, -1000000000000 ≤ v ∧ v ≤ 1000000000000) → allN (vs.map Lib.itoa) = some vs
 | [], _ => rfl
 | v :: r, h => by
  have h1 := h v (List.mem_cons_self ..)
  have h2 := allN_map r (fun x hx => h x (List.mem_cons_of_mem _ hx))
  simp only [List.map_cons, allN, numL_of h1.1 h1.2, h2]
  try rfl
theorem spl_join (c : UInt8) : ∀ (P : List (List UInt8)), P ≠ [] → (∀ p ∈ P, c ∉ p) → spl c (Lib.join P [c]) = P
 | [], h, _ => absurd rfl h
 | [x], _, h => by rw [Lib.join_one]; exact spl_none c x (h x (List.mem_cons_self ..))
 | x :: y :: r, _, h => by rw [join_cons2, spl_first c _ x (h x (List.mem_cons_self ..)), spl_join c (y :: r) (by simp) (fun p hp => h p (List.mem_cons_of_mem _ hp))]
theorem itoa_bytes {v : Int} (h0 : -1000000000000 ≤ v) (h1 : v ≤ 1000000000000) {c : UInt8} (hc : c ≠ 45) (hd : isDig c = false) : c ∉ Lib.itoa v := fun h => by
 rcases (numL_bytes (numL_of h0 h1)).2 c h with e | e
 ·
  exact hc e
 ·
  rw [hd] at e; cases e
theorem listT_join {vs : List Int} (hn : vs ≠ []) (hl : vs.length ≤ 64) (ha : vs.all ltOk = true) : (listT vs).data.toList = Lib.join (vs.map Lib.itoa) [44] := by
 unfold listT
 rw [if_neg (by omega), if_neg (fun e => hn (List.eq_nil_of_length_eq_zero e)), if_pos ha]
theorem rlist_of {vs : List Int} (hn : vs ≠ []) (hl : vs.length ≤ 64) (ha : vs.all ltOk = true) : rlist (listT vs).data.toList = (vs, true) := by
 have hb : ∀ v ∈ vs, -1000000000000 ≤ v ∧ v ≤ 1000000000000 := fun v hv => ltOk_bd (List.all_eq_true.1 ha v hv)
 have hs : spl 44 (Lib.join (vs.map Lib.itoa) [44]) = vs.map Lib.itoa := spl_join 44 _ (by simpa using hn) (fun p hp => by
  obtain ⟨v, hv, rfl⟩ := List.mem_map.1 hp
  exact itoa_bytes (hb v hv).1 (hb v hv).2 (by decide) (by decide))
 have hm := allN_map vs hb
 unfold rlist
 rw [listT_join hn hl ha, if_neg (fun e => by
  rw [e] at hs
  rw [← hs] at hm
  exact absurd hm (by simp [spl, allN, numL, numD])), hs, if_neg (by rw [List.length_map]; omega), hm]
 simp only [ha, if_true]
theorem listT_free {vs : List Int} (hn : vs ≠ []) (hl : vs.length ≤ 64) (ha : vs.all ltOk = true) {c : UInt8} (h1 : c ≠ 44) (h2 : c ≠ 45) (h3 : isDig c = false) : c ∉ (listT vs).data.toList := fun h => by
 rcases (rlist_text (rlist_of hn hl ha)).2.2 c h with e | e | e
 ·
  exact h1 e
 ·
  exact h2 e
 ·
  rw [h3] at e; cases e
theorem wid_of {p : List UInt8} {vs : List Int} (hp : (32 : UInt8) ∉ p) (hn : vs ≠ []) (hl : vs.length ≤ 64) (ha : vs.all ltOk = true) : wid (p ++ 32 :: (listT vs).data.toList) vs.length = some (p, vs) := by
 unfold wid
 rw [spl_first 32 _ p hp, spl_none 32 _ (listT_free hn hl ha (by decide) (by decide) (by decide))]
 dsimp only
 rw [rlist_of hn hl ha]
 simp
theorem getD_map_range {β : Type} (n : Nat) (f : Nat → β) (d : β) {i : Nat} (h : i < n) : ((List.range n).map f).getD i d = f i := by
 rw [List.getD_eq_getElem?_getD, List.getElem?_map, List.getElem?_range h]; rfl
abbrev SM := S28
def zM : SM := z28
def okX (p : ByteArray) (v0 v1 : Int) : Bool := nameOk p && (inB (0) (100000) v0 && (inB (0) (10000) v1))
def rtx (l : List UInt8) : ByteArray × Int × Int × Bool := match wid l 2 with
 | some (p, vs) => if okX (mkB p) (rd vs 0) (rd vs 1) = true then (mkB p, rd vs 0, rd vs 1, true) else (⟨#[]⟩, 0, 0, false)
 | none => (⟨#[]⟩, 0, 0, false)
theorem implValid_ev (p : ByteArray) (v0 v1 : Int) : Ev (fun k => impl_Meter_valid.f k p v0 v1) (okX p v0 v1) := by
 unfold impl_Meter_valid.f okX
 refine Ev.bind (implName_ev p) ?_
 simp only [impl_within.f, Option.bind_some]
 show Ev (fun _ => if nameOk p = true then (if inB (0) (100000) v0 = true then some (inB (0) (10000) v1) else some false) else some false) _
 cases nameOk p <;> cases inB (0) (100000) v0 <;> cases inB (0) (10000) v1 <;> exact Ev.now _
theorem implMeter_ev (b : ByteArray) (hb : b.size ≤ 1048576) : Ev (fun k => impl_ReadMeter.f k b) (rtx b.data.toList) := by
 have hz := size_of b
 unfold impl_ReadMeter.f
 refine Ev.bind (implWid_ev b 2 hb (by decide)) ?_
 unfold rtx
 cases hw : wid b.data.toList 2 with
 | none => exact Ev.now _
 | some pv =>
  obtain ⟨p, vs⟩ := pv
  obtain ⟨hl, ht, hne, hpl, hsz⟩ := wid_text hw
  have hvs : [rd vs 0, rd vs 1] = vs := by
   match vs, hl with
   | [x0, x1], _ => rfl
  simp only [hl, show ((0 : Int) < ((2 : Nat) : Int)) = True from eq_true (by decide), show ((1 : Int) < ((2 : Nat) : Int)) = True from eq_true (by decide), if_true]
  unfold impl_MeterText.f
  have hwi : impl_withId.f (mkB p) vs = some b := by
   unfold impl_withId.f impl_ListText.f
   simp only [Option.bind_some]
   rw [if_pos (by rw [mkB_size]; omega), if_pos (by rw [show mkB p ++ (⟨#[32]⟩ : ByteArray) = mkB (p ++ [32]) from mkB_append p [32], mkB_size, List.length_append, List.length_singleton]; omega), ht, mkB_of]
  simp only [hvs, hwi]
  refine Ev.bind (Ev.bind (r := if okX (mkB p) (rd vs 0) (rd vs 1) = true then b else ⟨#[]⟩) (implValid_ev (mkB p) (rd vs 0) (rd vs 1)) ?_) ?_
  ·
   cases okX (mkB p) (rd vs 0) (rd vs 1) with
   | true => exact Ev.now _
   | false => exact Ev.now _
  ·
   cases okX (mkB p) (rd vs 0) (rd vs 1) with
   | true =>
    simp only [if_true]
    exact Ev.now _
   | false =>
    simp only [if_neg (show ¬ (false = true) by decide)]
    rw [if_neg (fun e => hne (by rw [ByteArray.toList_eq, ByteArray.toList_eq] at e; exact e.symm))]
    exact Ev.now _
def sixM : List ByteArray := [(⟨#[109, 97]⟩ : ByteArray), (⟨#[109, 98]⟩ : ByteArray), (⟨#[109, 99]⟩ : ByteArray), (⟨#[109, 100]⟩ : ByteArray), (⟨#[109, 101]⟩ : ByteArray), (⟨#[109, 102]⟩ : ByteArray)]
theorem six_facts (i : Nat) (hi : i < 5) : nameOk (rdOf ByteArray.empty sixM (i : Int)) = true ∧ (rdOf ByteArray.empty sixM (i : Int)).size = 2 ∧ (32 : UInt8) ∉ (rdOf ByteArray.empty sixM (i : Int)).data.toList := by
 have : i = 0 ∨ i = 1 ∨ i = 2 ∨ i = 3 ∨ i = 4 := by omega
 rcases this with rfl | rfl | rfl | rfl | rfl <;> (unfold sixM; decide)
theorem six_ne (i j : Nat) (hi : i < 5) (hj : j < i) : ¬ rdOf ByteArray.empty sixM (j : Int) = rdOf ByteArray.empty sixM (i : Int) := fun e => by
 have e2 : (rdOf ByteArray.empty sixM (j : Int)).data.toList = (rdOf ByteArray.empty sixM (i : Int)).data.toList := by rw [e]
 revert e2
 have h1 : i = 0 ∨ i = 1 ∨ i = 2 ∨ i = 3 ∨ i = 4 := by omega
 have h2 : j = 0 ∨ j = 1 ∨ j = 2 ∨ j = 3 := by omega
 rcases h1 with rfl | rfl | rfl | rfl | rfl <;> rcases h2 with rfl | rfl | rfl | rfl <;> first | omega | (unfold sixM; decide)
def goodE (x : SM) : Prop := 1000 ≤ x.f1 ∧ x.f1 ≤ 12000 ∧ 0 ≤ x.f2 ∧ x.f2 ≤ 119
def goodM (l : List SM) : Prop := l.length ≤ 5 ∧ (∀ i, i < l.length → (l.getD i zM).f0 = rdOf ByteArray.empty sixM (i : Int) ∧ goodE (l.getD i zM)) ∧ ∀ i, i + 1 < l.length → (l.getD (i + 1) zM).f1 ≤ (l.getD i zM).f1
theorem getD_app_l {l m : List SM} {i : Nat} (h : i < l.length) : (l ++ m).getD i zM = l.getD i zM := by
 rw [List.getD_eq_getElem?_getD, List.getElem?_append_left h, ← List.getD_eq_getElem?_getD]
theorem getD_app_r (l : List SM) (x : SM) : (l ++ [x]).getD l.length zM = x := by
 rw [List.getD_eq_getElem?_getD, List.getElem?_append_right (Nat.le_refl _), Nat.sub_self]; rfl
theorem goodM_snoc {l : List SM} (h : goodM l) (hl : l.length ≤ 4) {q e : Int} (q0 : 1000 ≤ q) (q1 : q ≤ 12000) (e0 : 0 ≤ e) (e1 : e ≤ 119) (hq : ∀ i, i < l.length → q ≤ (l.getD i zM).f1) : goodM (l ++ [⟨rdOf ByteArray.empty sixM (l.length : Int), q, e⟩]) := by
 obtain ⟨h1, h2, h3⟩ := h
 refine ⟨by rw [List.length_append, List.length_singleton]; omega, fun i hi => ?_, fun i hi => ?_⟩
 ·
  rw [List.length_append, List.length_singleton] at hi
  by_cases c : i < l.length
  ·
   rw [getD_app_l c]; exact h2 i c
  ·
   obtain rfl : i = l.length := by omega
   rw [getD_app_r]
   exact ⟨rfl, q0, q1, e0, e1⟩
 ·
  rw [List.length_append, List.length_singleton] at hi
  by_cases c : i + 1 < l.length
  ·
   rw [getD_app_l c, getD_app_l (by omega)]; exact h3 i c
  ·
   rw [getD_app_l (show i < l.length by omega), show i + 1 = l.length by omega, getD_app_r]
   exact hq i (by omega)
theorem drawM_L {l0 : List Int} (h : SrcOk l0) : ∀ (m : Nat) (acc : List SM) (q s t : Int), acc.length + m ≤ 5 → goodM acc → (∀ i, i < acc.length → q ≤ (acc.getD i zM).f1) → 3000 - 300 * (acc.length : Int) ≤ q → q ≤ 12000 → 0 ≤ s → s + 10 * m ≤ 800000000000 →
  ∃ r s' t', Ev (fun k => spec_l17Draw.l0 k sixM acc q (m : Int) l0 s t) (r, s', t') ∧ goodM r := by
 intro m
 induction m with
 | zero =>
  intro acc q s t hl hg hq q0 q1 s0 s1
  refine ⟨acc, s, t, Ev.succ ?_, hg⟩
  simp only [spec_l17Draw.l0, show ¬ ((0 : Nat) : Int) > 0 by omega, if_false]
  exact Ev.now _
 | succ m ih =>
  intro acc q s t hl hg hq q0 q1 s0 s1
  obtain ⟨v, s2, t2, e2, v0, v1, g3, g4⟩ := pick_eq h s t 120 (by omega) (by omega) (by omega) (by omega)
  obtain ⟨u, s3, t3, e3, u0, u1, g5, g6⟩ := pick_eq h s2 t2 300 (by omega) (by omega) (by omega) (by omega)
  have hg2 := goodM_snoc hg (by omega) (q := q) (e := v) (by omega) (by omega) v0 (by omega) hq
  obtain ⟨r, s', t', e, hr⟩ := ih (acc ++ [⟨rdOf ByteArray.empty sixM (acc.length : Int), q, v⟩]) (q - u) s3 t3 (by rw [List.length_append, List.length_singleton]; omega) hg2 (fun i hi => by
   rw [List.length_append, List.length_singleton] at hi
   by_cases c : i < acc.length
   ·
    rw [getD_app_l c]; have := hq i c; omega
   ·
    obtain rfl : i = acc.length := by omega
    rw [getD_app_r]; show q - u ≤ q; omega) (by rw [List.length_append, List.length_singleton]; omega) (by omega) (by omega) (by omega)
  refine ⟨r, s', t', Ev.succ ?_, hr⟩
  simp only [spec_l17Draw.l0, show ((m + 1 : Nat) : Int) > 0 by omega, if_true, show (0 : Int) ≤ (acc.length : Int) by omega, show (acc.length : Int) < ((sixM.length : Nat) : Int) by simp only [sixM, List.length_cons, List.length_nil]; omega, e2, Option.bind_some, show acc.length < 4398046511104 by omega, e3]
  rw [w64 (x := q - u) (by omega) (by omega), w64 (by omega) (by omega), show ((m + 1 : Nat) : Int) - 1 = (m : Int) by omega]
  exact e
theorem drawM_ev {l0 : List Int} (h : SrcOk l0) : ∃ r, Ev (fun k => spec_R8Meters.f k l0) r ∧ goodM r := by
 unfold spec_R8Meters.f spec_l00From.f
 simp only [Option.bind_some]
 obtain ⟨v, s2, t2, e2, v0, v1, g3, g4⟩ := pick_eq h 0 0 9000 (by omega) (by omega) (by omega) (by omega)
 obtain ⟨u, s3, t3, e3, u0, u1, g5, g6⟩ := pick_eq h s2 t2 6 (by omega) (by omega) (by omega) (by omega)
 obtain ⟨m, rfl⟩ : ∃ m : Nat, u = (m : Int) := ⟨u.toNat, by omega⟩
 obtain ⟨r, s', t', e, hr⟩ := drawM_L h m [] (3000 + v) s3 t3 (by simp; omega) ⟨by simp, fun i hi => by simp at hi, fun i hi => by simp at hi⟩ (fun i hi => by simp at hi) (by simp; omega) (by omega) (by omega) (by omega)
 refine ⟨r, ?_, hr⟩
 unfold spec_l17Draw.f
 simp only [e2, e3, Option.bind_some]
 rw [w64 (by omega) (by omega)]
 exact Ev.bind e (Ev.now _)
theorem at_rng {l : List Int} (h : SrcOk l) (i n : Int) (i0 : 0 ≤ i) (n1 : 1 ≤ n) (n2 : n ≤ 100000) : ∃ r, laws_r8At.f l i n = some r ∧ 0 ≤ r ∧ r < n := by
 unfold laws_r8At.f
 by_cases c : n ≤ 1
 ·
  rw [if_pos c]; exact ⟨0, rfl, by omega, by omega⟩
 ·
  rw [if_neg c]
  by_cases d : i ≥ (l.length : Int)
  ·
   rw [if_pos d]; exact ⟨0, rfl, by omega, by omega⟩
  ·
   have hr : 0 ≤ rd l i ∧ rd l i ≤ 255 := h.2 _ (getD_mem 0 (by omega))
   rw [if_neg d, if_pos i0, if_pos (by omega), if_neg (by omega), w64 (by omega) (by omega)]
   exact ⟨_, rfl, Int.tmod_nonneg _ (by omega), Int.tmod_lt_of_pos _ (by omega)⟩
def sL (l : List SM) : Nat → Int | 0 => 0 | i + 1 => sL l i + ((l.getD i zM).f1 - (l.getD i zM).f2)
def sH (l : List SM) : Nat → Int | 0 => 0 | i + 1 => sH l i + ((l.getD i zM).f1 + (l.getD i zM).f2)
theorem s_rng {l : List SM} (h : ∀ i, i < l.length → goodE (l.getD i zM)) : ∀ i, i ≤ l.length → 0 ≤ sL l i ∧ sL l i ≤ sH l i ∧ sH l i ≤ 13000 * (i : Int)
 | 0, _ => by simp [sL, sH]
 | i + 1, hi => by
  obtain ⟨a, b, c⟩ := s_rng h i (by omega)
  obtain ⟨e0, e1, e2, e3⟩ := h i (by omega)
  simp only [sL, sH]
  refine ⟨by omega, by omega, by push_cast; omega⟩
theorem mx_r (x : Int) : mx x 0 = if x < 0 then 0 else x := by
 unfold mx; repeat' split
 all_goals omega
theorem mx_l (x : Int) : mx 0 x = if x < 0 then 0 else x := by
 unfold mx; repeat' split
 all_goals omega
theorem rdM (l : List SM) (i : Nat) : rd_T28 l (i : Int) = l.getD i zM := by unfold rd_T28; rw [Int.toNat_natCast]; rfl
theorem sums_ev (l : List SM) (hl : l.length ≤ 5) (h : ∀ i, i < l.length → goodE (l.getD i zM)) : Ev (fun k => impl_sumsOf.f k l) (sL l l.length, sH l l.length) := by
 unfold impl_sumsOf.f
 have key : ∀ (m i : Nat), i + m = l.length → Ev (fun k => impl_sumsOf.l0 k (sL l i) (sH l i) l (l.length : Int) (i : Int)) (sL l l.length, sH l l.length) := by
  intro m
  induction m with
  | zero =>
   intro i hi
   obtain rfl : i = l.length := by omega
   refine Ev.succ ?_
   simp only [impl_sumsOf.l0, show ¬ (l.length : Int) < (l.length : Int) by omega, if_false]
   exact Ev.now _
  | succ m ih =>
   intro i hi
   obtain ⟨a, b, c⟩ := s_rng h i (by omega)
   obtain ⟨e0, e1, e2, e3⟩ := h i (by omega)
   have hh := ih (i + 1) (by omega)
   refine Ev.succ ?_
   simp only [impl_sumsOf.l0, show (i : Int) < (l.length : Int) by omega, if_true, show (0 : Int) ≤ (i : Int) by omega, rdM]
   rw [w64 (x := (l.getD i zM).f1 - (l.getD i zM).f2) (by omega) (by omega), mx_r, if_neg (by omega), w64 (x := (l.getD i zM).f1 + (l.getD i zM).f2) (by omega) (by omega), w64 (by omega) (by omega), w64 (by omega) (by omega), w64 (by omega) (by omega)]
   simp only [sL, sH] at hh
   push_cast at hh
   exact hh
 have := key l.length 0 (by omega)
 simp only [sL, sH] at this
 exact this
def loB (a b : List SM) : Int := mx (sL a a.length - sH b b.length) 0
def hiB (a b : List SM) : Int := sH a a.length - sL b b.length
theorem bounds_ev (a b : List SM) (ha : a.length ≤ 5) (hb : b.length ≤ 5) (ga : ∀ i, i < a.length → goodE (a.getD i zM)) (gb : ∀ i, i < b.length → goodE (b.getD i zM)) : Ev (fun k => impl_leakBounds.f k a b) (loB a b, hiB a b) := by
 unfold impl_leakBounds.f
 refine Ev.bind (sums_ev a ha ga) ?_
 refine Ev.bind (sums_ev b hb gb) ?_
 obtain ⟨a1, a2, a3⟩ := s_rng ga a.length (Nat.le_refl _)
 obtain ⟨b1, b2, b3⟩ := s_rng gb b.length (Nat.le_refl _)
 simp only
 rw [w64 (by omega) (by omega), w64 (by omega) (by omega)]
 exact Ev.now _
theorem take_map_mem {l : List SM} (h : goodM l) (i : Nat) (hi : i < l.length) : ((l.take i).map (fun x => x.f0)).any (fun y => decide (y = (l.getD i zM).f0)) = false := by
 rw [List.any_eq_false]
 intro y hy
 obtain ⟨x, hx, rfl⟩ := List.mem_map.1 hy
 obtain ⟨j, hj, rfl⟩ := List.mem_iff_getElem.1 hx
 rw [List.length_take] at hj
 rw [List.getElem_take]
 have h1 := (h.2.1 j (by omega)).1
 rw [getD_lt zM (by omega)] at h1
 have h5 := h.1
 simp only [decide_eq_true_eq]
 rw [h1, (h.2.1 i hi).1]
 exact six_ne i j (by omega) (by omega)
theorem okX_of {x : SM} {i : Nat} (hi : i < 5) (h0 : x.f0 = rdOf ByteArray.empty sixM (i : Int)) (h : goodE x) : okX x.f0 x.f1 x.f2 = true := by
 obtain ⟨e0, e1, e2, e3⟩ := h
 unfold okX inB
 rw [h0, (six_facts i hi).1, decide_eq_true (by omega), decide_eq_true (by omega), decide_eq_true (by omega), decide_eq_true (by omega)]
 rfl
theorem valid_ev {l : List SM} (h : goodM l) : Ev (fun k => impl_ValidMeters.f k l) true := by
 have h5 := h.1
 unfold impl_ValidMeters.f
 simp only [show ¬ (l.length : Int) > 16 by omega, if_false]
 have key : ∀ (m i : Nat), i + m = l.length → Ev (fun k => impl_ValidMeters.l0 k (l.drop i) ((l.take i).map (fun x => x.f0))) true := by
  intro m
  induction m with
  | zero =>
   intro i hi
   rw [List.drop_eq_nil_of_le (by omega)]
   simp only [impl_ValidMeters.l0]
   exact Ev.now _
  | succ m ih =>
   intro i hi
   have hlt : i < l.length := by omega
   have hh := ih (i + 1) (by omega)
   rw [List.drop_eq_getElem_cons hlt, ← getD_lt zM hlt]
   rw [take_succ_getD l zM hlt, List.map_append] at hh
   obtain ⟨n0, n1⟩ := h.2.1 i hlt
   have hs : (l.getD i zM).f0.size ≤ 1048576 := by rw [n0, (six_facts i (by omega)).2.1]; decide
   simp only [impl_ValidMeters.l0, hs, if_true, take_map_mem h i hlt, Bool.false_eq_true, if_false]
   refine Ev.bind (implValid_ev _ _ _) ?_
   simp only [okX_of (by omega) n0 n1, if_true]
   exact hh
 exact key l.length 0 (by omega)
def resB (a b : List SM) : Int × Int × Int := if hiB a b < loB a b then (0, 0, 6) else (loB a b, hiB a b, 0)
theorem leakB_ev {a b : List SM} (ha : goodM a) (hb : goodM b) : Ev (fun k => impl_LeakBounds.f k a b) (resB a b) := by
 unfold impl_LeakBounds.f
 refine Ev.bind (valid_ev ha) ?_
 simp only [if_true]
 refine Ev.bind (valid_ev hb) ?_
 refine Ev.succ ?_
 simp only [impl_LeakBounds.j0, Bool.not_true, Bool.false_eq_true, if_false]
 refine Ev.bind (bounds_ev a b ha.1 hb.1 (fun i h => (ha.2.1 i h).2) (fun i h => (hb.2.1 i h).2)) ?_
 unfold resB
 by_cases c : hiB a b < loB a b
 ·
  simp only [c, if_true]; exact Ev.now _
 ·
  simp only [c, if_false]; exact Ev.now _
theorem leaking_ev {a b : List SM} (ha : goodM a) (hb : goodM b) : Ev (fun k => impl_IsLeaking.f k a b) (if hiB a b < loB a b then false else decide (loB a b > 0)) := by
 unfold impl_IsLeaking.f
 refine Ev.bind (leakB_ev ha hb) ?_
 unfold resB
 by_cases c : hiB a b < loB a b
 ·
  simp only [c, if_true, show ¬ ((6 : Int) = 0) by decide, if_false]; exact Ev.now _
 ·
  simp only [c, if_false, if_true]; exact Ev.now _
def zl (l : List SM) (j : Nat) : Int := mx ((l.getD j zM).f1 - (l.getD j zM).f2 - ((l.getD (j + 1) zM).f1 + (l.getD (j + 1) zM).f2)) 0
def zh (l : List SM) (j : Nat) : Int := (l.getD j zM).f1 + (l.getD j zM).f2 - ((l.getD (j + 1) zM).f1 - (l.getD (j + 1) zM).f2)
theorem z_rng {l : List SM} (h : goodM l) (j : Nat) (hj : j + 1 < l.length) : 0 ≤ zl l j ∧ zl l j ≤ zh l j ∧ zh l j ≤ 100000 := by
 obtain ⟨_, a0, a1, a2, a3⟩ := h.2.1 j (by omega)
 obtain ⟨_, b0, b1, b2, b3⟩ := h.2.1 (j + 1) hj
 have := h.2.2 j hj
 unfold zl zh
 rw [mx_r]
 split <;> refine ⟨?_, ?_, ?_⟩ <;> omega
theorem one_list (l : List SM) (j : Nat) (hj : j < l.length) : (l.take (j + 1)).drop j = [l.getD j zM] := by
 rw [take_succ_getD l zM hj, List.drop_append_of_le_length (by rw [List.length_take]; omega), List.drop_eq_nil_of_le (by rw [List.length_take]; omega)]
 rfl
theorem zones_ev {l : List SM} (h : goodM l) : Ev (fun k => impl_ZoneBounds.f k l) ((List.range (l.length - 1)).map (fun j => [zl l j, zh l j]), 0) := by
 have h5 := h.1
 unfold impl_ZoneBounds.f
 refine Ev.bind (valid_ev h) ?_
 simp only [if_true]
 have key : ∀ (m j : Nat), j + m = l.length - 1 → Ev (fun k => impl_ZoneBounds.l0 k l ((List.range j).map (fun j => [zl l j, zh l j])) ((j : Int) + 1)) ((List.range (l.length - 1)).map (fun j => [zl l j, zh l j]), 0) := by
  intro m
  induction m with
  | zero =>
   intro j hj
   obtain rfl : j = l.length - 1 := by omega
   refine Ev.succ ?_
   simp only [impl_ZoneBounds.l0, show ¬ (((l.length - 1 : Nat) : Int) + 1) < (l.length : Int) by omega, if_false]
   exact Ev.now _
  | succ m ih =>
   intro j hj
   have hh := ih (j + 1) (by omega)
   rw [List.range_succ, List.map_append] at hh
   obtain ⟨z0, z1, z2⟩ := z_rng h j (by omega)
   refine Ev.succ ?_
   simp only [impl_ZoneBounds.l0]
   rw [w64 (x := (j : Int) + 1 - 1) (by omega) (by omega), w64 (x := (j : Int) + 1 + 1) (by omega) (by omega), show (j : Int) + 1 - 1 = (j : Int) by omega]
   simp only [show (j : Int) + 1 < (l.length : Int) by omega, if_true, show (0 : Int) ≤ (j : Int) by omega, show (j : Int) ≤ (j : Int) + 1 by omega, show (j : Int) + 1 ≤ (l.length : Int) by omega, show (0 : Int) ≤ (j : Int) + 1 by omega, show (j : Int) + 1 ≤ (j : Int) + 1 + 1 by omega, show (j : Int) + 1 + 1 ≤ (l.length : Int) by omega, show ((j : Int) + 1).toNat = j + 1 by omega, show (j : Int).toNat = j by omega, show ((j : Int) + 1 + 1).toNat = j + 2 by omega]
   rw [one_list l j (by omega), one_list l (j + 1) (by omega)]
   refine Ev.bind (bounds_ev _ _ (by simp) (by simp) (fun i hi => ?_) (fun i hi => ?_)) ?_
   ·
    obtain rfl : i = 0 := by simpa using hi
    exact (h.2.1 j (by omega)).2
   ·
    obtain rfl : i = 0 := by simpa using hi
    exact (h.2.1 (j + 1) (by omega)).2
   ·
    have e1 : loB [l.getD j zM] [l.getD (j + 1) zM] = zl l j := by unfold loB zl; simp [sL, sH]
    have e2 : hiB [l.getD j zM] [l.getD (j + 1) zM] = zh l j := by unfold hiB zh; simp [sL, sH]
    simp only [e1, e2, show ¬ zh l j < zl l j by omega, if_false, List.length_map, List.length_range, show j < 5864062014805 by omega, if_true]
    push_cast at hh
    exact hh
 exact key (l.length - 1) 0 (by omega)
theorem rdZ (l : List SM) (n j : Nat) (hj : j < n) : rd_L6 ((List.range n).map (fun j => [zl l j, zh l j])) (j : Int) = [zl l j, zh l j] := by
 unfold rd_L6
 rw [Int.toNat_natCast, getD_map_range n _ _ hj]
theorem rd0 (a b : Int) : rd [a, b] 0 = a := rfl
theorem rd1 (a b : Int) : rd [a, b] 1 = b := rfl
theorem worst_ev {l : List SM} (h : goodM l) : ∃ w m c : Int, Ev (fun k => impl_WorstZone.f k l) (w, m, c) ∧ ((c = 3 ∧ ∀ j, j + 1 < l.length → zl l j = 0) ∨ (c = 0 ∧ 0 ≤ w ∧ w + 1 < l.length ∧ zl l w.toNat = m ∧ ∀ j, j + 1 < l.length → zl l j ≤ m)) := by
 have h5 := h.1
 obtain ⟨n, hn⟩ : ∃ n, n = l.length - 1 := ⟨_, rfl⟩
 have key : ∀ (k i : Nat) (w m : Int), i + k = n → 0 ≤ m → (0 < m → 0 ≤ w ∧ w < i ∧ zl l w.toNat = m) → (∀ j, j < i → zl l j ≤ m) →
   ∃ w' m' c' : Int, Ev (fun k => impl_WorstZone.l0 k w m ((List.range n).map (fun j => [zl l j, zh l j])) (n : Int) (i : Int)) (w', m', c') ∧ ((c' = 3 ∧ ∀ j, j < n → zl l j = 0) ∨ (c' = 0 ∧ 0 ≤ w' ∧ w' < n ∧ zl l w'.toNat = m' ∧ ∀ j, j < n → zl l j ≤ m')) := by
  intro k
  induction k with
  | zero =>
   intro i w m hi hm hw hj
   obtain rfl : i = n := by omega
   by_cases c : m = 0
   ·
    subst c
    refine ⟨0, 0, 3, Ev.succ ?_, .inl ⟨rfl, fun j hjn => ?_⟩⟩
    ·
     simp only [impl_WorstZone.l0, show ¬ (i : Int) < (i : Int) by omega, if_false, if_true]
     exact Ev.now _
    ·
     have := hj j hjn
     have := (z_rng h j (by omega)).1
     omega
   ·
    obtain ⟨w0, w1, w2⟩ := hw (by omega)
    refine ⟨w, m, 0, Ev.succ ?_, .inr ⟨rfl, w0, w1, w2, hj⟩⟩
    simp only [impl_WorstZone.l0, show ¬ (i : Int) < (i : Int) by omega, if_false, c]
    exact Ev.now _
  | succ k ih =>
   intro i w m hi hm hw hj
   by_cases c : zl l i > m
   ·
    obtain ⟨w', m', c', e, hr⟩ := ih (i + 1) (i : Int) (zl l i) (by omega) (by omega) (fun _ => ⟨by omega, by push_cast; omega, by rw [Int.toNat_natCast]⟩) (fun j hjn => by
     by_cases d : j = i
     ·
      subst d; exact Int.le_refl _
     ·
      have := hj j (by omega); omega)
    refine ⟨w', m', c', Ev.succ ?_, hr⟩
    simp only [impl_WorstZone.l0, List.length_map, List.length_range, show (i : Int) < (n : Int) by omega, if_true, show (0 : Int) ≤ (i : Int) by omega, rdZ l n i (by omega), List.length_cons, List.length_nil, show (0 : Int) < ((0 + 1 + 1 : Nat) : Int) by decide, rd0, c]
    rw [w64 (by omega) (by omega)]
    push_cast at e
    exact e
   ·
    obtain ⟨w', m', c', e, hr⟩ := ih (i + 1) w m (by omega) hm (fun hp => by obtain ⟨a, b, d⟩ := hw hp; exact ⟨a, by push_cast; omega, d⟩) (fun j hjn => by
     by_cases d : j = i
     ·
      subst d; omega
     ·
      exact hj j (by omega))
    refine ⟨w', m', c', Ev.succ ?_, hr⟩
    simp only [impl_WorstZone.l0, List.length_map, List.length_range, show (i : Int) < (n : Int) by omega, if_true, show (0 : Int) ≤ (i : Int) by omega, rdZ l n i (by omega), List.length_cons, List.length_nil, show (0 : Int) < ((0 + 1 + 1 : Nat) : Int) by decide, rd0, c, if_false]
    rw [w64 (by omega) (by omega)]
    push_cast at e
    exact e
 obtain ⟨w, m, c, e, hr⟩ := key n 0 0 0 (by omega) (by omega) (fun hp => by omega) (fun j hj => by omega)
 refine ⟨w, m, c, ?_, ?_⟩
 ·
  unfold impl_WorstZone.f
  refine Ev.bind (zones_ev h) ?_
  simp only [if_true, List.length_map, List.length_range, ← hn]
  exact e
 ·
  rcases hr with ⟨a, b⟩ | ⟨a, b, d, f, g⟩
  ·
   exact .inl ⟨a, fun j hj => b j (by omega)⟩
  ·
   exact .inr ⟨a, b, by omega, f, fun j hj => g j (by omega)⟩
def meterT (x : SM) : List UInt8 := x.f0.data.toList ++ 32 :: (listT [x.f1, x.f2]).data.toList
theorem text_ev {x : SM} {i : Nat} (hi : i < 5) (h0 : x.f0 = rdOf ByteArray.empty sixM (i : Int)) (h : goodE x) : Ev (fun k => impl_MeterText.f k x.f0 x.f1 x.f2) (mkB (meterT x)) ∧ rtx (meterT x) = (x.f0, x.f1, x.f2, true) ∧ (meterT x).length ≤ 2000 := by
 have hs := (six_facts i hi).2.1
 have hb := (six_facts i hi).2.2
 rw [← h0] at hs hb
 have hx := okX_of hi h0 h
 obtain ⟨e0, e1, e2, e3⟩ := h
 have hlt := listT_len [x.f1, x.f2]
 have hz := size_of x.f0
 refine ⟨?_, ?_, ?_⟩
 ·
  unfold impl_MeterText.f
  refine Ev.bind (implValid_ev _ _ _) ?_
  simp only [hx, if_true]
  have hwi : impl_withId.f x.f0 [x.f1, x.f2] = some (mkB (meterT x)) := by
   unfold impl_withId.f impl_ListText.f
   simp only [Option.bind_some]
   have ea : x.f0 ++ (⟨#[32]⟩ : ByteArray) = mkB (x.f0.data.toList ++ [32]) := by
    conv => lhs; rw [← mkB_of x.f0]
    exact mkB_append _ [32]
   have eb : x.f0 ++ (⟨#[32]⟩ : ByteArray) ++ listT [x.f1, x.f2] = mkB (meterT x) := by
    rw [ea]
    conv => lhs; rw [← mkB_of (listT [x.f1, x.f2])]
    rw [mkB_append, List.append_assoc]
    rfl
   rw [if_pos (by omega), if_pos (by rw [ea, mkB_size, List.length_append, List.length_singleton]; have := size_of (listT [x.f1, x.f2]); omega), eb]
  simp only [hwi, Option.bind_some]
  exact Ev.now _
 ·
  unfold rtx meterT
  have hw := wid_of (p := x.f0.data.toList) (vs := [x.f1, x.f2]) hb (by simp) (by simp) (by
   simp only [List.all_cons, List.all_nil, Bool.and_true, ltOk, inB]
   rw [decide_eq_true (by omega), decide_eq_true (by omega), decide_eq_true (by omega), decide_eq_true (by omega)]
   rfl)
  rw [show [x.f1, x.f2].length = 2 from rfl] at hw
  rw [hw]
  dsimp only
  rw [mkB_of, rd0, rd1, if_pos hx]
 ·
  unfold meterT
  rw [List.length_append, List.length_cons]
  omega
theorem law_l3 {l : List SM} (h : goodM l) : Ev (fun k => laws_FnLeaks.l3 k l 0) true := by
 have h5 := h.1
 have key : ∀ (m i : Nat), i + m = l.length → Ev (fun k => laws_FnLeaks.l3 k l (i : Int)) true := by
  intro m
  induction m with
  | zero =>
   intro i hi
   refine Ev.succ ?_
   simp only [laws_FnLeaks.l3, show ¬ (i : Int) < (l.length : Int) by omega, if_false]
   exact Ev.bind (valid_ev h) (Ev.now _)
  | succ m ih =>
   intro i hi
   have hh := ih (i + 1) (by omega)
   obtain ⟨n0, n1⟩ := h.2.1 i (by omega)
   obtain ⟨t1, t2, t3⟩ := text_ev (by omega) n0 n1
   refine Ev.succ ?_
   simp only [laws_FnLeaks.l3, show (i : Int) < (l.length : Int) by omega, if_true, show (0 : Int) ≤ (i : Int) by omega, rdM]
   refine Ev.bind t1 ?_
   refine Ev.bind (implMeter_ev _ (by rw [mkB_size]; omega)) ?_
   rw [mkB_toList, t2]
   simp only [if_true, beq_self_eq_true, Bool.not_true, Bool.or_false, Bool.false_eq_true, if_false]
   rw [w64 (by omega) (by omega)]
   push_cast at hh
   exact hh
 exact key l.length 0 (by omega)
theorem law_l2 {l : List SM} (h : goodM l) (w m c : Int) (hw : (c = 3 ∧ ∀ j, j + 1 < l.length → zl l j = 0) ∨ (c = 0 ∧ 0 ≤ w ∧ w + 1 < l.length ∧ zl l w.toNat = m ∧ ∀ j, j + 1 < l.length → zl l j ≤ m)) :
  Ev (fun k => laws_FnLeaks.l2 k l ((List.range (l.length - 1)).map (fun j => [zl l j, zh l j])) w m c 0) true := by
 have h5 := h.1
 obtain ⟨n, hn⟩ : ∃ n, n = l.length - 1 := ⟨_, rfl⟩
 rw [← hn]
 have key : ∀ (q i : Nat), i + q = n → Ev (fun k => laws_FnLeaks.l2 k l ((List.range n).map (fun j => [zl l j, zh l j])) w m c (i : Int)) true := by
  intro q
  induction q with
  | zero =>
   intro i hi
   refine Ev.succ ?_
   simp only [laws_FnLeaks.l2, List.length_map, List.length_range, show ¬ (i : Int) < (n : Int) by omega, if_false]
   exact law_l3 h
  | succ q ih =>
   intro i hi
   have hh := ih (i + 1) (by omega)
   push_cast at hh
   obtain ⟨z0, z1, z2⟩ := z_rng h i (by omega)
   refine Ev.succ ?_
   simp only [laws_FnLeaks.l2, List.length_map, List.length_range, show (i : Int) < (n : Int) by omega, if_true, show (0 : Int) ≤ (i : Int) by omega, rdZ l n i (by omega), List.length_cons, List.length_nil, show ((0 + 1 + 1 : Nat) : Int) = 2 by decide, show (0 : Int) < 2 by decide, show (1 : Int) < 2 by decide, rd0, rd1, show ¬ zl l i < 0 by omega, show ¬ zh l i < zl l i by omega, if_false]
   rw [w64 (by omega) (by omega)]
   rcases hw with ⟨rfl, hz⟩ | ⟨rfl, w0, w1, w2, w3⟩
   ·
    simp only [show ¬ ((3 : Int) = 0) by decide, if_false, hz i (by omega), if_true]
    exact hh
   ·
    have := w3 i (by omega)
    simp only [if_true, show ¬ zl l i > m by omega, if_false]
    by_cases d : (i : Int) = w
    ·
     have : zl l i = m := by rw [← w2, ← d, Int.toNat_natCast]
     simp only [d, if_true, this]
     rw [d] at hh
     exact hh
    ·
     simp only [d, if_false]
     exact hh
 exact key n 0 (by omega)
theorem law_j2 {l : List SM} (h : goodM l) : Ev (fun k => laws_FnLeaks.j2 k l false) true := by
 have h5 := h.1
 obtain ⟨w, m, c, e, hw⟩ := worst_ev h
 refine Ev.succ ?_
 simp only [laws_FnLeaks.j2, Bool.false_eq_true, if_false]
 refine Ev.bind (zones_ev h) ?_
 refine Ev.bind e ?_
 have hlen : ((l.length - 1 : Nat) : Int) = mx 0 ((l.length : Int) - 1) := by rw [mx_l]; split <;> omega
 simp only [if_true, List.length_map, List.length_range]
 rw [w64 (by omega) (by omega)]
 simp only [hlen, if_true]
 have hj3 : Ev (fun k => laws_FnLeaks.j3 k l ((List.range (l.length - 1)).map (fun j => [zl l j, zh l j])) w m c false) true := by
  refine Ev.succ ?_
  simp only [laws_FnLeaks.j3, Bool.false_eq_true, if_false]
  exact law_l2 h w m c hw
 rcases hw with ⟨rfl, hz⟩ | ⟨rfl, w0, w1, w2, w3⟩
 ·
  simp only [show ¬ ((3 : Int) = 0) by decide, if_false, if_true]
  exact hj3
 ·
  simp only [if_true, show ¬ w < 0 by omega, if_false, show ¬ w ≥ mx 0 ((l.length : Int) - 1) by rw [← hlen]; omega, decide_false]
  exact hj3
theorem law_l1 {l1 : List Int} (s1 : SrcOk l1) {a b : List SM} (ha : goodM a) (hb : goodM b) (T : Int) (t0 : sL a a.length ≤ T) (t1 : T ≤ sH a a.length) : Ev (fun k => laws_FnLeaks.l1 k l1 a b T 0) true := by
 have ga : ∀ i, i < a.length → goodE (a.getD i zM) := fun i h => (ha.2.1 i h).2
 have gb : ∀ i, i < b.length → goodE (b.getD i zM) := fun i h => (hb.2.1 i h).2
 obtain ⟨a1, a2, a3⟩ := s_rng ga a.length (Nat.le_refl _)
 have a5 := ha.1
 have b5 := hb.1
 have key : ∀ (q i : Nat) (T : Int), i + q = b.length → sL a a.length - sH b i ≤ T → T ≤ sH a a.length - sL b i → Ev (fun k => laws_FnLeaks.l1 k l1 a b T (i : Int)) true := by
  intro q
  induction q with
  | zero =>
   intro i T hi h0 h1
   obtain rfl : i = b.length := by omega
   refine Ev.succ ?_
   simp only [laws_FnLeaks.l1, show ¬ (b.length : Int) < (b.length : Int) by omega, if_false]
   refine Ev.bind (leakB_ev ha hb) ?_
   have hlk := leaking_ev ha hb
   have hlo : loB a b = if sL a a.length - sH b b.length < 0 then 0 else sL a a.length - sH b b.length := mx_r _
   have hhi : hiB a b = sH a a.length - sL b b.length := rfl
   by_cases c : hiB a b < loB a b
   ·
    have hT : ¬ T ≥ 0 := by rw [hlo, hhi] at c; split at c <;> omega
    simp only [resB, c, if_true, hT, if_false, show ¬ ((6 : Int) = 0) by decide]
    simp only [c, if_true] at hlk
    refine Ev.bind hlk ?_
    exact law_j2 ha
   ·
    simp only [resB, c, if_false, if_true]
    simp only [c, if_false] at hlk
    by_cases d : T ≥ 0
    ·
     have e1 : ¬ T < loB a b := by rw [hlo]; split <;> omega
     have e2 : ¬ T > hiB a b := by rw [hhi]; omega
     simp only [d, if_true, e1, e2, if_false]
     refine Ev.bind hlk ?_
     simp only [bne_self_eq_false]
     exact law_j2 ha
    ·
     simp only [d, if_false]
     refine Ev.bind hlk ?_
     simp only [bne_self_eq_false]
     exact law_j2 ha
  | succ q ih =>
   intro i T hi h0 h1
   obtain ⟨b1, b2, b3⟩ := s_rng gb i (by omega)
   obtain ⟨e0, e1, e2, e3⟩ := gb i (by omega)
   obtain ⟨r, er, r0, r1⟩ := at_rng s1 (20 + (i : Int)) (2 * (b.getD i zM).f2 + 1) (by omega) (by omega) (by omega)
   have hh := ih (i + 1) (T - ((b.getD i zM).f1 + (r - (b.getD i zM).f2))) (by omega) (by simp only [sH]; omega) (by simp only [sL]; omega)
   refine Ev.succ ?_
   simp only [laws_FnLeaks.l1, show (i : Int) < (b.length : Int) by omega, if_true, show (0 : Int) ≤ (i : Int) by omega, rdM]
   rw [w64 (x := 20 + (i : Int)) (by omega) (by omega), w64 (x := 2 * (b.getD i zM).f2) (by omega) (by omega), w64 (x := 2 * (b.getD i zM).f2 + 1) (by omega) (by omega)]
   simp only [er, Option.bind_some]
   rw [w64 (x := r - (b.getD i zM).f2) (by omega) (by omega), w64 (x := (b.getD i zM).f1 + (r - (b.getD i zM).f2)) (by omega) (by omega), mx_l, if_neg (by omega), w64 (by omega) (by omega), w64 (by omega) (by omega)]
   push_cast at hh
   exact hh
 exact key b.length 0 T (by omega) (by simp only [sH]; omega) (by simp only [sL]; omega)
theorem law_l0 {l0 l1 : List Int} (s0 : SrcOk l0) (s1 : SrcOk l1) {a b : List SM} (ha : goodM a) (hb : goodM b) : Ev (fun k => laws_FnLeaks.l0 k l0 l1 a b 0 0) true := by
 have ga : ∀ i, i < a.length → goodE (a.getD i zM) := fun i h => (ha.2.1 i h).2
 have a5 := ha.1
 have key : ∀ (q i : Nat) (T : Int), i + q = a.length → sL a i ≤ T → T ≤ sH a i → Ev (fun k => laws_FnLeaks.l0 k l0 l1 a b T (i : Int)) true := by
  intro q
  induction q with
  | zero =>
   intro i T hi h0 h1
   obtain rfl : i = a.length := by omega
   refine Ev.succ ?_
   simp only [laws_FnLeaks.l0, show ¬ (a.length : Int) < (a.length : Int) by omega, if_false]
   exact law_l1 s1 ha hb T h0 h1
  | succ q ih =>
   intro i T hi h0 h1
   obtain ⟨b1, b2, b3⟩ := s_rng ga i (by omega)
   obtain ⟨e0, e1, e2, e3⟩ := ga i (by omega)
   obtain ⟨r, er, r0, r1⟩ := at_rng s0 (20 + (i : Int)) (2 * (a.getD i zM).f2 + 1) (by omega) (by omega) (by omega)
   have hh := ih (i + 1) (T + ((a.getD i zM).f1 + (r - (a.getD i zM).f2))) (by omega) (by simp only [sL]; omega) (by simp only [sH]; omega)
   refine Ev.succ ?_
   simp only [laws_FnLeaks.l0, show (i : Int) < (a.length : Int) by omega, if_true, show (0 : Int) ≤ (i : Int) by omega, rdM]
   rw [w64 (x := 20 + (i : Int)) (by omega) (by omega), w64 (x := 2 * (a.getD i zM).f2) (by omega) (by omega), w64 (x := 2 * (a.getD i zM).f2 + 1) (by omega) (by omega)]
   simp only [er, Option.bind_some]
   rw [w64 (x := r - (a.getD i zM).f2) (by omega) (by omega), w64 (x := (a.getD i zM).f1 + (r - (a.getD i zM).f2)) (by omega) (by omega), mx_l, if_neg (by omega), w64 (by omega) (by omega), w64 (by omega) (by omega)]
   push_cast at hh
   exact hh
 exact key a.length 0 0 (by omega) (by simp only [sL]; omega) (by simp only [sH]; omega)
theorem lit_u8 {x : Int} (h : (Lit.int .u8 x).wf = true) : 0 ≤ x ∧ x ≤ 255 := by
 have h2 : (decide (IntKind.u8.min ≤ x) && decide (x ≤ IntKind.u8.max)) = true := h
 simp only [Bool.and_eq_true, decide_eq_true_eq] at h2
 exact h2
theorem FnLeaks : laws_FnLeaks.Pure := by
 intro l0 l1 _ _ hw0 _ _ hw1
 have main : Ev (fun k => laws_FnLeaks.f k l0 l1) true := by
  unfold laws_FnLeaks.f laws_r8Long.f
  by_cases c0 : (l0.length : Int) > 1048576
  ·
   simp only [c0, if_true, Option.bind_some]
   exact Ev.now _
  ·
   by_cases c1 : (l1.length : Int) > 1048576
   ·
    simp only [c0, if_false, c1, decide_true, Option.bind_some, if_true]
    exact Ev.now _
   ·
    simp only [c0, if_false, c1, decide_false, Option.bind_some, Bool.false_eq_true]
    have s0 : SrcOk l0 := ⟨by omega, fun x hx => lit_u8 (hw0 x hx)⟩
    have s1 : SrcOk l1 := ⟨by omega, fun x hx => lit_u8 (hw1 x hx)⟩
    obtain ⟨a, ea, ga⟩ := drawM_ev s0
    obtain ⟨b, eb, gb⟩ := drawM_ev s1
    refine Ev.bind ea (Ev.bind eb ?_)
    exact law_l0 s0 s1 ga gb
 obtain ⟨K, hK⟩ := main
 exact ⟨K, hK K (Nat.le_refl _)⟩
end Go.Proofs.YtmeimhakaieagaaDoor.Pure
