/- The program's ReadBuilding returns what the reference's returns, for all arguments. No condition beyond the statement's own; the card ties the laid variables of Go's library to the program's text: a table of powers of ten, two errors, and one size. -/
import Derived.Test.YtgkmfgkkmahmoaaDoorPFnExactReadBuildingx0
import Derived.Test.YtgkmfgkkmahmoaaDoorPFnExactReadBuildingx1
import Derived.Test.YtgkmfgkkmahmoaaDoorPFnExactReadBuildingx2
import Derived.Test.YtgkmfgkkmahmoaaDoorPFnExactReadBuildingx3
import Derived.Test.YtgkmfgkkmahmoaaDoorPFnExactReadBuildingx4
import Derived.Test.YtgkmfgkkmahmoaaDoorPFnExactReadBuildingx5
import Derived.Test.YtgkmfgkkmahmoaaDoorPFnExactReadBuildingx6
import Derived.Test.YtgkmfgkkmahmoaaDoorPFnExactReadBuildingx7
import Derived.Test.YtgkmfgkkmahmoaaDoorPFnExactReadBuildingx8
import Derived.Test.YtgkmfgkkmahmoaaDoorPFnExactReadBuildingx9
import Derived.Test.YtgkmfgkkmahmoaaDoorPFnExactReadBuildingx10
namespace Go.Proofs.YtgkmfgkkmahmoaaDoor.Pure
open Go.RowKit Go.Proofs.YtgkmfgkkmahmoaaDoor.PFnExactReadBuilding Go.Proofs.YtgkmfgkkmahmoaaDoorW.PrintWords Go.Proofs.YtgkmfgkkmahmoaaDoorW.PrintLast Go.Proofs.YtgkmfgkkmahmoaaDoorW.PrintMore
set_option linter.unusedVariables false
set_option linter.unusedSimpArgs false
def dval (acc : Nat) (d : List UInt8) : Nat := d.foldl (fun a c => a * 10 + (c.toNat - 48)) acc
def isDig (c : UInt8) : Bool := decide (48 ≤ c.toNat) && decide (c.toNat ≤ 57)
theorem isDig_iff (c : UInt8) : isDig c = true ↔ 48 ≤ c.toNat ∧ c.toNat ≤ 57 := by unfold isDig; rw [Bool.and_eq_true, decide_eq_true_eq, decide_eq_true_eq]
theorem dval_snoc (d : List UInt8) (acc : Nat) (c : UInt8) : dval acc (d ++ [c]) = dval acc d * 10 + (c.toNat - 48) := by
 unfold dval
 rw [List.foldl_append]
 rfl
theorem dval_cons (acc : Nat) (x : UInt8) (d : List UInt8) : dval acc (x :: d) = dval (acc * 10 + (x.toNat - 48)) d := List.foldl_cons ..
theorem dval_ge (d : List UInt8) : ∀ (acc : Nat), acc ≤ dval acc d := by
 induction d with
 | nil => exact fun acc => Nat.le_refl _
 | cons x d ih =>
  intro acc
  rw [dval_cons]
  exact Nat.le_trans (by omega) (ih _)
theorem dval_pos (x : UInt8) (e : List UInt8) (h : x.toNat ≠ 48) (h1 : 48 ≤ x.toNat) : 1 ≤ dval 0 (x :: e) := by
 rw [dval_cons]
 exact Nat.le_trans (by omega) (dval_ge e _)
theorem dval_lt : ∀ (d : List UInt8) (acc : Nat), d.all isDig = true → dval acc d < (acc + 1) * 10 ^ d.length
 | [], acc, _ => by simp [dval]
 | x :: d, acc, h => by
  rw [List.all_cons, Bool.and_eq_true] at h
  have h1 := (isDig_iff x).1 h.1
  have h2 := dval_lt d (acc * 10 + (x.toNat - 48)) h.2
  refine Nat.lt_of_lt_of_le h2 ?_
  rw [List.length_cons, Nat.pow_succ, Nat.mul_comm (10 ^ d.length) 10, ← Nat.mul_assoc]
  exact Nat.mul_le_mul_right _ (by omega)
theorem chr_dig (c : UInt8) (h : 48 ≤ c.toNat ∧ c.toNat ≤ 57) : UInt8.ofNat (48 + (c.toNat - 48)) = c := by
 rw [show 48 + (c.toNat - 48) = c.toNat by omega]
 exact UInt8.ofNat_toNat
theorem dec_dval : ∀ (n : Nat) (d : List UInt8), d.length = n → d ≠ [] → d.all isDig = true → (d.head? ≠ some 48 ∨ d.length = 1) → Lib.decDigits (dval 0 d) = d := by
 intro n
 induction n with
 | zero => intro d hl hne; exact absurd (List.eq_nil_of_length_eq_zero hl) hne
 | succ n ih =>
  intro d hl hne ha hh
  obtain ⟨e, c, rfl⟩ : ∃ e c, d = e ++ [c] := ⟨d.dropLast, d.getLast hne, (List.dropLast_concat_getLast hne).symm⟩
  rw [List.all_append, Bool.and_eq_true] at ha
  have hc := (isDig_iff c).1 (by simpa using ha.2)
  rw [List.length_append, List.length_singleton] at hl
  rw [dval_snoc]
  by_cases he : e = []
  ·
   subst he
   rw [show dval 0 [] * 10 + (c.toNat - 48) = c.toNat - 48 by simp [dval], Lib.decDigits_one (by omega), chr_dig c hc]
   rfl
  ·
   have hh2 : e.head? ≠ some 48 := by
    rcases hh with hh | hh
    ·
     cases e with
     | nil => exact absurd rfl he
     | cons x e => simpa using hh
    ·
     rw [List.length_append, List.length_singleton] at hh
     exact absurd (List.eq_nil_of_length_eq_zero (by omega)) he
   have hp : 1 ≤ dval 0 e := by
    cases e with
    | nil => exact absurd rfl he
    | cons x e =>
     have hx : x ≠ 48 := by simpa using hh2
     rw [List.all_cons, Bool.and_eq_true] at ha
     have h1 := (isDig_iff x).1 ha.1.1
     have : x.toNat ≠ 48 := fun h => hx (UInt8.toNat_inj.1 h)
     exact dval_pos x e this h1.1
   have h2 := ih e (by omega) he ha.1 (.inl hh2)
   rw [Lib.decDigits, dif_neg (by omega), show (dval 0 e * 10 + (c.toNat - 48)) / 10 = dval 0 e by omega, show (dval 0 e * 10 + (c.toNat - 48)) % 10 = c.toNat - 48 by omega, h2, chr_dig c hc]
theorem dec_facts : ∀ (u : Nat), Lib.decDigits u ≠ [] ∧ (Lib.decDigits u).all isDig = true ∧ ((Lib.decDigits u).head? ≠ some 48 ∨ (Lib.decDigits u).length = 1) ∧ dval 0 (Lib.decDigits u) = u ∧ (u ≠ 0 → (Lib.decDigits u).head? ≠ some 48) := by
 intro u
 induction u using Nat.strongRecOn with
 | _ u ih =>
  by_cases h : u < 10
  ·
   rw [Lib.decDigits_one h]
   have hn : (UInt8.ofNat (48 + u)).toNat = 48 + u := by
    rw [UInt8.toNat_ofNat']
    omega
   refine ⟨by simp, ?_, .inr rfl, ?_, ?_⟩
   ·
    rw [List.all_cons, List.all_nil, Bool.and_true, isDig_iff, hn]
    omega
   ·
    show 0 * 10 + ((UInt8.ofNat (48 + u)).toNat - 48) = u
    rw [hn]
    omega
   ·
    intro hu e
    simp only [List.head?_cons, Option.some.injEq] at e
    rw [e] at hn
    have : (48 : UInt8).toNat = 48 := rfl
    omega
  ·
   obtain ⟨a1, a2, a3, a4, a5⟩ := ih (u / 10) (by omega)
   have e1 : Lib.decDigits u = Lib.decDigits (u / 10) ++ [UInt8.ofNat (48 + u % 10)] := by rw [Lib.decDigits, dif_neg h]
   have hn : (UInt8.ofNat (48 + u % 10)).toNat = 48 + u % 10 := by
    rw [UInt8.toNat_ofNat']
    omega
   have hh : (Lib.decDigits u).head? ≠ some 48 := by
    rw [e1]
    have h5 := a5 (by omega)
    cases hd : Lib.decDigits (u / 10) with
    | nil => exact absurd hd a1
    | cons x r => rw [hd] at h5; simpa using h5
   refine ⟨by rw [e1]; simp, ?_, .inl hh, ?_, fun _ => hh⟩
   ·
    rw [e1, List.all_append, a2, Bool.true_and, List.all_cons, List.all_nil, Bool.and_true, isDig_iff, hn]
    omega
   ·
    rw [e1, dval_snoc, a4, hn]
    omega
theorem parse_dval : ∀ (d : List UInt8) (acc : Nat), d.all isDig = true → dval acc d ≤ 999999999999999999 → Lib.parseUintM 18446744073709551615 acc d = .ok (dval acc d)
 | [], acc, _, _ => rfl
 | c :: d, acc, h, hv => by
  rw [List.all_cons, Bool.and_eq_true] at h
  have h1 := (isDig_iff c).1 h.1
  have h2 : dval (acc * 10 + (c.toNat - 48)) d ≤ 999999999999999999 := hv
  have h3 := dval_ge d (acc * 10 + (c.toNat - 48))
  unfold Lib.parseUintM
  rw [if_pos h1, if_neg (by omega), if_neg (by omega)]
  exact parse_dval d _ h.2 h2
def numD (d : List UInt8) (lone : Bool) : Option Nat := if d = [] ∨ 18 < d.length then none else if d.head? = some 48 ∧ lone = false then none else if d.all isDig = true then some (dval 0 d) else none
def numL (l : List UInt8) : Option Int := if l.head? = some 45 then (numD l.tail false).map (fun u => -(u : Int)) else (numD l (decide (l.length = 1))).map (fun u => (u : Int))
theorem numD_some {d : List UInt8} {lone : Bool} {u : Nat} (h : numD d lone = some u) : d ≠ [] ∧ d.length ≤ 18 ∧ (d.head? ≠ some 48 ∨ lone = true) ∧ d.all isDig = true ∧ u = dval 0 d := by
 unfold numD at h
 split at h
 ·
  cases h
 ·
  rename_i h1
  split at h
  ·
   cases h
  ·
   rename_i h2
   split at h
   ·
    rename_i h3
    injection h with h
    refine ⟨fun e => h1 (.inl e), Nat.le_of_not_lt fun e => h1 (.inr e), ?_, h3, h.symm⟩
    cases lone with
    | true => exact .inr rfl
    | false => exact .inl fun e => h2 ⟨e, rfl⟩
   ·
    cases h
theorem numD_lt {d : List UInt8} (h1 : d.length ≤ 18) (h2 : d.all isDig = true) : dval 0 d ≤ 999999999999999999 := by
 have h := dval_lt d 0 h2
 have h3 : 10 ^ d.length ≤ 10 ^ 18 := Nat.pow_le_pow_right (by decide) h1
 have h4 : (10 : Nat) ^ 18 = 1000000000000000000 := by decide
 omega
theorem trim45 (l : List UInt8) : Lib.trimPrefix l [45] = if l.head? = some 45 then l.tail else l := by
 unfold Lib.trimPrefix Lib.hasPrefix
 cases l with
 | nil => simp
 | cons c r =>
  by_cases h : c = 45
  ·
   subst h; simp
  ·
   have h2 : ¬ (45 : UInt8) = c := fun e => h e.symm
   simp [h, h2]
theorem dig_head {l : List UInt8} (h : l.all isDig = true) : l.head? ≠ some 45 := by
 cases l with
 | nil => simp
 | cons c r =>
  rw [List.all_cons, Bool.and_eq_true] at h
  have h1 := (isDig_iff c).1 h.1
  intro e
  simp only [List.head?_cons, Option.some.injEq] at e
  rw [e] at h1
  exact absurd h1.1 (by decide)
theorem numL_itoa {l : List UInt8} {v : Int} (h : numL l = some v) : Lib.itoa v = l ∧ (Lib.trimPrefix l [45]).length ≤ 18 ∧ Lib.parseIntB 64 l = .ok v := by
 have h64 : (2 : Nat) ^ 64 - 1 = 18446744073709551615 := by decide
 have h63 : (2 : Nat) ^ (64 - 1) = 9223372036854775808 := by decide
 rw [trim45]
 unfold numL at h
 split at h
 ·
  rename_i h45
  cases hn : numD l.tail false with
  | none => rw [hn] at h; cases h
  | some u =>
   rw [hn] at h
   replace h := Option.some.inj h
   dsimp only at h
   obtain ⟨a1, a2, a3, a4, rfl⟩ := numD_some hn
   have a3 : l.tail.head? ≠ some 48 := a3.resolve_right (by simp)
   cases l with
   | nil => simp at h45
   | cons c d =>
    simp only [List.head?_cons, Option.some.injEq] at h45
    subst h45
    simp only [List.tail_cons] at *
    have hd := dec_dval d.length d rfl a1 a4 (.inl a3)
    have hlt := numD_lt a2 a4
    have hpos : 1 ≤ dval 0 d := by
     cases d with
     | nil => exact absurd rfl a1
     | cons x e =>
      have hx : x ≠ 48 := by simpa using a3
      rw [List.all_cons, Bool.and_eq_true] at a4
      have h1 := (isDig_iff x).1 a4.1
      have : x.toNat ≠ 48 := fun h => hx (UInt8.toNat_inj.1 h)
      exact dval_pos x e this h1.1
    subst h
    refine ⟨?_, by simpa using a2, ?_⟩
    ·
     unfold Lib.itoa
     rw [if_pos (by omega), show (-(dval 0 d : Int)).natAbs = dval 0 d by omega, hd]
    ·
     unfold Lib.parseIntB Lib.parseUintB
     simp only [show ((45 : UInt8).toNat = 43 ∨ (45 : UInt8).toNat = 45) by decide, if_true, if_neg a1, h64, parse_dval d 0 a4 hlt, h63]
     rw [if_neg (by omega), if_neg (by omega)]
     simp
 ·
  rename_i h45
  cases hn : numD l (decide (l.length = 1)) with
  | none => rw [hn] at h; cases h
  | some u =>
   rw [hn] at h
   replace h := Option.some.inj h
   dsimp only at h
   obtain ⟨a1, a2, a3, a4, rfl⟩ := numD_some hn
   rw [decide_eq_true_eq] at a3
   have hd := dec_dval l.length l rfl a1 a4 a3
   have hlt := numD_lt a2 a4
   subst h
   refine ⟨?_, by rw [if_neg h45]; exact a2, ?_⟩
   ·
    unfold Lib.itoa
    rw [if_neg (by omega), Int.toNat_natCast, hd]
   ·
    cases l with
    | nil => exact absurd rfl a1
    | cons c d =>
     have h1 := (isDig_iff c).1 (by rw [List.all_cons, Bool.and_eq_true] at a4; exact a4.1)
     have e1 : ¬ c.toNat = 43 := by omega
     have e2 : ¬ c.toNat = 45 := by omega
     unfold Lib.parseIntB Lib.parseUintB
     simp only [e1, e2, or_false, if_false, if_neg a1, h64, parse_dval (c :: d) 0 a4 hlt, h63, false_and, not_false_eq_true, true_and]
     rw [if_neg (by omega)]
theorem itoa_numL {l : List UInt8} {v : Int} (h : Lib.itoa v = l) (ht : (Lib.trimPrefix l [45]).length ≤ 18) : numL l = some v := by
 rw [trim45] at ht
 unfold Lib.itoa at h
 unfold numL
 split at h
 ·
  rename_i hv
  subst h
  obtain ⟨a1, a2, a3, a4, a5⟩ := dec_facts v.natAbs
  simp only [List.head?_cons, if_true, List.tail_cons] at ht ⊢
  have hn : numD (Lib.decDigits v.natAbs) false = some v.natAbs := by
   unfold numD
   rw [if_neg (by rintro (h | h); exact a1 h; omega), if_neg (fun h => a5 (by omega) h.1), if_pos a2, a4]
  rw [hn]
  refine congrArg some ?_
  dsimp only
  omega
 ·
  rename_i hv
  subst h
  obtain ⟨a1, a2, a3, a4, a5⟩ := dec_facts v.toNat
  have h45 := dig_head a2
  rw [if_neg h45] at ht ⊢
  have hn : numD (Lib.decDigits v.toNat) (decide ((Lib.decDigits v.toNat).length = 1)) = some v.toNat := by
   unfold numD
   rw [if_neg (by rintro (h | h); exact a1 h; omega), if_neg (by rintro ⟨h, h2⟩; rw [decide_eq_false_iff_not] at h2; exact (a3.resolve_right h2) h), if_pos a2, a4]
  rw [hn]
  refine congrArg some ?_
  dsimp only
  omega
theorem w64 {x : Int} (h0 : -9223372036854775808 ≤ x) (h1 : x ≤ 9223372036854775807) : wrap64 x = x := by unfold wrap64; omega
theorem rd_nat (l : List Int) (i : Nat) : rd l (i : Int) = l.getD i 0 := by unfold rd; rw [Int.toNat_natCast]
theorem getD_lt {α : Type} {l : List α} {i : Nat} (d : α) (h : i < l.length) : l.getD i d = l[i] := by
 rw [List.getD_eq_getElem?_getD, List.getElem?_eq_getElem h]; rfl
theorem ev_eq {α : Type} (L : Nat → List α → List α → Int → Option Bool) (xs : List α) 
  (step : ∀ i, i < xs.length → Ev (fun k => L k xs xs ((i + 1 : Nat) : Int)) true → Ev (fun k => L k xs xs (i : Int)) true)
  (fin : Ev (fun k => L k xs xs (xs.length : Int)) true) : Ev (fun k => L k xs xs 0) true := by
 have key : ∀ (m i : Nat), i + m = xs.length → Ev (fun k => L k xs xs (i : Int)) true := by
  intro m
  induction m with
  | zero =>
   intro i hi
   have : i = xs.length := by omega
   subst this
   exact fin
  | succ m ih => intro i hi; exact step i (by omega) (ih (i + 1) (by omega))
 exact key xs.length 0 (by omega)
def mkB (l : List UInt8) : ByteArray := ⟨l.toArray⟩
theorem mkB_toList (l : List UInt8) : (mkB l).data.toList = l := rfl
theorem mkB_of (b : ByteArray) : mkB b.data.toList = b := by unfold mkB; cases b; rfl
theorem mkB_inj {a : List UInt8} {b : ByteArray} : mkB a = b ↔ a = b.data.toList := by
 constructor
 ·
  intro h; rw [← h]; rfl
 ·
  intro h; rw [h]; exact mkB_of b
theorem mkB_extract (b : ByteArray) (s e : Nat) : b.extract s e = mkB ((b.data.toList.take e).drop s) := by
 rw [← mkB_of (b.extract s e), Lib.extract_data, List.drop_take]
theorem mkB_append (a b : List UInt8) : mkB a ++ mkB b = mkB (a ++ b) := by
 rw [← mkB_of (mkB a ++ mkB b), ByteArray.toList_data_append]
 rfl
theorem mkB_size (l : List UInt8) : (mkB l).size = l.length := by
 show l.toArray.size = l.length
 simp
def spl (c : UInt8) : List UInt8 → List (List UInt8)
 | [] => [[]]
 | x :: r => if x = c then [] :: spl c r else match spl c r with
  | [] => [[x]]
  | h :: t => (x :: h) :: t
def att (p : List UInt8) : List (List UInt8) → List (List UInt8)
 | [] => [p]
 | h :: t => (p ++ h) :: t
theorem spl_cons (c x : UInt8) (r : List UInt8) : spl c (x :: r) = if x = c then [] :: spl c r else att [x] (spl c r) := by
 rw [spl]
 split
 ·
  rfl
 ·
  cases spl c r <;> rfl
theorem spl_ne (c : UInt8) : ∀ l, spl c l ≠ []
 | [] => by simp [spl]
 | x :: r => by
  rw [spl_cons]
  split
  ·
   simp
  ·
   cases spl c r <;> simp [att]
theorem att_nil {l : List (List UInt8)} (h : l ≠ []) : att [] l = l := by
 cases l with
 | nil => exact absurd rfl h
 | cons a t => simp [att]
theorem att_att (p q : List UInt8) {l : List (List UInt8)} (h : l ≠ []) : att p (att q l) = att (p ++ q) l := by
 cases l with
 | nil => exact absurd rfl h
 | cons a t => simp [att]
theorem att_length (p : List UInt8) {l : List (List UInt8)} (h : l ≠ []) : (att p l).length = l.length := by
 cases l with
 | nil => exact absurd rfl h
 | cons a t => rfl
theorem spl_len (c : UInt8) : ∀ l : List UInt8, (spl c l).length ≤ l.length + 1
 | [] => by simp [spl]
 | x :: r => by
  have := spl_len c r
  rw [spl_cons]
  split
  ·
   simp only [List.length_cons]; omega
  ·
   rw [att_length _ (spl_ne c r)]; simp only [List.length_cons]; omega
theorem spl_none (c : UInt8) : ∀ l : List UInt8, c ∉ l → spl c l = [l]
 | [], _ => rfl
 | x :: r, h => by
  rw [List.mem_cons, not_or] at h
  rw [spl_cons, if_neg (fun e => h.1 e.symm), spl_none c r h.2]
  rfl
theorem spl_first (c : UInt8) (r : List UInt8) : ∀ l : List UInt8, c ∉ l → spl c (l ++ c :: r) = l :: spl c r
 | [], _ => by rw [List.nil_append, spl_cons, if_pos rfl]
 | x :: l, h => by
  rw [List.mem_cons, not_or] at h
  rw [List.cons_append, spl_cons, if_neg (fun e => h.1 e.symm), spl_first c r l h.2]
  rfl
theorem join_cons2 (x y : List UInt8) (r : List (List UInt8)) (c : UInt8) : Lib.join (x :: y :: r) [c] = x ++ c :: Lib.join (y :: r) [c] := by
 rw [Lib.join_cons, Lib.join_cons]
 simp [Lib.joinTail]
theorem join_att (c : UInt8) (p : List UInt8) {l : List (List UInt8)} (h : l ≠ []) : Lib.join (att p l) [c] = p ++ Lib.join l [c] := by
 cases l with
 | nil => exact absurd rfl h
 | cons a t =>
  show Lib.join ((p ++ a) :: t) [c] = _
  rw [Lib.join_cons, Lib.join_cons, List.append_assoc]
theorem join_spl (c : UInt8) : ∀ l : List UInt8, Lib.join (spl c l) [c] = l
 | [] => by rw [spl, Lib.join_one]
 | x :: r => by
  have ih := join_spl c r
  rw [spl_cons]
  split
  ·
   rename_i hx
   cases hs : spl c r with
   | nil => exact absurd hs (spl_ne c r)
   | cons a t =>
    rw [join_cons2, ← hs, ih, hx]
    rfl
  ·
   rw [join_att c _ (spl_ne c r), ih]
   rfl
theorem spl_piece {c : UInt8} {l p : List UInt8} (hp : p ∈ spl c l) : p.length ≤ l.length := by
 have hj := join_spl c l
 have : p.length ≤ (Lib.join (spl c l) [c]).length := by
  clear hj
  revert hp
  generalize spl c l = P
  intro hp
  induction P with
  | nil => exact absurd hp (List.not_mem_nil)
  | cons a t ih =>
   cases t with
   | nil =>
    rw [List.mem_singleton.1 hp, Lib.join_one]
    exact Nat.le_refl _
   | cons a2 t2 =>
    rw [join_cons2, List.length_append, List.length_cons]
    rcases List.mem_cons.1 hp with rfl | hp
    ·
     omega
    ·
     have := ih hp
     omega
 rw [hj] at this
 exact this
theorem spl_index (c : UInt8) (l : List UInt8) : (Lib.index l [c] = -1 ∧ spl c l = [l]) ∨ (∃ i : Nat, Lib.index l [c] = i ∧ spl c l = l.take i :: spl c (l.drop (i + 1)) ∧ i < l.length ∧ l = l.take i ++ c :: l.drop (i + 1)) := by
 have occ : ∀ j, Lib.occAt l [c] j = true ↔ l[j]? = some c := by
  intro j
  unfold Lib.occAt
  have : l[j]? = (l.drop j).head? := by rw [List.head?_drop]
  rw [this]
  cases l.drop j with
  | nil => simp
  | cons y t =>
   show (c == y && List.isPrefixOf [] t) = true ↔ some y = some c
   rw [Bool.and_eq_true, beq_iff_eq]
   exact ⟨fun h => congrArg some h.1.symm, fun h => ⟨(Option.some.inj h).symm, rfl⟩⟩
 rcases Lib.index_spec l [c] with ⟨h1, h2⟩ | ⟨i, h1, h2, h3, h4⟩
 ·
  refine .inl ⟨h1, spl_none c l fun hm => ?_⟩
  obtain ⟨j, hj, hj2⟩ := List.getElem_of_mem hm
  have h3 := h2 j (by omega)
  rw [(occ j).2 (by rw [List.getElem?_eq_getElem hj, hj2])] at h3
  cases h3
 ·
  have hc := (occ i).1 h3
  obtain ⟨hi, hc2⟩ := List.getElem?_eq_some_iff.1 hc
  have e : l = l.take i ++ c :: l.drop (i + 1) := by
   conv => lhs; rw [← List.take_append_drop i l]
   rw [List.drop_eq_getElem_cons hi, hc2]
  refine .inr ⟨i, h1, ?_, hi, e⟩
  conv => lhs; rw [e]
  refine spl_first c _ _ fun hm => ?_
  obtain ⟨j, hj, hj2⟩ := List.getElem_of_mem hm
  rw [List.length_take] at hj
  rw [List.getElem_take] at hj2
  have h5 := h4 j (by omega)
  rw [(occ j).2 (by rw [List.getElem?_eq_getElem (by omega), hj2])] at h5
  cases h5
theorem splK (c : UInt8) : ∀ (n : Nat) (l : List UInt8), ((spl c l).length ≤ n + 1 → Lib.splitK [c] 0 n l = spl c l) ∧ (n + 1 < (spl c l).length → (Lib.splitK [c] 0 n l).length = n + 1)
 | 0, l => by
  refine ⟨fun h => ?_, fun _ => rfl⟩
  rcases spl_index c l with ⟨_, h2⟩ | ⟨i, _, h2, _⟩
  ·
   rw [h2]; rfl
  ·
   rw [h2, List.length_cons] at h
   exact absurd (List.eq_nil_of_length_eq_zero (by omega)) (spl_ne c (l.drop (i + 1)))
 | n + 1, l => by
  rcases spl_index c l with ⟨h1, h2⟩ | ⟨i, h1, h2, _⟩
  ·
   refine ⟨fun _ => ?_, fun h => ?_⟩
   ·
    rw [Lib.splitK, h1, if_pos (by rfl), h2]
   ·
    rw [h2, List.length_singleton] at h
    omega
  ·
   have ih := splK c n (l.drop (i + 1))
   have e : Lib.splitK [c] 0 (n + 1) l = l.take i :: Lib.splitK [c] 0 n (l.drop (i + 1)) := by
    rw [Lib.splitK, h1, if_neg (by simp)]
    rfl
   rw [e, h2, List.length_cons, List.length_cons]
   exact ⟨fun h => by rw [ih.1 (by omega)], fun h => by rw [ih.2 (by omega)]⟩
theorem spl_all (c : UInt8) : ∀ (n : Nat) (l : List UInt8), l.length ≤ n → Lib.splitK [c] 0 (Lib.count l [c]) l = spl c l := by
 intro n
 induction n with
 | zero =>
  intro l hl
  obtain rfl := List.eq_nil_of_length_eq_zero (show l.length = 0 by omega)
  rfl
 | succ n ih =>
  intro l hl
  rcases spl_index c l with ⟨h1, h2⟩ | ⟨i, h1, h2, h3, _⟩
  ·
   rw [Lib.count_miss h1, h2]
   rfl
  ·
   rw [Lib.count_hit (by simp) h1, Nat.add_comm, Lib.splitK, h1, if_neg (by simp), h2]
   refine congrArg (l.take i :: ·) ?_
   exact ih (l.drop (i + 1)) (by rw [List.length_drop]; omega)
theorem numL_itoa1 {l : List UInt8} {v : Int} (h : numL l = some v) : Lib.itoa v = l := (numL_itoa h).1
theorem numL_bytes {l : List UInt8} {v : Int} (h : numL l = some v) : l ≠ [] ∧ ∀ x ∈ l, x = 45 ∨ isDig x = true := by
 unfold numL at h
 split at h
 ·
  rename_i h45
  cases hn : numD l.tail false with
  | none => rw [hn] at h; cases h
  | some u =>
   obtain ⟨a1, a2, a3, a4, rfl⟩ := numD_some hn
   cases l with
   | nil => simp at h45
   | cons c d =>
    refine ⟨by simp, fun x hx => ?_⟩
    rcases List.mem_cons.1 hx with rfl | hx
    ·
     exact .inl (Option.some.inj h45)
    ·
     exact .inr (List.all_eq_true.1 a4 x hx)
 ·
  cases hn : numD l (decide (l.length = 1)) with
  | none => rw [hn] at h; cases h
  | some u =>
   obtain ⟨a1, a2, a3, a4, rfl⟩ := numD_some hn
   exact ⟨a1, fun x hx => .inr (List.all_eq_true.1 a4 x hx)⟩
def allN : List (List UInt8) → Option (List Int)
 | [] => some []
 | l :: r => (numL l).bind fun v => (allN r).bind fun vs => some (v :: vs)
theorem allN_some : ∀ {P : List (List UInt8)} {vs : List Int}, allN P = some vs → vs.length = P.length ∧ vs.map Lib.itoa = P ∧ ∀ p ∈ P, p ≠ [] ∧ ∀ x ∈ p, x = 45 ∨ isDig x = true
 | [], vs, h => by
  injection h with h
  subst h
  exact ⟨rfl, rfl, fun p hp => absurd hp (List.not_mem_nil)⟩
 | l :: r, vs, h => by
  rw [allN] at h
  cases h1 : numL l with
  | none => rw [h1] at h; cases h
  | some v =>
   cases h2 : allN r with
   | none => rw [h1, h2] at h; cases h
   | some ws =>
    rw [h1, h2] at h
    injection h with h
    subst h
    obtain ⟨a, b, c⟩ := allN_some h2
    refine ⟨by simp [a], by rw [List.map_cons, numL_itoa1 h1, b], fun p hp => ?_⟩
    rcases List.mem_cons.1 hp with rfl | hp
    ·
     exact numL_bytes h1
    ·
     exact c p hp
def rlist (l : List UInt8) : List Int × Bool := if l = [45] then ([], true) else if 64 < (spl 44 l).length then ([], false) else match allN (spl 44 l) with
 | some vs => if vs.all ltOk = true then (vs, true) else ([], false)
 | none => ([], false)
theorem mem_spl {c x : UInt8} : ∀ {l : List UInt8}, x ∈ l → x = c ∨ ∃ p ∈ spl c l, x ∈ p
 | y :: r, h => by
  rw [spl_cons]
  rcases List.mem_cons.1 h with rfl | h
  ·
   split
   ·
    rename_i e; exact .inl e
   ·
    refine .inr ?_
    cases hs : spl c r with
    | nil => exact absurd hs (spl_ne c r)
    | cons a t => exact ⟨x :: a, List.mem_cons_self .., List.mem_cons_self ..⟩
  ·
   rcases mem_spl (c := c) h with h | ⟨p, hp, hx⟩
   ·
    exact .inl h
   ·
    refine .inr ?_
    split
    ·
     exact ⟨p, List.mem_cons_of_mem _ hp, hx⟩
    ·
     cases hs : spl c r with
     | nil => exact absurd hs (spl_ne c r)
     | cons a t =>
      rw [hs] at hp
      rcases List.mem_cons.1 hp with rfl | hp
      ·
       exact ⟨y :: p, List.mem_cons_self .., List.mem_cons_of_mem _ hx⟩
      ·
       exact ⟨p, List.mem_cons_of_mem _ hp, hx⟩
theorem allN_listT {l : List UInt8} {vs : List Int} (h : allN (spl 44 l) = some vs) (hl : (spl 44 l).length ≤ 64) (ha : vs.all ltOk = true) : listT vs = mkB l := by
 obtain ⟨a, b, c⟩ := allN_some h
 have h0 : vs.length ≠ 0 := fun e => spl_ne 44 l (List.eq_nil_of_length_eq_zero (by omega))
 unfold listT
 rw [if_neg (by omega), if_neg h0, if_pos ha, b, join_spl]
 rfl
theorem rlist_text {l : List UInt8} {vs : List Int} (h : rlist l = (vs, true)) : listT vs = mkB l ∧ l ≠ [] ∧ ∀ x ∈ l, x = 44 ∨ x = 45 ∨ isDig x = true := by
 unfold rlist at h
 split at h
 ·
  rename_i e
  injection h with h _
  subst h
  rw [e]
  exact ⟨rfl, by simp, fun x hx => .inr (.inl (List.mem_singleton.1 hx))⟩
 ·
  split at h
  ·
   injection h with _ h; cases h
  ·
   rename_i h64
   cases hn : allN (spl 44 l) with
   | none => rw [hn] at h; injection h with _ h; cases h
   | some ws =>
    rw [hn] at h
    dsimp only at h
    split at h
    ·
     rename_i ha
     injection h with h _
     subst h
     refine ⟨allN_listT hn (by omega) ha, ?_, fun x hx => ?_⟩
     ·
      intro e
      subst e
      exact ((allN_some hn).2.2 [] (by simp [spl])).1 rfl
     ·
      rcases mem_spl (c := 44) hx with h | ⟨p, hp, hxp⟩
      ·
       exact .inl h
      ·
       exact .inr (((allN_some hn).2.2 p hp).2 x hxp)
    ·
     injection h with _ h; cases h
def rlistI (l : List UInt8) (P : List (List UInt8)) : List Int × Bool := match allN P with
 | some vs => if listT vs = mkB l then (vs, true) else ([], false)
 | none => ([], false)
theorem listT_long {vs : List Int} (h : vs.length > 64) : listT vs = mkB [] := by
 unfold listT
 rw [if_pos h]
 rfl
theorem mkB_inj2 {a b : List UInt8} : mkB a = mkB b ↔ a = b := mkB_inj
theorem rlistI_eq {l : List UInt8} (hl : l ≠ [45]) : rlistI l (Lib.splitK [44] 0 (min 65 (l.length + 1) - 1) l) = rlist l := by
 have hlen := spl_len 44 l
 have hk := splK 44 (min 65 (l.length + 1) - 1) l
 unfold rlist
 rw [if_neg hl]
 by_cases h65 : (spl 44 l).length ≤ 65
 ·
  rw [hk.1 (by omega)]
  unfold rlistI
  cases hn : allN (spl 44 l) with
  | none =>
   dsimp only
   split <;> rfl
  | some vs =>
   obtain ⟨a, b, c⟩ := allN_some hn
   have hne : l ≠ [] := by
    intro e
    subst e
    exact (c [] (by simp [spl])).1 rfl
   dsimp only
   by_cases h64 : 64 < (spl 44 l).length
   ·
    rw [if_pos h64, listT_long (by omega), if_neg (fun e => hne (mkB_inj2.1 e).symm)]
   ·
    rw [if_neg h64]
    by_cases ha : vs.all ltOk = true
    ·
     rw [if_pos ha, if_pos (allN_listT hn (by omega) ha)]
    ·
     have h0 : vs.length ≠ 0 := fun e => spl_ne 44 l (List.eq_nil_of_length_eq_zero (by omega))
     have : listT vs = mkB [] := by
      unfold listT
      rw [if_neg (by omega), if_neg h0, if_neg ha]
      rfl
     rw [if_neg ha, this, if_neg (fun e => hne (mkB_inj2.1 e).symm)]
 ·
  have hP := hk.2 (by omega)
  rw [if_pos (by omega)]
  unfold rlistI
  cases hn : allN (Lib.splitK [44] 0 (min 65 (l.length + 1) - 1) l) with
  | none => rfl
  | some vs =>
   obtain ⟨a, _, _⟩ := allN_some hn
   dsimp only
   rw [listT_long (by omega), if_neg (fun e => by have := (mkB_inj2.1 e).symm; subst this; simp [spl] at h65)]
theorem Ev.succ {α : Type} {g : Nat → Option α} {r : α} (h : Ev (fun k => g (k + 1)) r) : Ev g r := Ev.step (fun _ => rfl) h
theorem Ev.now' {α : Type} {a b : α} (h : a = b) : Ev (fun _ => some a) b := h ▸ Ev.now a
def smallC (c : Int) : Bool := decide (97 ≤ c) && decide (c ≤ 122)
def digitC (c : Int) : Bool := decide (48 ≤ c) && decide (c ≤ 57)
def nameC (c : Int) : Bool := smallC c || digitC c
def nameOk (b : ByteArray) : Bool := decide (1 ≤ b.size) && (decide (b.size ≤ 10) && (smallC (bt b 0) && (List.range b.size).all fun i => nameC (bt b i)))
def numR (l : List UInt8) : Int × Bool := match numL l with
 | some v => (v, true)
 | none => (0, false)
theorem bt_get (b : ByteArray) (i : Nat) (h : i < b.data.toList.length) : bt b (i : Int) = ((b.data.toList[i].toNat : Nat) : Int) := by
 have h2 : i < b.size := by simpa using h
 rw [← bt_at b (i : Int) (by simpa using h2)]
 simp only [Int.toNat_natCast]
 rfl
theorem size_of (b : ByteArray) : b.size = b.data.toList.length := rfl
theorem digit_cast (c : UInt8) : digitC ((c.toNat : Nat) : Int) = isDig c := by
 unfold digitC isDig
 congr 1
 ·
  exact decide_eq_decide.2 (by omega)
 ·
  exact decide_eq_decide.2 (by omega)
theorem rdecI_eq (b : ByteArray) : rdecI b = numR b.data.toList := by
 unfold numR
 cases hn : numL b.data.toList with
 | some v =>
  obtain ⟨h1, h2, h3⟩ := numL_itoa hn
  unfold rdecI
  rw [h3]
  dsimp only
  rw [if_pos ⟨h2, by rw [h1]⟩]
 | none =>
  unfold rdecI
  split
  ·
   split
   ·
    rename_i v _ h
    have := itoa_numL (mkB_inj.1 h.2) h.1
    rw [hn] at this
    cases this
   ·
    rfl
  ·
   rfl
theorem toList_iff (b : ByteArray) (l : List UInt8) : b.toList = l ↔ b.data.toList = l := by rw [ByteArray.toList_eq]
theorem rdOf_mkB (P : List (List UInt8)) (i : Nat) (h : i < P.length) : rdOf ByteArray.empty (P.map mkB) (i : Int) = mkB P[i] := by
 unfold rdOf
 rw [Int.toNat_natCast, getD_lt _ (by rw [List.length_map]; exact h), List.getElem_map]
def allS : List (List UInt8) → Option (List Int)
 | [] => some []
 | l :: r => (numL l).bind fun v => if ltOk v = true then (allS r).bind fun vs => some (v :: vs) else none
theorem allS_eq : ∀ P : List (List UInt8), allS P = match allN P with | some vs => if vs.all ltOk = true then some vs else none | none => none
 | [] => rfl
 | l :: r => by
  rw [allS, allN, allS_eq r]
  cases numL l with
  | none => rfl
  | some v =>
   cases allN r with
   | none => simp
   | some vs =>
    simp only [Option.bind_some, List.all_cons, Bool.and_eq_true]
    by_cases h1 : ltOk v = true
    ·
     by_cases h2 : vs.all ltOk = true <;> simp [h1, h2]
    ·
     simp [h1]
theorem implList_ev (b : ByteArray) (hb : b.size ≤ 1048576) : Ev (fun k => impl_ReadList.f k b) (rlist b.data.toList) := by
 have hz := size_of b
 unfold impl_ReadList.f
 by_cases h45 : b.data.toList = [45]
 ·
  simp only [show b.toList = ([45] : List UInt8) from (toList_iff b _).2 h45, if_true]
  unfold rlist
  rw [if_pos h45]
  exact Ev.now _
 ·
  simp only [show ¬ b.toList = ([45] : List UInt8) from fun h => h45 ((toList_iff b _).1 h), if_false]
  rw [← rlistI_eq h45]
  have hsp : strings_SplitN.f b (⟨#[44]⟩ : ByteArray) 65 = some ((Lib.splitK [44] 0 (min 65 (b.data.toList.length + 1) - 1) b.data.toList).map mkB) := by
   unfold strings_SplitN.f
   rw [if_pos ⟨by omega, by decide, by decide, by decide⟩]
   have h := Lib.splitB_data (⟨#[44]⟩ : ByteArray) 0 (min (65 : Int).toNat (b.size + 1) - 1) b
   refine congrArg some ?_
   rw [hz] at h ⊢
   rw [show (65 : Int).toNat = 65 from rfl] at h ⊢
   rw [show (⟨#[44]⟩ : ByteArray).data.toList = [44] from rfl] at h
   rw [← h, List.map_map]
   refine ((List.map_congr_left fun x _ => ?_).trans (List.map_id _)).symm
   exact mkB_of x
  rw [hsp]
  simp only [Option.bind_some, List.length_map]
  generalize hP : Lib.splitK [44] 0 (min 65 (b.data.toList.length + 1) - 1) b.data.toList = P
  have hPl : P.length ≤ 65 := by
   rcases Nat.lt_or_ge (min 65 (b.data.toList.length + 1) - 1 + 1) (spl 44 b.data.toList).length with h | h
   ·
    have := (splK 44 _ b.data.toList).2 h
    rw [hP] at this
    omega
   ·
    have := (splK 44 _ b.data.toList).1 h
    rw [hP] at this
    rw [this]
    omega
  have hPs : ∀ p ∈ P, p.length ≤ 1048576 := by
   rw [← hP]
   have gen : ∀ (n : Nat) (l : List UInt8), ∀ p ∈ Lib.splitK [44] 0 n l, p.length ≤ l.length := by
    intro n
    induction n with
    | zero => intro l p hp; rw [List.mem_singleton.1 hp]; exact Nat.le_refl _
    | succ n ih =>
     intro l p hp
     rw [Lib.splitK] at hp
     split at hp
     ·
      rw [List.mem_singleton.1 hp]; exact Nat.le_refl _
     ·
      rcases List.mem_cons.1 hp with rfl | hp
      ·
       rw [List.length_take]; omega
      ·
       have := ih _ p hp
       rw [List.length_drop] at this
       omega
   intro p hp
   have := gen _ _ p hp
   omega
  have key : ∀ (m i : Nat) (acc : List Int), i + m = P.length → acc.length = i →
    Ev (fun k => impl_ReadList.l0 k b acc (P.map mkB) (P.length : Int) (i : Int)) (match allN (P.drop i) with | some vs => if listT (acc ++ vs) = b then (acc ++ vs, true) else ([], false) | none => ([], false)) := by
   intro m
   induction m with
   | zero =>
    intro i acc hi ha
    rw [List.drop_eq_nil_of_le (by omega)]
    refine Ev.step (f := fun _ => some (if listT acc = b then (acc, true) else ([], false))) (fun k => ?_) (Ev.now' (by simp [allN]))
    simp only [impl_ReadList.l0]
    rw [if_neg (by omega)]
    simp only [impl_ListText.f, Option.bind_some]
    by_cases h : listT acc = b
    ·
     rw [if_pos (by rw [h]), if_pos h]
    ·
     rw [if_neg (fun e => h (by rw [← mkB_of b, ← mkB_of (listT acc), ← ByteArray.toList_eq, ← ByteArray.toList_eq, e])), if_neg h]
   | succ m ih =>
    intro i acc hi ha
    have hlt : i < P.length := by omega
    have hp := hPs _ (List.getElem_mem hlt)
    rw [List.drop_eq_getElem_cons hlt, allN]
    refine Ev.succ ?_
    simp only [impl_ReadList.l0, List.length_map, rdOf_mkB _ i hlt, if_pos (show (i : Int) < P.length by omega), if_pos (show (0 : Int) ≤ i by omega)]
    unfold impl_ReadDecimal.f
    rw [if_pos (by rw [mkB_size]; omega), rdecI_eq, mkB_toList]
    unfold numR
    cases hn : numL P[i] with
    | none => exact Ev.now _
    | some v =>
     simp only [Option.bind_some, if_true, if_pos (show acc.length < 17592186044416 by omega), w64 (x := (i : Int) + 1) (by omega) (by omega)]
     have ih2 := ih (i + 1) (acc ++ [v]) (by omega) (by rw [List.length_append, List.length_singleton]; omega)
     cases hr : allN (P.drop (i + 1)) with
     | none => rw [hr] at ih2; exact ih2
     | some vs =>
      rw [hr] at ih2
      simp only [Option.bind_some]
      simp only [List.append_assoc, List.singleton_append] at ih2
      exact ih2
  have h := key _ 0 [] (Nat.zero_add _) rfl
  rw [List.drop_zero] at h
  unfold rlistI
  cases hn : allN P with
  | none => rw [hn] at h; exact h
  | some vs =>
   rw [hn] at h
   dsimp only at h ⊢
   rw [mkB_of, List.nil_append] at *
   exact h
theorem implNums_ev (b : ByteArray) (n : Nat) (hb : b.size ≤ 1048576) (hn : n ≤ 1048576) : Ev (fun k => impl_readNumbers.f k b (n : Int)) (if (rlist b.data.toList).2 = true ∧ (rlist b.data.toList).1.length = n then ((rlist b.data.toList).1, true) else (List.replicate n 0, false)) := by
 unfold impl_readNumbers.f
 refine Ev.bind (implList_ev b hb) ?_
 rw [Int.toNat_natCast, if_pos (show (0 : Int) ≤ n by omega), if_pos (show n ≤ 35184372088832 by omega)]
 generalize rlist b.data.toList = x
 obtain ⟨l, ok⟩ := x
 cases ok with
 | false => exact Ev.now' (by simp)
 | true =>
  by_cases h : l.length = n
  ·
   simp only [if_true, if_pos (show (l.length : Int) = n by omega), h, and_self]
   exact Ev.now _
  ·
   simp only [if_true, if_neg (show ¬ (l.length : Int) = n by omega), h, and_false, if_false]
   exact Ev.now _
theorem splitAll (b : ByteArray) (c : UInt8) : Lib.splitB (mkB [c]) 0 (Lib.countB b (mkB [c])) b = (spl c b.data.toList).map mkB := by
 have h := Lib.splitB_data (mkB [c]) 0 (Lib.countB b (mkB [c])) b
 have h2 : Lib.splitK (mkB [c]).data.toList 0 (Lib.countB b (mkB [c])) b.data.toList = spl c b.data.toList := spl_all c b.data.toList.length b.data.toList (Nat.le_refl _)
 rw [h2] at h
 rw [← h, List.map_map]
 refine ((List.map_congr_left fun x _ => ?_).trans (List.map_id _)).symm
 exact mkB_of x
theorem specDigit_eq (c : Int) : spec_l01Digit.f c = some (digitC c) := by
 unfold spec_l01Digit.f digitC
 by_cases h : c ≥ 48
 ·
  rw [if_pos h, decide_eq_true (show 48 ≤ c from h)]; rfl
 ·
  rw [if_neg h, decide_eq_false (show ¬ 48 ≤ c from h)]; rfl
theorem specNumLoop (b : ByteArray) (fr : Nat) (hfr : fr ≤ 1) (hb : b.data.toList.length ≤ 4611686018427387904) : ∀ (m i acc : Nat), i + m = b.data.toList.length → m ≤ 18 → acc < 10 ^ (18 - m) →
  Ev (fun k => spec_l01Number.l0 k b (fr : Int) (acc : Int) (i : Int)) (if (b.data.toList.drop i).all isDig = true then ((if fr = 1 then -((dval acc (b.data.toList.drop i) : Nat) : Int) else ((dval acc (b.data.toList.drop i) : Nat) : Int)), true) else (0, false)) := by
 intro m
 induction m with
 | zero =>
  intro i acc hi hm ha
  rw [List.drop_eq_nil_of_le (by omega), if_pos (show [].all isDig = true from rfl)]
  have h18 : acc < 1000000000000000000 := by simpa using ha
  refine Ev.step (f := fun _ => some ((if fr = 1 then -(acc : Int) else (acc : Int)), true)) (fun k => ?_) (Ev.now _)
  simp only [spec_l01Number.l0]
  rw [if_neg (by rw [size_of]; omega)]
  by_cases h : fr = 1
  ·
   rw [if_pos (by omega), if_pos h, w64 (by omega) (by omega)]
  ·
   rw [if_neg (by omega), if_neg h]
 | succ m ih =>
  intro i acc hi hm ha
  have hlt : i < b.data.toList.length := by omega
  have hp : (10 : Nat) ^ (18 - (m + 1)) ≤ 10 ^ 17 := Nat.pow_le_pow_right (by decide) (by omega)
  have h17 : (10 : Nat) ^ 17 = 100000000000000000 := by decide
  have hb0 := b.data.toList[i].toNat_lt
  rw [List.drop_eq_getElem_cons hlt, List.all_cons]
  cases hd : isDig b.data.toList[i] with
  | false =>
   rw [Bool.false_and, if_neg (by decide)]
   refine Ev.step (f := fun _ => some (0, false)) (fun k => ?_) (Ev.now _)
   simp only [spec_l01Number.l0]
   rw [if_pos (by rw [size_of]; omega), if_pos (by omega), specDigit_eq, bt_get b i hlt, digit_cast, hd]
   rfl
  | true =>
   rw [Bool.true_and, dval_cons]
   have hd2 := (isDig_iff _).1 hd
   have ih2 := ih (i + 1) (acc * 10 + (b.data.toList[i].toNat - 48)) (by omega) (by omega) (by
    have e : 18 - m = (18 - (m + 1)) + 1 := by omega
    rw [e, Nat.pow_succ]
    omega)
   refine Ev.step (fun k => ?_) ih2
   simp only [spec_l01Number.l0]
   rw [if_pos (by rw [size_of]; omega), if_pos (by omega), specDigit_eq, bt_get b i hlt, digit_cast, hd]
   simp only [Option.bind_some, if_true]
   rw [w64 (x := 10 * (acc : Int)) (by omega) (by omega), w64 (x := (i : Int) + 1) (by omega) (by omega), w64 (by omega) (by omega)]
   congr 1
   omega
theorem specNum_ev (b : ByteArray) (hb : b.size ≤ 4611686018427387904) : Ev (fun k => spec_l01Number.f k b) (numR b.data.toList) := by
 have hz := size_of b
 have j1 : ∀ fr : Nat, fr ≤ 1 → fr ≤ b.data.toList.length → (fr = 1 → b.data.toList.length ≠ 0) →
   Ev (fun k => spec_l01Number.j1 k b (fr : Int)) (match numD (b.data.toList.drop fr) (decide (b.data.toList.length ≤ 1)) with | some u => ((if fr = 1 then -(u : Int) else (u : Int)), true) | none => (0, false)) := by
  intro fr h1 h2 h3
  have j2t : Ev (fun k => spec_l01Number.j2 k b (fr : Int) true) (0, false) := Ev.step (f := fun _ => some (0, false)) (fun k => by simp [spec_l01Number.j2]) (Ev.now _)
  unfold numD
  refine Ev.succ ?_
  simp only [spec_l01Number.j1]
  by_cases e1 : b.data.toList.length = fr
  ·
   rw [if_pos (.inl (List.drop_eq_nil_of_le (by omega)))]
   simp only [show ((b.size : Int) = fr) by omega, if_true]
   exact j2t
  ·
   simp only [show ¬ ((b.size : Int) = fr) by omega, if_false]
   rw [w64 (by omega) (by omega)]
   by_cases e2 : b.data.toList.length - fr > 18
   ·
    rw [if_pos (.inr (by rw [List.length_drop]; omega))]
    simp only [show ((b.size : Int) - fr > 18) by omega, if_true]
    exact j2t
   ·
    have hlt : fr < b.data.toList.length := by omega
    rw [if_neg (fun h => h.elim (fun h => by have := congrArg List.length h; rw [List.length_drop, List.length_nil] at this; omega) (fun h => by rw [List.length_drop] at h; omega))]
    simp only [show ¬ ((b.size : Int) - fr > 18) by omega, if_false, show (0 : Int) ≤ fr by omega, show (fr : Int) < b.size by omega, if_true]
    rw [bt_get b fr hlt, List.head?_drop, List.getElem?_eq_getElem hlt]
    have go : Ev (fun k => spec_l01Number.j2 k b (fr : Int) false) (match (if (b.data.toList.drop fr).all isDig = true then some (dval 0 (b.data.toList.drop fr)) else none) with | some u => ((if fr = 1 then -(u : Int) else (u : Int)), true) | none => (0, false)) := by
     have hl := specNumLoop b fr h1 (by omega) (b.data.toList.length - fr) fr 0 (by omega) (by omega) (Nat.pow_pos (by decide))
     refine Ev.step (f := fun k => spec_l01Number.l0 k b (fr : Int) 0 (fr : Int)) (fun k => by simp [spec_l01Number.j2]) ?_
     have e : (match (if (b.data.toList.drop fr).all isDig = true then some (dval 0 (b.data.toList.drop fr)) else none) with | some u => ((if fr = 1 then -(u : Int) else (u : Int)), true) | none => (0, false)) = (if (b.data.toList.drop fr).all isDig = true then ((if fr = 1 then -((dval 0 (b.data.toList.drop fr) : Nat) : Int) else ((dval 0 (b.data.toList.drop fr) : Nat) : Int)), true) else ((0 : Int), false)) := by
      by_cases hall : (b.data.toList.drop fr).all isDig = true
      ·
       simp only [hall, if_true]
      ·
       simp only [hall, if_false]
       rfl
     rw [e]
     exact hl
    by_cases e3 : b.data.toList[fr] = 48
    ·
     have e3' : ((b.data.toList[fr].toNat : Nat) : Int) = 48 := by rw [e3]; rfl
     simp only [e3', if_true]
     by_cases e4 : b.data.toList.length ≤ 1
     ·
      rw [decide_eq_true e4, if_neg (by rintro ⟨_, h⟩; cases h), decide_eq_false (show ¬ (b.size : Int) > 1 by omega)]
      exact go
     ·
      rw [decide_eq_false e4, e3, if_pos ⟨rfl, rfl⟩, decide_eq_true (show (b.size : Int) > 1 by omega)]
      exact j2t
    ·
     have e3' : ¬ ((b.data.toList[fr].toNat : Nat) : Int) = 48 := fun h => e3 (UInt8.toNat_inj.1 ((show b.data.toList[fr].toNat = 48 by omega).trans rfl))
     simp only [e3', if_false]
     rw [if_neg (fun h => e3 (Option.some.inj h.1))]
     exact go
 unfold spec_l01Number.f numR numL
 by_cases h0 : b.data.toList.length = 0
 ·
  have hnil := List.eq_nil_of_length_eq_zero h0
  simp only [show ¬ (b.size : Int) > 0 by omega, if_false]
  have h := j1 0 (by omega) (by omega) (by omega)
  refine Ev.step (f := fun k => spec_l01Number.j1 k b 0) (fun k => by simp [spec_l01Number.j0]) ?_
  rw [hnil] at h ⊢
  exact h
 ·
  simp only [show (b.size : Int) > 0 by omega, if_true, show (0 : Int) < b.size by omega]
  have hb0 := bt_get b 0 (by omega)
  rw [show ((0 : Nat) : Int) = 0 from rfl] at hb0
  rw [hb0]
  have hh : b.data.toList.head? = some b.data.toList[0] := by
   rw [List.head?_eq_getElem?, List.getElem?_eq_getElem (by omega)]
  rw [hh]
  by_cases h45 : b.data.toList[0] = 45
  ·
   have e45 : ((b.data.toList[0].toNat : Nat) : Int) = 45 := by rw [h45]; rfl
   rw [e45, h45, if_pos rfl]
   have h := j1 1 (by omega) (by omega) (by omega)
   refine Ev.step (f := fun k => spec_l01Number.j1 k b 1) (fun k => by simp [spec_l01Number.j0]) ?_
   have e5 : numD (b.data.toList.drop 1) (decide (b.data.toList.length ≤ 1)) = numD b.data.toList.tail false := by
    rw [List.drop_one]
    by_cases h1 : b.data.toList.length ≤ 1
    ·
     have : b.data.toList.tail = [] := List.eq_nil_of_length_eq_zero (by rw [List.length_tail]; omega)
     rw [this]
     rfl
    ·
     rw [decide_eq_false h1]
   rw [e5] at h
   cases hn : numD b.data.toList.tail false with
   | none => rw [hn] at h; exact h
   | some u => rw [hn] at h; exact h
  ·
   have e45 : ¬ ((b.data.toList[0].toNat : Nat) : Int) = 45 := fun h => h45 (UInt8.toNat_inj.1 ((show b.data.toList[0].toNat = 45 by omega).trans rfl))
   rw [if_neg (fun e => h45 (Option.some.inj e))]
   have h := j1 0 (by omega) (by omega) (by omega)
   refine Ev.step (f := fun k => spec_l01Number.j1 k b 0) (fun k => ?_) ?_
   ·
    have : (((b.data.toList[0].toNat : Nat) : Int) == 45) = false := by simpa using e45
    rw [this]
    simp [spec_l01Number.j0]
   ·
    rw [List.drop_zero] at h
    rw [show decide (b.data.toList.length = 1) = decide (b.data.toList.length ≤ 1) from decide_eq_decide.2 (by omega)]
    cases hn : numD b.data.toList (decide (b.data.toList.length ≤ 1)) with
    | none => rw [hn] at h; exact h
    | some u => rw [hn] at h; exact h
theorem specSplit_ev (b : ByteArray) (c : UInt8) (hb : b.size ≤ 1048576) : Ev (fun k => spec_l01Split.f k b ((c.toNat : Nat) : Int)) ((spl c b.data.toList).map mkB) := by
 have hz := size_of b
 have key : ∀ (m i s : Nat) (acc : List ByteArray), i + m = b.data.toList.length → s ≤ i → acc.length ≤ i →
   Ev (fun k => spec_l01Split.l0 k b ((c.toNat : Nat) : Int) acc (s : Int) (i : Int)) (acc ++ (att ((b.data.toList.take i).drop s) (spl c (b.data.toList.drop i))).map mkB) := by
  intro m
  induction m with
  | zero =>
   intro i s acc hi hs ha
   refine Ev.step (f := fun _ => some (acc ++ [b.extract s b.size])) (fun k => ?_) (Ev.now' ?_)
   ·
    simp only [spec_l01Split.l0]
    rw [if_neg (by omega), if_pos (by omega), if_pos (by omega), if_pos (by omega), Int.toNat_natCast]
   ·
    rw [List.drop_eq_nil_of_le (show b.data.toList.length ≤ i by omega), mkB_extract, hz, List.take_of_length_le (Nat.le_refl _), List.take_of_length_le (show b.data.toList.length ≤ i by omega)]
    simp [spl, att]
  | succ m ih =>
   intro i s acc hi hs ha
   have hlt : i < b.data.toList.length := by omega
   by_cases hc : b.data.toList[i] = c
   ·
    have ih2 := ih (i + 1) (i + 1) (acc ++ [mkB ((b.data.toList.take i).drop s)]) (by omega) (by omega) (by rw [List.length_append, List.length_singleton]; omega)
    rw [List.drop_eq_getElem_cons hlt, spl_cons, if_pos hc]
    rw [List.drop_eq_nil_of_le (show (b.data.toList.take (i + 1)).length ≤ i + 1 by rw [List.length_take]; omega), att_nil (spl_ne c _), List.append_assoc] at ih2
    refine Ev.step (fun k => ?_) (show Ev _ (acc ++ (att ((b.data.toList.take i).drop s) ([] :: spl c (b.data.toList.drop (i + 1)))).map mkB) from by
     simp only [att, List.append_nil, List.map_cons]
     exact ih2)
    simp only [spec_l01Split.l0]
    rw [if_pos (by omega), if_pos (by omega), bt_get b i hlt, hc, if_pos rfl, if_pos (by omega), if_pos (by omega), if_pos (by omega), if_pos (by omega), w64 (by omega) (by omega), Int.toNat_natCast, Int.toNat_natCast, mkB_extract]
    rfl
   ·
    have ih2 := ih (i + 1) s acc (by omega) (by omega) (by omega)
    rw [List.drop_eq_getElem_cons hlt, spl_cons, if_neg hc, att_att _ _ (spl_ne c _)]
    have e : (b.data.toList.take i).drop s ++ [b.data.toList[i]] = (b.data.toList.take (i + 1)).drop s := by
     rw [List.take_succ_eq_append_getElem hlt, List.drop_append_of_le_length (by rw [List.length_take]; omega)]
    rw [e]
    refine Ev.step (fun k => ?_) ih2
    simp only [spec_l01Split.l0]
    rw [if_pos (by omega), if_pos (by omega), bt_get b i hlt, if_neg (fun h => hc (UInt8.toNat_inj.1 (by omega))), w64 (by omega) (by omega)]
    rfl
 have h := key b.data.toList.length 0 0 [] (by omega) (by omega) (by simp)
 rw [List.take_zero, List.drop_nil, List.drop_zero, att_nil (spl_ne c _), List.nil_append] at h
 unfold spec_l01Split.f
 exact h
theorem specIn_eq (a lo hi : Int) : spec_l00In.f a lo hi = some (inB lo hi a) := by
 unfold spec_l00In.f inB
 by_cases h : a ≥ lo
 ·
  rw [if_pos h, decide_eq_true (show lo ≤ a from h)]; rfl
 ·
  rw [if_neg h, decide_eq_false (show ¬ lo ≤ a from h)]; rfl
theorem specList_ev (b : ByteArray) (hb : b.size ≤ 1048576) : Ev (fun k => spec_ReadList.f k b) (rlist b.data.toList) := by
 have hz := size_of b
 unfold spec_ReadList.f rlist
 by_cases h45 : b.data.toList = [45]
 ·
  simp only [show b.toList = ([45] : List UInt8) from (toList_iff b _).2 h45, if_true]
  rw [if_pos h45]
  exact Ev.now _
 ·
  simp only [show ¬ b.toList = ([45] : List UInt8) from fun h => h45 ((toList_iff b _).1 h), if_false]
  rw [if_neg h45]
  refine Ev.bind (specSplit_ev b 44 hb) ?_
  rw [List.length_map]
  by_cases h64 : 64 < (spl 44 b.data.toList).length
  ·
   simp only [show ((spl 44 b.data.toList).length : Int) > 64 by omega, if_true]
   rw [if_pos h64]
   exact Ev.now _
  ·
   simp only [show ¬ ((spl 44 b.data.toList).length : Int) > 64 by omega, if_false]
   rw [if_neg h64]
   have hs : ∀ p ∈ spl 44 b.data.toList, p.length ≤ 1048576 := fun p hp => by have := spl_piece hp; omega
   have key : ∀ (m i : Nat) (acc : List Int), i + m = (spl 44 b.data.toList).length → acc.length = i →
     Ev (fun k => spec_ReadList.l0 k ((spl 44 b.data.toList).map mkB) acc (i : Int)) (match allS ((spl 44 b.data.toList).drop i) with | some vs => (acc ++ vs, true) | none => ([], false)) := by
    intro m
    induction m with
    | zero =>
     intro i acc hi ha
     rw [List.drop_eq_nil_of_le (by omega)]
     refine Ev.step (f := fun _ => some (acc, true)) (fun k => ?_) (Ev.now' (by simp [allS]))
     simp only [spec_ReadList.l0]
     rw [List.length_map, if_neg (by omega)]
    | succ m ih =>
     intro i acc hi ha
     have hlt : i < (spl 44 b.data.toList).length := by omega
     have hp := hs _ (List.getElem_mem hlt)
     rw [List.drop_eq_getElem_cons hlt, allS]
     refine Ev.succ ?_
     simp only [spec_ReadList.l0, List.length_map, rdOf_mkB _ i hlt, if_pos (show (i : Int) < (spl 44 b.data.toList).length by omega), if_pos (show (0 : Int) ≤ i by omega)]
     refine Ev.bind (specNum_ev (mkB (spl 44 b.data.toList)[i]) (by rw [mkB_size]; omega)) ?_
     rw [mkB_toList]
     unfold numR
     cases hn : numL (spl 44 b.data.toList)[i] with
     | none => exact Ev.now _
     | some v =>
      simp only [Option.bind_some, if_true, specIn_eq]
      rw [show inB (-1000000000000) 1000000000000 v = ltOk v from rfl]
      cases hv : ltOk v with
      | false => exact Ev.now _
      | true =>
       simp only [if_true, if_pos (show acc.length < 17592186044416 by omega), w64 (x := (i : Int) + 1) (by omega) (by omega)]
       have ih2 := ih (i + 1) (acc ++ [v]) (by omega) (by rw [List.length_append, List.length_singleton]; omega)
       cases hr : allS ((spl 44 b.data.toList).drop (i + 1)) with
       | none => rw [hr] at ih2; exact ih2
       | some vs =>
        rw [hr] at ih2
        simp only [Option.bind_some]
        simp only [List.append_assoc, List.singleton_append] at ih2
        exact ih2
   have h := key _ 0 [] (Nat.zero_add _) rfl
   rw [List.drop_zero, allS_eq] at h
   cases hn : allN (spl 44 b.data.toList) with
   | none => rw [hn] at h; exact h
   | some vs =>
    rw [hn] at h
    dsimp only at h ⊢
    by_cases ha : vs.all ltOk = true
    ·
     rw [if_pos ha] at h ⊢
     exact h
    ·
     rw [if_neg ha] at h ⊢
     exact h
theorem eqInt64S_ev (l : List Int) (h : l.length ≤ 9223372036854775806) : Ev (fun k => laws_eqInt64S.f k l l) true := by
 refine Ev.congr (f := fun k => laws_eqInt64S.l0 k l l 0) (fun k => ?_) ?_
 ·
  unfold laws_eqInt64S.f
  rw [if_pos rfl]
 ·
  refine ev_eq laws_eqInt64S.l0 l (fun i hi hr => ?_) ?_
  ·
   refine Ev.step (fun k => ?_) hr
   simp only [laws_eqInt64S.l0]
   rw [if_pos (by omega), if_pos (by omega), if_pos (by omega), if_pos trivial, w64 (by omega) (by omega)]
   rfl
  ·
   refine Ev.step (f := fun _ => some true) (fun k => ?_) (Ev.now _)
   simp only [laws_eqInt64S.l0]
   rw [if_neg (by omega)]
theorem ev_fill {β ρ : Type} (L : Nat → List β → Int → Option ρ) (base : List β) (d : β) (f : Nat → β) (r : ρ)
  (step : ∀ i acc, i < base.length → acc.length = base.length → acc.getD i d = base.getD i d → Ev (fun k => L k (acc.set i (f i)) ((i + 1 : Nat) : Int)) r → Ev (fun k => L k acc (i : Int)) r)
  (fin : Ev (fun k => L k ((List.range base.length).map f) (base.length : Int)) r) : Ev (fun k => L k base 0) r := by
 have key : ∀ (m i : Nat), i + m = base.length → Ev (fun k => L k ((List.range i).map f ++ base.drop i) (i : Int)) r := by
  intro m
  induction m with
  | zero =>
   intro i hi
   have : i = base.length := by omega
   subst this
   rw [List.drop_length, List.append_nil]
   exact fin
  | succ m ih =>
   intro i hi
   have hlt : i < base.length := by omega
   refine step i _ hlt (by simp; omega) ?_ ?_
   ·
    rw [List.getD_eq_getElem?_getD, List.getD_eq_getElem?_getD, List.getElem?_append_right (by simp)]
    simp
   ·
    have := ih (i + 1) (by omega)
    rw [List.range_succ, List.map_append, List.append_assoc] at this
    have e : ((List.range i).map f ++ base.drop i).set i (f i) = (List.range i).map f ++ ([i].map f ++ base.drop (i + 1)) := by
     rw [List.set_append_right _ _ (by simp), List.drop_eq_getElem_cons hlt, List.length_map, List.length_range, Nat.sub_self, List.set_cons_zero]
     rfl
    rw [e]
    exact this
 exact key base.length 0 (by omega)
theorem getD_map_range {β : Type} (n : Nat) (f : Nat → β) (d : β) {i : Nat} (h : i < n) : ((List.range n).map f).getD i d = f i := by
 rw [List.getD_eq_getElem?_getD, List.getElem?_map, List.getElem?_range h]; rfl
def okInt64S (l : List Int) : Prop := l.length ≤ 1048576
def mkInt64S (l : List Int) (k : Int) : List Int := (List.range l.length).map fun i : Nat => k + (i : Int)
def cntInt64S (l : List Int) : Int := l.length
theorem mkInt64S_len (l : List Int) (k : Int) : (mkInt64S l k).length = l.length := by simp [mkInt64S]
theorem cntInt64S_bd (l : List Int) (h : okInt64S l) : 0 ≤ cntInt64S l ∧ cntInt64S l ≤ 2000000000000 := by unfold okInt64S at h; unfold cntInt64S; omega
theorem markInt64S_ev (l : List Int) (k0 : Int) (h : okInt64S l) (h0 : 0 ≤ k0) (h1 : k0 ≤ 1000000000000000) : Ev (fun k => laws_markInt64S.f k l k0) (k0 + cntInt64S l, mkInt64S l k0) := by
 unfold okInt64S at h
 unfold laws_markInt64S.f
 have key := ev_fill (fun k acc i => laws_markInt64S.l0 k acc (k0 + i) i) l 0 (fun i => k0 + (i : Int)) (k0 + cntInt64S l, mkInt64S l k0) (fun i acc hi hl _ hs => ?_) ?_
 ·
  simpa using key
 ·
  refine Ev.step (fun k => ?_) hs
  simp only [laws_markInt64S.l0]
  rw [if_pos (by omega), if_pos (by omega), w64 (by omega) (by omega), w64 (by omega) (by omega), Int.toNat_natCast]
  congr 1
  omega
 ·
  refine Ev.step (f := fun _ => some (k0 + cntInt64S l, mkInt64S l k0)) (fun k => ?_) (Ev.now _)
  simp only [laws_markInt64S.l0]
  rw [if_neg (by simp)]
  rfl
def bldOk (p : ByteArray) (a b c d : Int) (l : List Int) : Bool := nameOk p && (inB 0 15 a && (inB 0 1000000 b && (inB 0 100000 c && (inB (-4000) 4500 d && (decide (l.length = 24) && l.all (inB 0 3000))))))
theorem bldOk_facts {p : ByteArray} {a b c d : Int} {l : List Int} (h : bldOk p a b c d l = true) : nameOk p = true ∧ p.size ≤ 10 ∧ (0 ≤ a ∧ a ≤ 15) ∧ (0 ≤ b ∧ b ≤ 1000000) ∧ (0 ≤ c ∧ c ≤ 100000) ∧ (-4000 ≤ d ∧ d ≤ 4500) ∧ l.length = 24 ∧ ∀ x ∈ l, 0 ≤ x ∧ x ≤ 3000 := by
 unfold bldOk at h
 simp only [Bool.and_eq_true, decide_eq_true_eq, List.all_eq_true, inB] at h
 obtain ⟨h1, h2, h3, h4, h5, h6, h7⟩ := h
 have hs : p.size ≤ 10 := by
  unfold nameOk at h1
  simp only [Bool.and_eq_true, decide_eq_true_eq] at h1
  exact h1.2.1
 exact ⟨h1, hs, h2, h3, h4, h5, h6, h7⟩
theorem specSmall_eq (c : Int) : spec_l01Small.f c = some (smallC c) := by
 unfold spec_l01Small.f smallC
 by_cases h : c ≥ 97
 ·
  rw [if_pos h, decide_eq_true (show 97 ≤ c from h)]; rfl
 ·
  rw [if_neg h, decide_eq_false (show ¬ 97 ≤ c from h)]; rfl
theorem ev_all {α ρ : Type} (L : Nat → Int → Option ρ) (xs : List α) (d : α) (p : α → Bool) (b c : ρ)
  (step : ∀ i, i < xs.length → p (xs.getD i d) = true → ∀ r, Ev (fun k => L k ((i + 1 : Nat) : Int)) r → Ev (fun k => L k (i : Int)) r)
  (bad : ∀ i, i < xs.length → p (xs.getD i d) = false → Ev (fun k => L k (i : Int)) b)
  (fin : Ev (fun k => L k (xs.length : Int)) c) : Ev (fun k => L k 0) (if xs.all p = true then c else b) := by
 have key : ∀ (m i : Nat), i + m = xs.length → Ev (fun k => L k (i : Int)) (if (xs.drop i).all p = true then c else b) := by
  intro m
  induction m with
  | zero =>
   intro i hi
   have : i = xs.length := by omega
   subst this
   rw [List.drop_length]
   exact fin
  | succ m ih =>
   intro i hi
   have hlt : i < xs.length := by omega
   rw [List.drop_eq_getElem_cons hlt, List.all_cons, ← getD_lt d hlt]
   cases hp : p (xs.getD i d) with
   | true => rw [Bool.true_and]; exact step i hlt hp _ (ih (i + 1) (by omega))
   | false => rw [Bool.false_and, if_neg (by decide)]; exact bad i hlt hp
 exact key xs.length 0 (by omega)
theorem specName_ev (b : ByteArray) : Ev (fun k => spec_l01Name.f k b) (nameOk b) := by
 unfold spec_l01Name.f nameOk
 have hz : b.toList = ([] : List UInt8) ↔ b.size = 0 := by
  rw [ByteArray.toList_eq, show b.size = b.data.toList.length from rfl]
  exact List.length_eq_zero_iff.symm
 by_cases h1 : b.size < 1
 ·
  rw [decide_eq_false (by omega), Bool.false_and]
  simp only [show b.toList = ([] : List UInt8) from hz.2 (by omega), if_true]
  exact Ev.step (f := fun _ => some false) (fun k => by simp [spec_l01Name.j0]) (Ev.now _)
 ·
  rw [decide_eq_true (show 1 ≤ b.size by omega), Bool.true_and]
  simp only [show ¬ b.toList = ([] : List UInt8) from fun e => by have := hz.1 e; omega, if_false]
  by_cases h10 : b.size > 10
  ·
   rw [decide_eq_false (show ¬ b.size ≤ 10 by omega), Bool.false_and]
   simp only [show (b.size : Int) > 10 by omega, if_true]
   exact Ev.step (f := fun _ => some false) (fun k => by simp [spec_l01Name.j0]) (Ev.now _)
  ·
   rw [decide_eq_true (show b.size ≤ 10 by omega), Bool.true_and]
   simp only [show ¬ (b.size : Int) > 10 by omega, if_false, show 0 < (b.size : Int) by omega, if_true, specSmall_eq, Option.bind_some]
   cases hs : smallC (bt b 0) with
   | false =>
    rw [Bool.false_and]
    exact Ev.step (f := fun _ => some false) (fun k => by simp [spec_l01Name.j0]) (Ev.now _)
   | true =>
    rw [Bool.true_and]
    refine Ev.step (f := fun k => spec_l01Name.l0 k b 0) (fun k => by simp [spec_l01Name.j0]) ?_
    have key := ev_all (fun k i => spec_l01Name.l0 k b i) (List.range b.size) 0 (fun i => nameC (bt b i)) false true (fun i hi hp s hs2 => ?_) (fun i hi hp => ?_) ?_
    ·
     revert key
     cases (List.range b.size).all fun i => nameC (bt b i) <;> exact id
    ·
     rw [List.length_range] at hi
     rw [getD_lt 0 (by simpa using hi), List.getElem_range] at hp
     refine Ev.step (fun k => ?_) hs2
     simp only [spec_l01Name.l0]
     rw [if_pos (by omega), if_pos (by omega), specSmall_eq, specDigit_eq]
     simp only [Option.bind_some]
     unfold nameC at hp
     cases h3 : smallC (bt b i) with
     | true => rw [if_pos rfl, w64 (by omega) (by omega)]; rfl
     | false =>
      rw [h3, Bool.false_or] at hp
      rw [hp, if_neg (by decide), if_pos rfl, w64 (by omega) (by omega)]
      rfl
    ·
     rw [List.length_range] at hi
     rw [getD_lt 0 (by simpa using hi), List.getElem_range] at hp
     refine Ev.step (f := fun _ => some false) (fun k => ?_) (Ev.now _)
     simp only [spec_l01Name.l0]
     unfold nameC at hp
     rw [Bool.or_eq_false_iff] at hp
     rw [if_pos (by omega), if_pos (by omega), specSmall_eq, specDigit_eq, hp.1, hp.2]
     rfl
    ·
     refine Ev.step (f := fun _ => some true) (fun k => ?_) (Ev.now _)
     simp only [spec_l01Name.l0]
     rw [List.length_range, if_neg (by omega)]
theorem specBld_ev (p : ByteArray) (a b c d : Int) (l : List Int) (hl : l.length ≤ 4611686018427387904) : Ev (fun k => spec_l05One.f k [(⟨p, a, b, c, d, l⟩ : S51)]) (bldOk p a b c d l) := by
 unfold spec_l05One.f bldOk spec_l05Outdoor.f
 simp only [List.length_singleton, show (0 : Int) < ((1 : Nat) : Int) by decide, if_true, specIn_eq, Option.bind_some]
 refine Ev.bind (specName_ev p) ?_
 have er : rd_T51 [(⟨p, a, b, c, d, l⟩ : S51)] 0 = ⟨p, a, b, c, d, l⟩ := rfl
 simp only [er]
 have jt : Ev (fun k => spec_l05One.j0 k [(⟨p, a, b, c, d, l⟩ : S51)] true) false := Ev.step (f := fun _ => some false) (fun k => by simp [spec_l05One.j0]) (Ev.now _)
 cases nameOk p with
 | false => exact jt
 | true =>
  cases inB 0 15 a with
  | false => exact jt
  | true =>
   cases inB 0 1000000 b with
   | false => exact jt
   | true =>
    cases inB 0 100000 c with
    | false => exact jt
    | true =>
     cases inB (-4000) 4500 d with
     | false => exact jt
     | true =>
      simp only [if_true, Bool.true_and]
      by_cases h24 : l.length = 24
      ·
       rw [decide_eq_true h24, Bool.true_and]
       have e1 : ((l.length : Int) != 24) = false := by rw [h24]; rfl
       rw [e1]
       refine Ev.succ ?_
       simp only [spec_l05One.j0, Bool.false_eq_true, if_false]
       have key := ev_all (fun k i => spec_l05One.l0 k [(⟨p, a, b, c, d, l⟩ : S51)] i) l 0 (inB 0 3000) false true (fun i hi hp r hr => ?_) (fun i hi hp => ?_) ?_
       ·
        revert key
        cases l.all (inB 0 3000) <;> exact id
       ·
        refine Ev.succ ?_
        simp only [spec_l05One.l0, List.length_singleton, er, show (0 : Int) < ((1 : Nat) : Int) by decide, if_true, if_pos (show (i : Int) < (l.length : Int) by omega), if_pos (show (0 : Int) ≤ i by omega), specIn_eq, Option.bind_some, rd_nat, hp, w64 (x := (i : Int) + 1) (by omega) (by omega)]
        exact hr
       ·
        refine Ev.succ ?_
        simp only [spec_l05One.l0, List.length_singleton, er, show (0 : Int) < ((1 : Nat) : Int) by decide, if_true, if_pos (show (i : Int) < (l.length : Int) by omega), if_pos (show (0 : Int) ≤ i by omega), specIn_eq, Option.bind_some, rd_nat, hp, Bool.false_eq_true, if_false]
        exact Ev.now _
       ·
        refine Ev.succ ?_
        simp only [spec_l05One.l0, List.length_singleton, er, show (0 : Int) < ((1 : Nat) : Int) by decide, if_true, if_neg (show ¬ (l.length : Int) < (l.length : Int) by omega)]
        exact Ev.now _
      ·
       rw [decide_eq_false h24, Bool.false_and]
       have e1 : ((l.length : Int) != 24) = true := by
        rw [bne_iff_ne]
        omega
       rw [e1]
       exact jt
theorem implBytes_ev (b : ByteArray) (hb : b.size ≤ 10) : Ev (fun k => impl_onlyNameBytes.f k b) ((List.range b.size).all fun i => nameC (bt b i)) := by
 unfold impl_onlyNameBytes.f
 have key := ev_all (fun k i => impl_onlyNameBytes.l0 k b b.size i) (List.range b.size) 0 (fun i => nameC (bt b i)) false true (fun i hi hp s hs2 => ?_) (fun i hi hp => ?_) ?_
 ·
  revert key
  cases (List.range b.size).all fun i => nameC (bt b i) <;> exact id
 ·
  rw [List.length_range] at hi
  rw [getD_lt 0 (by simpa using hi), List.getElem_range] at hp
  refine Ev.step (fun k => ?_) hs2
  simp only [impl_onlyNameBytes.l0]
  rw [if_pos (by omega), if_pos (by omega), if_pos (by omega), w64 (by omega) (by omega)]
  simp only [nameC, smallC, digitC, Bool.or_eq_true, Bool.and_eq_true, decide_eq_true_eq] at hp
  split
  ·
   rw [if_neg (by omega), if_neg (by omega)]; rfl
  ·
   split
   ·
    omega
   ·
    rfl
 ·
  rw [List.length_range] at hi
  rw [getD_lt 0 (by simpa using hi), List.getElem_range] at hp
  refine Ev.step (f := fun _ => some false) (fun k => ?_) (Ev.now _)
  simp only [impl_onlyNameBytes.l0]
  rw [if_pos (by omega), if_pos (by omega), if_pos (by omega)]
  simp only [nameC, smallC, digitC, Bool.or_eq_false_iff, Bool.and_eq_false_iff, decide_eq_false_iff_not] at hp
  split
  ·
   split
   ·
    rfl
   ·
    rw [if_pos (by omega)]
  ·
   split
   ·
    rw [if_neg (by omega), if_pos (by omega)]
   ·
    omega
 ·
  refine Ev.step (f := fun _ => some true) (fun k => ?_) (Ev.now _)
  simp only [impl_onlyNameBytes.l0]
  rw [List.length_range, if_neg (by omega)]
theorem implName_ev (b : ByteArray) : Ev (fun k => impl_IsName.f k b) (nameOk b) := by
 unfold impl_IsName.f nameOk
 by_cases h1 : b.size < 1
 ·
  rw [decide_eq_false (by omega), Bool.false_and]
  simp only [show (b.size : Int) < 1 by omega, if_true]
  exact Ev.now _
 ·
  rw [decide_eq_true (show 1 ≤ b.size by omega), Bool.true_and]
  simp only [show ¬ (b.size : Int) < 1 by omega, if_false]
  by_cases h10 : b.size > 10
  ·
   rw [decide_eq_false (show ¬ b.size ≤ 10 by omega), Bool.false_and]
   simp only [show (b.size : Int) > 10 by omega, if_true]
   exact Ev.now _
  ·
   rw [decide_eq_true (show b.size ≤ 10 by omega), Bool.true_and]
   simp only [show ¬ (b.size : Int) > 10 by omega, if_false, show 0 < (b.size : Int) by omega, if_true]
   unfold smallC
   by_cases g1 : bt b 0 < 97
   ·
    simp only [g1, if_true, decide_eq_false (show ¬ 97 ≤ bt b 0 by omega), Bool.false_and]
    exact Ev.now _
   ·
    simp only [g1, if_false, decide_eq_true (show 97 ≤ bt b 0 by omega), Bool.true_and]
    by_cases g2 : bt b 0 > 122
    ·
     simp only [g2, if_true, decide_eq_false (show ¬ bt b 0 ≤ 122 by omega), Bool.false_and]
     exact Ev.now _
    ·
     simp only [g2, if_false, decide_eq_true (show bt b 0 ≤ 122 by omega), Bool.true_and]
     refine Ev.bind (implBytes_ev b (by omega)) ?_
     exact Ev.now _
theorem implBld_ev (p : ByteArray) (a b c d : Int) (l : List Int) (hl : l.length ≤ 4611686018427387904) : Ev (fun k => impl_Building_valid.f k p a b c d l) (bldOk p a b c d l) := by
 unfold impl_Building_valid.f bldOk impl_nodeOk.f impl_outdoorOk.f
 refine Ev.bind (implName_ev p) ?_
 simp only [impl_within.f, Option.bind_some]
 cases nameOk p with
 | false => exact Ev.now _
 | true =>
  cases inB 0 15 a with
  | false => exact Ev.now _
  | true =>
   cases inB 0 1000000 b with
   | false => exact Ev.now _
   | true =>
    cases inB 0 100000 c with
    | false => exact Ev.now _
    | true =>
     cases inB (-4000) 4500 d with
     | false => exact Ev.now _
     | true =>
      simp only [if_true, Bool.true_and]
      by_cases h24 : l.length = 24
      ·
       rw [decide_eq_true h24, Bool.true_and]
       simp only [if_pos (show (l.length : Int) = 24 by omega)]
       unfold impl_allWithin.f
       rw [if_pos (by omega)]
       exact Ev.now _
      ·
       rw [decide_eq_false h24, Bool.false_and]
       simp only [if_neg (show ¬ (l.length : Int) = 24 by omega)]
       exact Ev.now _
theorem join_lenG (c : UInt8) (m : Nat) : ∀ xs : List (List UInt8), (∀ x ∈ xs, x.length ≤ m) → (Lib.join xs [c]).length ≤ (m + 1) * xs.length
 | [], _ => by simp [Lib.join_nil]
 | [y], h => by
  have := h y (by simp)
  rw [Lib.join_one, List.length_singleton]
  omega
 | y :: z :: t, h => by
  have ih := join_lenG c m (z :: t) (fun x hx => h x (List.mem_cons_of_mem _ hx))
  have := h y (by simp)
  rw [join_cons2, List.length_append, List.length_cons]
  rw [List.length_cons (a := y), Nat.mul_add, Nat.mul_one]
  omega
theorem ltOk_bd {x : Int} (h : ltOk x = true) : -1000000000000 ≤ x ∧ x ≤ 1000000000000 := by
 unfold ltOk inB at h
 simpa using h
theorem listT_len (l : List Int) : (listT l).data.toList.length ≤ 1408 := by
 unfold listT
 split
 ·
  exact Nat.zero_le _
 ·
  split
  ·
   decide
  ·
   split
   ·
    rename_i h64 _ ha
    have := join_lenG 44 21 (l.map Lib.itoa) (fun x hx => by
     obtain ⟨y, hy, rfl⟩ := List.mem_map.1 hx
     have := ltOk_bd (List.all_eq_true.1 ha y hy)
     exact Lib.itoa_length_le y (by omega) (by omega))
    rw [List.length_map] at this
    show (Lib.join (l.map Lib.itoa) [44]).length ≤ 1408
    omega
   ·
    exact Nat.zero_le _
def bldT (p : ByteArray) (a b c d : Int) (l : List Int) : List UInt8 := p.data.toList ++ 32 :: ((listT [a, b, c, d]).data.toList ++ 32 :: (listT l).data.toList)
theorem implBldText_ev (p : ByteArray) (a b c d : Int) (l : List Int) (hl : l.length ≤ 4611686018427387904) : Ev (fun k => impl_BuildingText.f k p a b c d l) (if bldOk p a b c d l = true then mkB (bldT p a b c d l) else ⟨#[]⟩) := by
 unfold impl_BuildingText.f
 refine Ev.bind (implBld_ev p a b c d l hl) ?_
 cases h : bldOk p a b c d l with
 | false => exact Ev.now _
 | true =>
  simp only [if_true]
  obtain ⟨_, hs, _⟩ := bldOk_facts h
  have s1 := listT_len [a, b, c, d]
  have s2 := listT_len l
  have r1 : listT [a, b, c, d] = mkB (listT [a, b, c, d]).data.toList := (mkB_of _).symm
  have r2 : listT l = mkB (listT l).data.toList := (mkB_of _).symm
  have hp : p = mkB p.data.toList := (mkB_of _).symm
  have hps : p.data.toList.length = p.size := rfl
  unfold bldT
  generalize (listT [a, b, c, d]).data.toList = T1 at *
  generalize (listT l).data.toList = T2 at *
  generalize p.data.toList = P at *
  unfold impl_withId.f impl_ListText.f
  simp only [Option.bind_some, r1, r2, hp]
  have e1 : mkB P ++ (⟨#[32]⟩ : ByteArray) = mkB (P ++ [32]) := mkB_append P [32]
  have e2 : mkB ((P ++ [32]) ++ T1) ++ (⟨#[32]⟩ : ByteArray) = mkB (((P ++ [32]) ++ T1) ++ [32]) := mkB_append _ [32]
  rw [if_pos (by rw [mkB_size]; omega), e1, if_pos (by rw [mkB_size, mkB_size, List.length_append, List.length_singleton]; omega)]
  simp only [Option.bind_some, mkB_append]
  rw [if_pos (by rw [mkB_size, List.length_append, List.length_append, List.length_singleton]; omega), e2, if_pos (by rw [mkB_size, mkB_size, List.length_append, List.length_append, List.length_append, List.length_singleton]; omega), mkB_append]
  exact Ev.now' (by simp)
theorem spl3_of {c : UInt8} {l : List UInt8} (h : (spl c l).length = 3) : ∃ p q r, spl c l = [p, q, r] := by
 match h2 : spl c l, h with
 | [p, q, r], _ => exact ⟨p, q, r, rfl⟩
theorem heldInt64S_ev (l : List Int) (k0 : Int) (h : okInt64S l) (h0 : 0 ≤ k0) (h1 : k0 ≤ 1000000000000000) : Ev (fun k => laws_heldInt64S.f k (mkInt64S l k0) k0) (k0 + cntInt64S l) := by
 unfold okInt64S at h
 unfold laws_heldInt64S.f
 have key : ∀ (m i : Nat), i + m = l.length → Ev (fun k => laws_heldInt64S.l0 k (mkInt64S l k0) (k0 + i) i) (k0 + cntInt64S l) := by
  intro m
  induction m with
  | zero =>
   intro i hi
   refine Ev.step (f := fun _ => some (k0 + cntInt64S l)) (fun k => ?_) (Ev.now _)
   simp only [laws_heldInt64S.l0]
   rw [if_neg (by rw [mkInt64S_len]; omega)]
   unfold cntInt64S
   congr 2
   omega
  | succ m ih =>
   intro i hi
   refine Ev.step (fun k => ?_) (ih (i + 1) (by omega))
   simp only [laws_heldInt64S.l0]
   rw [if_pos (by rw [mkInt64S_len]; omega), if_pos (by omega), rd_nat, show (mkInt64S l k0).getD i 0 = k0 + i from getD_map_range _ _ _ (by omega), if_pos rfl, w64 (by omega) (by omega), w64 (by omega) (by omega)]
   congr 1
   omega
 simpa using key l.length 0 (by omega)
abbrev BR := ByteArray × Int × Int × Int × Int × List Int × Bool
def zB : BR := (⟨#[]⟩, 0, 0, 0, 0, [], false)
abbrev numsOk (q r : List UInt8) : Prop := (rlist q).2 = true ∧ (rlist q).1.length = 4 ∧ (rlist r).2 = true
def okB (p q r : List UInt8) : Bool := bldOk (mkB p) (rd (rlist q).1 0) (rd (rlist q).1 1) (rd (rlist q).1 2) (rd (rlist q).1 3) (rlist r).1
def vB (p q r : List UInt8) : BR := (mkB p, rd (rlist q).1 0, rd (rlist q).1 1, rd (rlist q).1 2, rd (rlist q).1 3, (rlist r).1, true)
def rbld (l : List UInt8) : BR := match spl 32 l with
 | [p, q, r] => if numsOk q r ∧ okB p q r = true then vB p q r else zB
 | _ => zB
theorem rbld_3 {l p q r : List UInt8} (h : spl 32 l = [p, q, r]) : rbld l = if numsOk q r ∧ okB p q r = true then vB p q r else zB := by
 unfold rbld
 rw [h]
theorem rbld_n {l : List UInt8} (h : (spl 32 l).length ≠ 3) : rbld l = zB := by
 unfold rbld
 split
 ·
  rename_i p q r hs
  rw [hs] at h
  exact absurd rfl h
 ·
  rfl
theorem rlist_short (l : List UInt8) : (rlist l).1.length ≤ 64 := by
 unfold rlist
 split
 ·
  decide
 ·
  split
  ·
   decide
  ·
   split
   ·
    rename_i h64 _ vs hv
    split
    ·
     have := (allN_some hv).1
     show vs.length ≤ 64
     omega
    ·
     decide
   ·
    decide
theorem rbld_ok (l : List UInt8) : okInt64S (rbld l).2.2.2.2.2.1 := by
 unfold rbld
 split
 ·
  split
  ·
   rename_i r _ _
   show (rlist r).1.length ≤ 1048576
   have := rlist_short r
   omega
  ·
   exact Nat.zero_le _
 ·
  exact Nat.zero_le _
theorem specBuild_ev (b : ByteArray) (hb : b.size ≤ 1048576) : Ev (fun k => spec_ReadBuilding.f k b) (rbld b.data.toList) := by
 have hz := size_of b
 unfold spec_ReadBuilding.f
 refine Ev.bind (specSplit_ev b 32 hb) ?_
 rw [List.length_map]
 by_cases h3 : (spl 32 b.data.toList).length = 3
 ·
  obtain ⟨p, q, r, hs⟩ := spl3_of h3
  have hq := spl_piece (c := 32) (l := b.data.toList) (p := q) (by rw [hs]; simp)
  have hr := spl_piece (c := 32) (l := b.data.toList) (p := r) (by rw [hs]; simp)
  rw [rbld_3 hs, hs]
  have e1 : rdOf ByteArray.empty ([p, q, r].map mkB) 1 = mkB q := rfl
  have e2 : rdOf ByteArray.empty ([p, q, r].map mkB) 2 = mkB r := rfl
  have el : [p, q, r].length = 3 := rfl
  simp only [el, show (((3 : Nat) : Int) = 3) = True from eq_true rfl, show ((1 : Int) < ((3 : Nat) : Int)) = True from eq_true (by decide), show ((2 : Int) < ((3 : Nat) : Int)) = True from eq_true (by decide), if_true, e1, e2]
  refine Ev.bind (specList_ev (mkB q) (by rw [mkB_size]; omega)) ?_
  refine Ev.bind (specList_ev (mkB r) (by rw [mkB_size]; omega)) ?_
  rw [mkB_toList, mkB_toList]
  have jt : ∀ (x y : List Int), Ev (fun k => spec_ReadBuilding.j0 k ([p, q, r].map mkB) x y true) zB := fun x y => Ev.step (f := fun _ => some zB) (fun k => by simp [spec_ReadBuilding.j0, zB]) (Ev.now _)
  by_cases h1 : (rlist q).2 = true
  ·
   by_cases h2 : (rlist r).2 = true
   ·
    simp only [h1, h2, if_true]
    by_cases hl : (rlist q).1.length = 4
    ·
     have en : (((rlist q).1.length : Int) != 4) = false := by rw [hl]; rfl
     rw [en]
     refine Ev.succ ?_
     have e0 : rdOf ByteArray.empty ([p, q, r].map mkB) 0 = mkB p := rfl
     have el2 : ([p, q, r].map mkB).length = 3 := rfl
     have hsh := rlist_short r
     simp only [spec_ReadBuilding.j0, Bool.false_eq_true, if_false, el2, hl, show ((0 : Int) < ((3 : Nat) : Int)) = True from eq_true (by decide), show ((0 : Int) < ((4 : Nat) : Int)) = True from eq_true (by decide), show ((1 : Int) < ((4 : Nat) : Int)) = True from eq_true (by decide), show ((2 : Int) < ((4 : Nat) : Int)) = True from eq_true (by decide), show ((3 : Int) < ((4 : Nat) : Int)) = True from eq_true (by decide), if_true, e0]
     refine Ev.bind (specBld_ev (mkB p) _ _ _ _ (rlist r).1 (by omega)) ?_
     have hn : numsOk q r := ⟨h1, hl, h2⟩
     show Ev (fun _ => if okB p q r = true then some (vB p q r) else some zB) _
     cases hk : okB p q r with
     | true => simp only [if_true, eq_true hn, and_self]; exact Ev.now _
     | false => simp only [Bool.false_eq_true, and_false, if_false]; exact Ev.now _
    ·
     have en : (((rlist q).1.length : Int) != 4) = true := by
      rw [bne_iff_ne]
      omega
     rw [en, if_neg (fun h => hl h.1.2.1)]
     exact jt _ _
   ·
    rw [if_neg (show ¬ (numsOk q r ∧ okB p q r = true) from fun h => h2 h.1.2.2)]
    simp only [h1, h2, if_true, if_false]
    exact jt _ _
  ·
   rw [if_neg (show ¬ (numsOk q r ∧ okB p q r = true) from fun h => h1 h.1.1)]
   simp only [h1, if_false]
   exact jt _ _
 ·
  rw [rbld_n h3]
  simp only [if_neg (show ¬ ((spl 32 b.data.toList).length : Int) = 3 by omega)]
  exact Ev.now _
theorem implBuild_ev (b : ByteArray) (hb : b.size ≤ 1048576) : Ev (fun k => impl_ReadBuilding.f k b) (rbld b.data.toList) := by
 have hz := size_of b
 unfold impl_ReadBuilding.f
 have hsp : strings_Split.f b (⟨#[32]⟩ : ByteArray) = some ((spl 32 b.data.toList).map mkB) := by
  unfold strings_Split.f
  rw [if_pos ⟨by omega, by decide⟩]
  exact congrArg some (splitAll b 32)
 rw [hsp]
 simp only [Option.bind_some, List.length_map]
 by_cases h3 : (spl 32 b.data.toList).length = 3
 ·
  obtain ⟨p, q, r, hs⟩ := spl3_of h3
  have hq := spl_piece (c := 32) (l := b.data.toList) (p := q) (by rw [hs]; simp)
  have hr := spl_piece (c := 32) (l := b.data.toList) (p := r) (by rw [hs]; simp)
  have hj := join_spl 32 b.data.toList
  rw [hs, join_cons2, join_cons2, Lib.join_one] at hj
  rw [rbld_3 hs, hs]
  have e0 : rdOf ByteArray.empty ([p, q, r].map mkB) 0 = mkB p := rfl
  have e1 : rdOf ByteArray.empty ([p, q, r].map mkB) 1 = mkB q := rfl
  have e2 : rdOf ByteArray.empty ([p, q, r].map mkB) 2 = mkB r := rfl
  have el : [p, q, r].length = 3 := rfl
  simp only [el, show (((3 : Nat) : Int) = 3) = True from eq_true rfl, show ((0 : Int) < ((3 : Nat) : Int)) = True from eq_true (by decide), show ((1 : Int) < ((3 : Nat) : Int)) = True from eq_true (by decide), show ((2 : Int) < ((3 : Nat) : Int)) = True from eq_true (by decide), if_true, e0, e1, e2]
  refine Ev.bind (implNums_ev (mkB q) 4 (by rw [mkB_size]; omega) (by decide)) ?_
  refine Ev.bind (implList_ev (mkB r) (by rw [mkB_size]; omega)) ?_
  rw [mkB_toList, mkB_toList]
  have f4 : ((0 : Int) < ((4 : Nat) : Int)) = True ∧ ((1 : Int) < ((4 : Nat) : Int)) = True ∧ ((2 : Int) < ((4 : Nat) : Int)) = True ∧ ((3 : Int) < ((4 : Nat) : Int)) = True := by decide
  by_cases hok : (rlist q).2 = true ∧ (rlist q).1.length = 4
  ·
   simp only [if_pos hok]
   simp only [hok.2, f4.1, f4.2.1, f4.2.2.1, f4.2.2.2, if_true]
   by_cases h2 : (rlist r).2 = true
   ·
    simp only [h2, if_true]
    have hn : numsOk q r := ⟨hok.1, hok.2, h2⟩
    have hsh := rlist_short r
    have ht1 := (rlist_text (l := q) (vs := (rlist q).1) (by rw [← hok.1])).1
    have ht2 := (rlist_text (l := r) (vs := (rlist r).1) (by rw [← h2])).1
    have hvs : [rd (rlist q).1 0, rd (rlist q).1 1, rd (rlist q).1 2, rd (rlist q).1 3] = (rlist q).1 := by
     match (rlist q).1, hok.2 with
     | [x, y, z, u], _ => rfl
    have htx : bldT (mkB p) (rd (rlist q).1 0) (rd (rlist q).1 1) (rd (rlist q).1 2) (rd (rlist q).1 3) (rlist r).1 = b.data.toList := by
     unfold bldT
     rw [hvs, ht1, ht2, mkB_toList, mkB_toList, mkB_toList, hj]
    refine Ev.bind (implBldText_ev (mkB p) _ _ _ _ (rlist r).1 (by omega)) ?_
    rw [htx, mkB_of]
    have hne : ¬ (⟨#[]⟩ : ByteArray).toList = b.toList := fun e => by
     rw [ByteArray.toList_eq, ByteArray.toList_eq, ← hj] at e
     exact absurd e.symm (by simp)
    show Ev (fun _ => if (if okB p q r = true then b else ⟨#[]⟩).toList = b.toList then some (vB p q r) else some zB) _
    cases hk : okB p q r with
    | true =>
     simp only [if_true, eq_true hn, and_self]
     exact Ev.now _
    | false =>
     simp only [Bool.false_eq_true, and_false, if_false, if_neg hne]
     exact Ev.now _
   ·
    rw [if_neg (show ¬ (numsOk q r ∧ okB p q r = true) from fun h => h2 h.1.2.2)]
    simp only [h2, if_false]
    exact Ev.now _
  ·
   rw [if_neg (show ¬ (numsOk q r ∧ okB p q r = true) from fun h => hok ⟨h.1.1, h.1.2.1⟩)]
   simp only [if_neg hok, List.length_replicate, f4.1, f4.2.1, f4.2.2.1, f4.2.2.2, if_true, Bool.false_eq_true, if_false]
   exact Ev.now _
 ·
  rw [rbld_n h3]
  simp only [if_neg (show ¬ ((spl 32 b.data.toList).length : Int) = 3 by omega)]
  exact Ev.now _
theorem eqB_ev (p : ByteArray) (a b c d : Int) (l : List Int) (h : okInt64S l) : Ev (fun k => laws_eqBuilding.f k p a b c d l p a b c d l) true := by
 unfold okInt64S at h
 unfold laws_eqBuilding.f
 simp only [if_true]
 exact Ev.bind (eqInt64S_ev l (by omega)) (Ev.now _)
theorem heldB_ev (p : ByteArray) (a b c d : Int) (l : List Int) (h : okInt64S l) : Ev (fun k => laws_heldBuilding.f k p a b c d (mkInt64S l 1) 1) (1 + cntInt64S l) := by
 unfold laws_heldBuilding.f
 have cb := cntInt64S_bd l h
 refine Ev.bind (heldInt64S_ev l 1 h (by decide) (by decide)) ?_
 simp only [if_neg (show ¬ (1 + cntInt64S l) < 0 by omega)]
 exact Ev.now _
theorem markB_ev (p : ByteArray) (a b c d : Int) (l : List Int) (h : okInt64S l) : Ev (fun k => laws_markBuilding.f k p a b c d l 1) (1 + cntInt64S l, mkInt64S l 1) := by
 unfold laws_markBuilding.f
 exact Ev.bind (markInt64S_ev l 1 h (by decide) (by decide)) (Ev.now _)
theorem FnExactReadBuilding : laws_FnExactReadBuilding.Pure := by
 intro a0 _
 have h : Ev (fun k => laws_FnExactReadBuilding.f k a0) true := by
  unfold laws_FnExactReadBuilding.f
  by_cases hb : a0.size ≤ 1048576
  ·
   simp only [if_neg (show ¬ (a0.size : Int) > 1048576 by omega)]
   have ok := rbld_ok a0.data.toList
   refine Ev.bind (specBuild_ev a0 hb) ?_
   refine Ev.bind (implBuild_ev a0 hb) ?_
   have hi := implBuild_ev a0 hb
   generalize rbld a0.data.toList = x at ok hi
   obtain ⟨p, a, b, c, d, l, s⟩ := x
   have cb := cntInt64S_bd l ok
   refine Ev.bind (eqB_ev p a b c d l ok) ?_
   simp only [if_true, bne_self_eq_false]
   refine Ev.succ ?_
   simp only [laws_FnExactReadBuilding.j0, Bool.false_eq_true, if_false]
   refine Ev.bind (markB_ev p a b c d l ok) ?_
   refine Ev.bind (heldB_ev p a b c d l ok) ?_
   simp only [if_neg (show ¬ (1 + cntInt64S l) < 0 by omega), if_true]
   refine Ev.bind hi ?_
   refine Ev.bind (eqB_ev p a b c d l ok) ?_
   simp only [if_true, bne_self_eq_false]
   refine Ev.succ ?_
   simp only [laws_FnExactReadBuilding.j1, Bool.false_eq_true, if_false]
   refine Ev.bind (heldB_ev p a b c d l ok) ?_
   simp only [if_neg (show ¬ (1 + cntInt64S l) < 0 by omega), if_true]
   exact Ev.now _
  ·
   simp only [if_pos (show (a0.size : Int) > 1048576 by omega)]
   exact Ev.now _
 obtain ⟨K, h⟩ := h
 exact ⟨K, h K (Nat.le_refl _)⟩
end Go.Proofs.YtgkmfgkkmahmoaaDoor.Pure
