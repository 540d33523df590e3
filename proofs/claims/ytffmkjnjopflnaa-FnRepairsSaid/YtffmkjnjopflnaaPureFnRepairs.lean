/- FnRepairs: each repair ends after its hours and not before it may begin, and no order leaves less heat unserved than the best one. -/
import Derived.Test.YtffmkjnjopflnaaPFnRepairsx0
import Derived.Test.YtffmkjnjopflnaaPFnRepairsx1
import Derived.Test.YtffmkjnjopflnaaPFnRepairsx2
import Derived.Test.YtffmkjnjopflnaaPFnRepairsx3
import Derived.Test.YtffmkjnjopflnaaPFnRepairsx4
import Derived.Test.YtffmkjnjopflnaaPFnRepairsx5
import Derived.Test.YtffmkjnjopflnaaPFnRepairsx6
import Derived.Test.YtffmkjnjopflnaaPFnRepairsx7
import Derived.Test.YtffmkjnjopflnaaPFnRepairsx8
namespace Go.Proofs.Ytffmkjnjopflnaa.Pure
open Go.RowKit Go.Proofs.Ytffmkjnjopflnaa.PFnRepairs Go.Proofs.YtffmkjnjopflnaaW.PrintWords Go.Proofs.YtffmkjnjopflnaaW.PrintLast Go.Proofs.YtffmkjnjopflnaaW.PrintMore
set_option linter.unusedVariables false
set_option linter.unusedSimpArgs false
theorem w64 {x : Int} (h0 : -9223372036854775808 ≤ x) (h1 : x ≤ 9223372036854775807) : wrap64 x = x := by unfold wrap64; omega
theorem rd_nat (l : List Int) (i : Nat) : rd l (i : Int) = l.getD i 0 := by unfold rd; rw [Int.toNat_natCast]
theorem getD_mem {α : Type} {l : List α} {i : Nat} (d : α) (h : i < l.length) : l.getD i d ∈ l := by
 rw [List.getD_eq_getElem?_getD, List.getElem?_eq_getElem h]; exact List.getElem_mem _
theorem getD_lt {α : Type} {l : List α} {i : Nat} (d : α) (h : i < l.length) : l.getD i d = l[i] := by
 rw [List.getD_eq_getElem?_getD, List.getElem?_eq_getElem h]; rfl
theorem take_succ_getD {α : Type} (l : List α) (d : α) {i : Nat} (h : i < l.length) : l.take (i + 1) = l.take i ++ [l.getD i d] := by
 rw [List.take_succ_eq_append_getElem h, getD_lt d h]
theorem Ev.succ {α : Type} {g : Nat → Option α} {r : α} (h : Ev (fun k => g (k + 1)) r) : Ev g r := Ev.step (fun _ => rfl) h
theorem Ev.now' {α : Type} {a b : α} (h : a = b) : Ev (fun _ => some a) b := h ▸ Ev.now a
def SrcOk (l0 : List Int) : Prop := l0.length ≤ 1048576 ∧ ∀ x ∈ l0, 0 ≤ x ∧ x ≤ 255
theorem wrapu64_rng (n : Int) : 0 ≤ IntKind.u64.wrap n ∧ IntKind.u64.wrap n < 18446744073709551616 := by
 have e : IntKind.u64.wrap n = n % 18446744073709551616 := by simp [IntKind.wrap, IntKind.bits, IntKind.signed]
 rw [e]
 omega
theorem seed_byte (n : Int) : 0 ≤ Go.bits .and .u64 (IntKind.u64.wrap n / 1099511627776) 255 ∧ Go.bits .and .u64 (IntKind.u64.wrap n / 1099511627776) 255 ≤ 255 := by
 obtain ⟨h0, h1⟩ := wrapu64_rng n
 have e := bits_mask .u64 32 (by decide) (fun m a b => by
  have e : IntKind.u64.wrap m = m % 18446744073709551616 := by simp [IntKind.wrap, IntKind.bits, IntKind.signed]
  rw [e]; omega) 8 (by decide) (IntKind.u64.wrap n / 1099511627776) (by omega) (by omega)
 have e2 : Go.bits .and .u64 (IntKind.u64.wrap n / 1099511627776) 255 = (IntKind.u64.wrap n / 1099511627776) % 256 := e
 rw [e2]
 omega
theorem next_eq {l0 : List Int} (h : SrcOk l0) (s t : Int) (h0 : 0 ≤ s) (h1 : s ≤ 1000000000000) : ∃ r t', spec_l00Src_next.f l0 s t = some (r, s + 1, t') ∧ 0 ≤ r ∧ r ≤ 255 := by
 obtain ⟨hl, hx⟩ := h
 unfold spec_l00Src_next.f
 rw [w64 (x := s + 1) (by omega) (by omega)]
 have hb : ∀ n, ∃ t', (some (wrap64 (Go.bits .and .u64 ((IntKind.u64.wrap n) / 1099511627776) 255), s + 1, IntKind.u64.wrap n) : Option (Int × Int × Int)) = some (wrap64 (Go.bits .and .u64 ((IntKind.u64.wrap n) / 1099511627776) 255), s + 1, t') := fun n => ⟨_, rfl⟩
 by_cases c : s < (l0.length : Int)
 ·
  rw [if_pos c, if_pos h0, if_pos (by omega)]
  have hr : 0 ≤ rd l0 s ∧ rd l0 s ≤ 255 := by
   have e : rd l0 s = l0.getD s.toNat 0 := rfl
   rw [e]
   exact hx _ (getD_mem 0 (by omega))
  rw [w64 (x := rd l0 s) (by omega) (by omega)]
  exact ⟨_, _, rfl, hr.1, hr.2⟩
 ·
  rw [if_neg c]
  by_cases d : s + 1 ≤ (l0.length : Int)
  ·
   omega
  ·
   rw [if_neg d]
   refine ⟨_, _, rfl, ?_⟩
   have hb := seed_byte ((IntKind.u64.wrap ((IntKind.u64.wrap (t * 6364136223846793005)) + 0)) + 1442695040888963407)
   rw [w64 (by omega) (by omega)]
   exact hb
theorem pick_eq {l0 : List Int} (h : SrcOk l0) (s t n : Int) (h0 : 0 ≤ s) (h1 : s ≤ 900000000000) (hn : 1 ≤ n) (hn2 : n ≤ 60000) : ∃ r s' t', spec_l00Src_pick.f l0 s t n = some (r, s', t') ∧ 0 ≤ r ∧ r < n ∧ s ≤ s' ∧ s' ≤ s + 2 := by
 unfold spec_l00Src_pick.f
 by_cases c : n ≤ 1
 ·
  rw [if_pos c]
  exact ⟨_, _, _, rfl, by omega, by omega, by omega, by omega⟩
 ·
  rw [if_neg c]
  obtain ⟨r, t', e, r0, r1⟩ := next_eq h s t h0 (by omega)
  rw [e]
  simp only [Option.bind_some]
  by_cases d : n > 200
  ·
   rw [if_pos d]
   obtain ⟨r2, t2, e2, r20, r21⟩ := next_eq h (s + 1) t' (by omega) (by omega)
   rw [e2]
   simp only [Option.bind_some]
   rw [if_neg (by omega), w64 (x := r * 256) (by omega) (by omega), w64 (by omega) (by omega)]
   refine ⟨_, _, _, rfl, Int.tmod_nonneg _ (by omega), Int.tmod_lt_of_pos _ (by omega), by omega, by omega⟩
  ·
   rw [if_neg d, if_neg (by omega)]
   refine ⟨_, _, _, rfl, Int.tmod_nonneg _ (by omega), Int.tmod_lt_of_pos _ (by omega), by omega, by omega⟩
theorem one_eq {l0 : List Int} (h : SrcOk l0) (s t n : Int) (h0 : 0 ≤ s) (h1 : s ≤ 900000000000) (hn : 1 ≤ n) (hn2 : n ≤ 60000) : ∃ r s' t', spec_l00Src_one.f l0 s t n = some (r, s', t') ∧ s ≤ s' ∧ s' ≤ s + 2 := by
 obtain ⟨r, s', t', e, _, _, a, b⟩ := pick_eq h s t n h0 h1 hn hn2
 unfold spec_l00Src_one.f
 rw [e]
 exact ⟨_, _, _, rfl, a, b⟩
def smallC (c : Int) : Bool := decide (97 ≤ c) && decide (c ≤ 122)
def digitC (c : Int) : Bool := decide (48 ≤ c) && decide (c ≤ 57)
def nameC (c : Int) : Bool := smallC c || digitC c
def nameOk (b : ByteArray) : Bool := decide (1 ≤ b.size) && (decide (b.size ≤ 10) && (smallC (bt b 0) && (List.range b.size).all fun i => nameC (bt b i)))
def zP : S43 := z43
def rdP (l : List S43) (i : Nat) : S43 := l.getD i zP
theorem rdP_eq (l : List S43) (i : Nat) : rd_T43 l (i : Int) = rdP l i := by
 unfold rd_T43 rdP zP
 rw [Int.toNat_natCast]
def repR (x : S43) : Bool := inB 1 100 x.f1 && (inB 0 100000 x.f2 && inB 0 1000 x.f3)
def repOk (x : S43) : Bool := nameOk x.f0 && repR x
def okP (l : List S43) (i : Nat) : Bool := repOk (rdP l i) && (i == 0 || Op.bytesLess (rdP l (i - 1)).f0.toList (rdP l i).f0.toList)
def repsOk (l : List S43) : Bool := decide ((l.length : Int) ≤ 8) && (List.range l.length).all (okP l)
theorem repsOk_facts {l : List S43} (h : repsOk l = true) : l.length ≤ 8 ∧ ∀ i, i < l.length → repR (rdP l i) = true := by
 unfold repsOk at h
 simp only [Bool.and_eq_true, decide_eq_true_eq, List.all_eq_true] at h
 refine ⟨by omega, fun i hi => ?_⟩
 have h2 := h.2 i (by simpa using hi)
 unfold okP repOk at h2
 simp only [Bool.and_eq_true] at h2
 exact h2.1.2
theorem getD_rangeP {n i : Nat} (h : i < n) : (List.range n).getD i 0 = i := by
 rw [getD_lt 0 (by simpa using h), List.getElem_range]
theorem ev_all {α ρ : Type} (L : Nat → Int → Option ρ) (xs : List α) (d : α) (p : α → Bool) (b c : ρ)
  (step : ∀ i, i < xs.length → p (xs.getD i d) = true → ∀ r, Ev (fun k => L k ((i + 1 : Nat) : Int)) r → Ev (fun k => L k (i : Int)) r)
  (bad : ∀ i, i < xs.length → p (xs.getD i d) = false → Ev (fun k => L k (i : Int)) b)
  (fin : Ev (fun k => L k (xs.length : Int)) c) : Ev (fun k => L k 0) (if xs.all p = true then c else b) := by
 have key : ∀ (m i : Nat), i + m = xs.length → Ev (fun k => L k (i : Int)) (if (xs.drop i).all p = true then c else b) := by
  intro m
  induction m with
  | zero =>
   intro i hi
   have : i = xs.length := by omega
   subst this
   rw [List.drop_length]
   exact fin
  | succ m ih =>
   intro i hi
   have hlt : i < xs.length := by omega
   rw [List.drop_eq_getElem_cons hlt, List.all_cons, ← getD_lt d hlt]
   cases hp : p (xs.getD i d) with
   | true => rw [Bool.true_and]; exact step i hlt hp _ (ih (i + 1) (by omega))
   | false => rw [Bool.false_and, if_neg (by decide)]; exact bad i hlt hp
 exact key xs.length 0 (by omega)
theorem implBytes_ev (b : ByteArray) (hb : b.size ≤ 10) : Ev (fun k => impl_onlyNameBytes.f k b) ((List.range b.size).all fun i => nameC (bt b i)) := by
 unfold impl_onlyNameBytes.f
 have key := ev_all (fun k i => impl_onlyNameBytes.l0 k b b.size i) (List.range b.size) 0 (fun i => nameC (bt b i)) false true (fun i hi hp s hs2 => ?_) (fun i hi hp => ?_) ?_
 ·
  revert key
  cases (List.range b.size).all fun i => nameC (bt b i) <;> exact id
 ·
  rw [List.length_range] at hi
  rw [getD_lt 0 (by simpa using hi), List.getElem_range] at hp
  refine Ev.step (fun k => ?_) hs2
  simp only [impl_onlyNameBytes.l0]
  rw [if_pos (by omega), if_pos (by omega), if_pos (by omega), w64 (by omega) (by omega)]
  simp only [nameC, smallC, digitC, Bool.or_eq_true, Bool.and_eq_true, decide_eq_true_eq] at hp
  split
  ·
   rw [if_neg (by omega), if_neg (by omega)]; rfl
  ·
   split
   ·
    omega
   ·
    rfl
 ·
  rw [List.length_range] at hi
  rw [getD_lt 0 (by simpa using hi), List.getElem_range] at hp
  refine Ev.step (f := fun _ => some false) (fun k => ?_) (Ev.now _)
  simp only [impl_onlyNameBytes.l0]
  rw [if_pos (by omega), if_pos (by omega), if_pos (by omega)]
  simp only [nameC, smallC, digitC, Bool.or_eq_false_iff, Bool.and_eq_false_iff, decide_eq_false_iff_not] at hp
  split
  ·
   split
   ·
    rfl
   ·
    rw [if_pos (by omega)]
  ·
   split
   ·
    rw [if_neg (by omega), if_pos (by omega)]
   ·
    omega
 ·
  refine Ev.step (f := fun _ => some true) (fun k => ?_) (Ev.now _)
  simp only [impl_onlyNameBytes.l0]
  rw [List.length_range, if_neg (by omega)]
theorem implName_ev (b : ByteArray) : Ev (fun k => impl_IsName.f k b) (nameOk b) := by
 unfold impl_IsName.f nameOk
 by_cases h1 : b.size < 1
 ·
  rw [decide_eq_false (by omega), Bool.false_and]
  simp only [show (b.size : Int) < 1 by omega, if_true]
  exact Ev.now _
 ·
  rw [decide_eq_true (show 1 ≤ b.size by omega), Bool.true_and]
  simp only [show ¬ (b.size : Int) < 1 by omega, if_false]
  by_cases h10 : b.size > 10
  ·
   rw [decide_eq_false (show ¬ b.size ≤ 10 by omega), Bool.false_and]
   simp only [show (b.size : Int) > 10 by omega, if_true]
   exact Ev.now _
  ·
   rw [decide_eq_true (show b.size ≤ 10 by omega), Bool.true_and]
   simp only [show ¬ (b.size : Int) > 10 by omega, if_false, show 0 < (b.size : Int) by omega, if_true]
   unfold smallC
   by_cases g1 : bt b 0 < 97
   ·
    simp only [g1, if_true, decide_eq_false (show ¬ 97 ≤ bt b 0 by omega), Bool.false_and]
    exact Ev.now _
   ·
    simp only [g1, if_false, decide_eq_true (show 97 ≤ bt b 0 by omega), Bool.true_and]
    by_cases g2 : bt b 0 > 122
    ·
     simp only [g2, if_true, decide_eq_false (show ¬ bt b 0 ≤ 122 by omega), Bool.false_and]
     exact Ev.now _
    ·
     simp only [g2, if_false, decide_eq_true (show bt b 0 ≤ 122 by omega), Bool.true_and]
     refine Ev.bind (implBytes_ev b (by omega)) ?_
     exact Ev.now _
theorem implRep_ev (x : S43) : Ev (fun k => impl_Repair_valid.f k x.f0 x.f1 x.f2 x.f3) (repOk x) := by
 unfold impl_Repair_valid.f repOk repR
 refine Ev.bind (implName_ev x.f0) ?_
 simp only [impl_within.f, Option.bind_some]
 show Ev (fun _ => if nameOk x.f0 = true then (if inB 1 100 x.f1 = true then (if inB 0 100000 x.f2 = true then some (inB 0 1000 x.f3) else some false) else some false) else some false) _
 cases nameOk x.f0 <;> cases inB 1 100 x.f1 <;> cases inB 0 100000 x.f2 <;> cases inB 0 1000 x.f3 <;> exact Ev.now _
theorem implReps_ev (l : List S43) (hl : l.length ≤ 4611686018427387904) : Ev (fun k => impl_ValidRepairs.f k l) (repsOk l) := by
 unfold impl_ValidRepairs.f
 by_cases h8 : (l.length : Int) > 8
 ·
  simp only [if_pos h8]
  have : repsOk l = false := by
   unfold repsOk
   rw [decide_eq_false (by omega), Bool.false_and]
  rw [this]
  exact Ev.now _
 ·
  simp only [if_neg h8]
  have : repsOk l = (List.range l.length).all (okP l) := by
   unfold repsOk
   rw [decide_eq_true (by omega), Bool.true_and]
  rw [this]
  have key := ev_all (fun k i => impl_ValidRepairs.l0 k l l (l.length : Int) i) (List.range l.length) 0 (okP l) false true (fun i hi hp r hr => ?_) (fun i hi hp => ?_) ?_
  ·
   revert key
   cases (List.range l.length).all (okP l) <;> exact id
  ·
   rw [List.length_range] at hi
   rw [getD_rangeP hi] at hp
   refine Ev.succ ?_
   simp only [impl_ValidRepairs.l0, if_pos (show (i : Int) < (l.length : Int) by omega), if_pos (show (0 : Int) ≤ i by omega), rdP_eq]
   refine Ev.bind (implRep_ev (rdP l i)) ?_
   unfold okP at hp
   rw [Bool.and_eq_true] at hp
   rw [hp.1]
   simp only [if_true, w64 (x := (i : Int) + 1) (by omega) (by omega)]
   by_cases h0 : i = 0
   ·
    subst h0
    simp only [if_neg (show ¬ ((0 : Nat) : Int) > 0 by decide)]
    exact hr
   ·
    have e : wrap64 ((i : Int) - 1) = ((i - 1 : Nat) : Int) := by
     rw [w64 (by omega) (by omega)]
     omega
    have e0 : (i == 0) = false := by simpa using h0
    have hb := hp.2
    rw [e0, Bool.false_or] at hb
    simp only [if_pos (show (i : Int) > 0 by omega), e, if_pos (show (0 : Int) ≤ ((i - 1 : Nat) : Int) by omega), if_pos (show ((i - 1 : Nat) : Int) < (l.length : Int) by omega), rdP_eq, hb, if_true]
    exact hr
  ·
   rw [List.length_range] at hi
   rw [getD_rangeP hi] at hp
   refine Ev.succ ?_
   simp only [impl_ValidRepairs.l0, if_pos (show (i : Int) < (l.length : Int) by omega), if_pos (show (0 : Int) ≤ i by omega), rdP_eq]
   refine Ev.bind (implRep_ev (rdP l i)) ?_
   unfold okP at hp
   cases hu : repOk (rdP l i) with
   | false => exact Ev.now _
   | true =>
    rw [hu, Bool.true_and] at hp
    by_cases h0 : i = 0
    ·
     subst h0
     simp at hp
    ·
     have e : wrap64 ((i : Int) - 1) = ((i - 1 : Nat) : Int) := by
      rw [w64 (by omega) (by omega)]
      omega
     have e0 : (i == 0) = false := by simpa using h0
     rw [e0, Bool.false_or] at hp
     simp only [if_true, if_pos (show (i : Int) > 0 by omega), e, if_pos (show (0 : Int) ≤ ((i - 1 : Nat) : Int) by omega), if_pos (show ((i - 1 : Nat) : Int) < (l.length : Int) by omega), rdP_eq, hp, Bool.false_eq_true, if_false]
     exact Ev.now _
  ·
   rw [List.length_range]
   refine Ev.succ ?_
   simp only [impl_ValidRepairs.l0, if_neg (show ¬ (l.length : Int) < (l.length : Int) by omega)]
   exact Ev.now _
theorem cont_ev (l : List Int) (x : Int) (hl : l.length ≤ 1000) : Ev (fun k => slices_Contains_int64_int64.f k l x) (decide (x ∈ l)) := by
 unfold slices_Contains_int64_int64.f slices_Index_int64_int64.f
 have key : ∀ (m i : Nat), i + m = l.length → ∃ r, Ev (fun k => slices_Index_int64_int64.l0 k l x (l.length : Int) (i : Int)) r ∧ decide (r ≥ 0) = decide (x ∈ l.drop i) := by
  intro m
  induction m with
  | zero =>
   intro i hi
   obtain rfl : i = l.length := by omega
   refine ⟨-1, Ev.succ ?_, by simp⟩
   simp only [slices_Index_int64_int64.l0, show ¬ (l.length : Int) < (l.length : Int) by omega, if_false]
   exact Ev.now _
  | succ m ih =>
   intro i hi
   have hlt : i < l.length := by omega
   have e : rd l (i : Int) = l[i] := by rw [rd_nat, getD_lt 0 hlt]
   by_cases c : x = l[i]
   ·
    refine ⟨i, Ev.succ ?_, by rw [List.drop_eq_getElem_cons hlt, ← c]; simp⟩
    simp only [slices_Index_int64_int64.l0, show (i : Int) < (l.length : Int) by omega, show (0 : Int) ≤ (i : Int) by omega, if_true, e, if_pos c]
    exact Ev.now _
   ·
    obtain ⟨r, h1, h2⟩ := ih (i + 1) (by omega)
    refine ⟨r, Ev.succ ?_, by rw [h2, List.drop_eq_getElem_cons hlt]; simp only [List.mem_cons, c, false_or]⟩
    simp only [slices_Index_int64_int64.l0, show (i : Int) < (l.length : Int) by omega, show (0 : Int) ≤ (i : Int) by omega, if_true, e, if_neg c]
    rw [w64 (by omega) (by omega)]
    exact h1
 obtain ⟨r, h1, h2⟩ := key l.length 0 (by omega)
 rw [List.drop_zero] at h2
 rw [← h2]
 exact Ev.bind h1 (Ev.now _)
def am (f : List Int) : Nat → Nat → Nat → Nat
 | 0, g, _ => g
 | m + 1, g, j => if f.getD j 0 < f.getD g 0 then am f m j (j + 1) else am f m g (j + 1)
def amin (f : List Int) : Nat := am f (f.length - 1) 0 1
theorem am_spec (f : List Int) : ∀ (m g j : Nat), j + m = f.length → g < j → (∀ i, i < j → f.getD g 0 ≤ f.getD i 0) → (∀ i, i < g → f.getD g 0 < f.getD i 0) →
  am f m g j < f.length ∧ (∀ i, i < f.length → f.getD (am f m g j) 0 ≤ f.getD i 0) ∧ (∀ i, i < am f m g j → f.getD (am f m g j) 0 < f.getD i 0)
 | 0, g, j, h, hg, h1, h2 => ⟨by show g < _; omega, fun i hi => h1 i (by omega), h2⟩
 | m + 1, g, j, h, hg, h1, h2 => by
  unfold am
  split
  ·
   rename_i hlt
   refine am_spec f m j (j + 1) (by omega) (by omega) (fun i hi => ?_) (fun i hi => ?_)
   ·
    by_cases e : i = j
    ·
     subst e; exact Int.le_refl _
    ·
     have := h1 i (by omega); omega
   ·
    have := h1 i hi; omega
  ·
   rename_i hlt
   refine am_spec f m g (j + 1) (by omega) (by omega) (fun i hi => ?_) h2
   by_cases e : i = j
   ·
    subst e; omega
   ·
    exact h1 i (by omega)
theorem amin_spec (f : List Int) (h : 0 < f.length) : amin f < f.length ∧ (∀ i, i < f.length → f.getD (amin f) 0 ≤ f.getD i 0) ∧ (∀ i, i < amin f → f.getD (amin f) 0 < f.getD i 0) :=
 am_spec f (f.length - 1) 0 1 (by omega) (by omega) (fun i hi => by
  obtain rfl : i = 0 := by omega
  exact Int.le_refl _) (fun i hi => by omega)
theorem minI_ev (f : List Int) (h : 0 < f.length) (hl : f.length ≤ 1000) : Ev (fun k => slices_Min_int64_int64.f k f) (f.getD (amin f) 0) := by
 have key : ∀ (m i : Nat) (x : Int), i + m = f.length → (∃ j, j < f.length ∧ x = f.getD j 0) → (∀ j, j < i → x ≤ f.getD j 0) → ∃ r, Ev (fun k => slices_Min_int64_int64.l0 k f x (i : Int)) r ∧ (∃ j, j < f.length ∧ r = f.getD j 0) ∧ ∀ j, j < f.length → r ≤ f.getD j 0 := by
  intro m
  induction m with
  | zero =>
   intro i x hi hx hle
   obtain rfl : i = f.length := by omega
   refine ⟨x, Ev.succ ?_, hx, hle⟩
   simp only [slices_Min_int64_int64.l0, show ¬ (f.length : Int) < (f.length : Int) by omega, if_false]
   exact Ev.now _
  | succ m ih =>
   intro i x hi hx hle
   obtain ⟨r, h1, h2, h3⟩ := ih (i + 1) (mn x (f.getD i 0)) (by omega) (by unfold mn; split; exact ⟨i, by omega, rfl⟩; exact hx) (fun j hj => by
    unfold mn
    by_cases e : j = i
    ·
     subst e; split <;> omega
    ·
     have := hle j (by omega); split <;> omega)
   refine ⟨r, Ev.succ ?_, h2, h3⟩
   simp only [slices_Min_int64_int64.l0, show (i : Int) < (f.length : Int) by omega, show (0 : Int) ≤ (i : Int) by omega, if_true, rd_nat]
   rw [w64 (by omega) (by omega)]
   exact h1
 obtain ⟨r, h1, ⟨j, hj, h2⟩, h3⟩ := key (f.length - 1) 1 (f.getD 0 0) (by omega) ⟨0, h, rfl⟩ (fun j hj => by
  obtain rfl : j = 0 := by omega
  exact Int.le_refl _)
 obtain ⟨a1, a2, a3⟩ := amin_spec f h
 have e : r = f.getD (amin f) 0 := by
  have := h3 _ a1
  have := a2 j hj
  omega
 unfold slices_Min_int64_int64.f
 simp only [if_neg (show ¬ (f.length : Int) < 1 by omega), if_pos (show 0 < (f.length : Int) by omega), show rd f 0 = f.getD 0 0 from rfl]
 rw [← e]
 exact h1
theorem idxI_ev (f : List Int) (h : 0 < f.length) (hl : f.length ≤ 1000) : Ev (fun k => slices_Index_int64_int64.f k f (f.getD (amin f) 0)) (amin f : Int) := by
 obtain ⟨a1, a2, a3⟩ := amin_spec f h
 unfold slices_Index_int64_int64.f
 have key : ∀ (m i : Nat), i + m = amin f → Ev (fun k => slices_Index_int64_int64.l0 k f (f.getD (amin f) 0) (f.length : Int) (i : Int)) (amin f : Int) := by
  intro m
  induction m with
  | zero =>
   intro i hi
   obtain rfl : i = amin f := by omega
   refine Ev.succ ?_
   simp only [slices_Index_int64_int64.l0, show (amin f : Int) < (f.length : Int) by omega, show (0 : Int) ≤ (amin f : Int) by omega, if_true, rd_nat]
   exact Ev.now _
  | succ m ih =>
   intro i hi
   have h1 := a3 i (by omega)
   refine Ev.succ ?_
   simp only [slices_Index_int64_int64.l0, show (i : Int) < (f.length : Int) by omega, show (0 : Int) ≤ (i : Int) by omega, if_true, rd_nat, if_neg (show ¬ f.getD (amin f) 0 = f.getD i 0 by omega)]
   rw [w64 (by omega) (by omega)]
   exact ih (i + 1) (by omega)
 exact key (amin f) 0 (by omega)
def gst (l : List S43) (s : List Int × List Int × Int) (x : Int) : List Int × List Int × Int :=
 let b := mx (mx s.2.2 (s.1.getD (amin s.1) 0)) (rdP l x.toNat).f3
 let e := wrap64 (b + (rdP l x.toNat).f1)
 (s.1.set (amin s.1) e, s.2.1.set x.toNat e, b)
def gEnds (l : List S43) (ord : List Int) (g : Nat) : List Int := (ord.foldl (gst l) (List.replicate g 0, List.replicate l.length 0, 0)).2.1
def gHeat (l : List S43) (es : List Int) : Int := (List.range l.length).foldl (fun s i => wrap64 (s + wrap64 ((rdP l i).f2 * es.getD i 0))) 0
def hOf (l : List S43) (g : Nat) (ord : List Int) : Int := gHeat l (gEnds l ord g)
theorem gst_len (l : List S43) (s : List Int × List Int × Int) (x : Int) : (gst l s x).1.length = s.1.length ∧ (gst l s x).2.1.length = s.2.1.length := by
 simp [gst]
theorem gEnds_len (l : List S43) (ord : List Int) (g : Nat) : (gEnds l ord g).length = l.length := by
 unfold gEnds
 have key : ∀ (ord : List Int) (s : List Int × List Int × Int), (ord.foldl (gst l) s).2.1.length = s.2.1.length := by
  intro ord
  induction ord with
  | nil => intro s; rfl
  | cons x t ih => intro s; rw [List.foldl_cons, ih, (gst_len l s x).2]
 rw [key]
 simp
theorem foldl_take_succ {α σ : Type} (g : σ → α → σ) (xs : List α) (d : α) (s0 : σ) {i : Nat} (h : i < xs.length) : (xs.take (i + 1)).foldl g s0 = g ((xs.take i).foldl g s0) (xs.getD i d) := by
 rw [take_succ_getD xs d h, List.foldl_append]; rfl
theorem ev_fold {α σ ρ : Type} (L : Nat → σ → Int → Option ρ) (xs : List α) (d : α) (g : σ → α → σ) (I : Nat → σ → Prop) (r : ρ) (s0 : σ) (h0 : I 0 s0)
  (step : ∀ i s, i < xs.length → I i s → I (i + 1) (g s (xs.getD i d)) ∧ (Ev (fun k => L k (g s (xs.getD i d)) ((i + 1 : Nat) : Int)) r → Ev (fun k => L k s (i : Int)) r))
  (fin : I xs.length (xs.foldl g s0) → Ev (fun k => L k (xs.foldl g s0) (xs.length : Int)) r) : Ev (fun k => L k s0 0) r := by
 have key : ∀ (m i : Nat), i + m = xs.length → I i ((xs.take i).foldl g s0) → Ev (fun k => L k ((xs.take i).foldl g s0) (i : Int)) r := by
  intro m
  induction m with
  | zero =>
   intro i hi hI
   have : i = xs.length := by omega
   subst this
   rw [List.take_length] at hI ⊢
   exact fin hI
  | succ m ih =>
   intro i hi hI
   obtain ⟨h1, h2⟩ := step i _ (by omega) hI
   have := ih (i + 1) (by omega)
   rw [foldl_take_succ g xs d s0 (by omega)] at this
   exact h2 (this h1)
 exact key xs.length 0 (by omega) h0
theorem implEnds_ev (l : List S43) (ord : List Int) (g : Nat) (hl : l.length ≤ 1000) (hg : 0 < g ∧ g ≤ 1000) (ho : ord.length ≤ 1000) (hr : ∀ x ∈ ord, 0 ≤ x ∧ x < (l.length : Int)) : Ev (fun k => impl_gangEnds.f k l ord (g : Int)) (gEnds l ord g) := by
 unfold impl_gangEnds.f gEnds
 simp only [show (0 : Int) ≤ (g : Int) by omega, show g ≤ 35184372088832 by omega, show (0 : Int) ≤ (l.length : Int) by omega, show l.length ≤ 35184372088832 by omega, if_true, Int.toNat_natCast]
 have key := ev_fold (fun k s i => impl_gangEnds.l0 k l s.1 s.2.1 s.2.2 ord (ord.length : Int) i) ord 0 (gst l) (fun _ s => s.1.length = g ∧ s.2.1.length = l.length) (ord.foldl (gst l) (List.replicate g 0, List.replicate l.length 0, 0)).2.1 (List.replicate g 0, List.replicate l.length 0, 0) ⟨List.length_replicate .., List.length_replicate ..⟩ (fun i s hi hI => by
  obtain ⟨h1, h2⟩ := hI
  have hg2 := gst_len l s (ord.getD i 0)
  refine ⟨⟨by omega, by omega⟩, fun hr2 => Ev.succ ?_⟩
  have hx := hr _ (getD_mem 0 hi)
  have ha := (amin_spec s.1 (by omega)).1
  obtain ⟨j, hj⟩ : ∃ j : Nat, ord.getD i 0 = (j : Int) := ⟨(ord.getD i 0).toNat, by omega⟩
  simp only [impl_gangEnds.l0, show (i : Int) < (ord.length : Int) by omega, show (0 : Int) ≤ (i : Int) by omega, if_true, rd_nat, hj]
  refine Ev.bind (minI_ev s.1 (by omega) (by omega)) ?_
  refine Ev.bind (idxI_ev s.1 (by omega) (by omega)) ?_
  rw [hj] at hx
  simp only [show (0 : Int) ≤ (amin s.1 : Int) by omega, show (amin s.1 : Int) < (s.1.length : Int) by omega, hx.1, hx.2, show (j : Int) < (s.2.1.length : Int) by omega, if_true, Option.bind_some, Int.toNat_natCast, rd_nat, rdP_eq, w64 (x := (i : Int) + 1) (by omega) (by omega)]
  have e : (s.2.1.set j (wrap64 (mx (mx s.2.2 (s.1.getD (amin s.1) 0)) (rdP l j).f3 + (rdP l j).f1))).getD j 0 = wrap64 (mx (mx s.2.2 (s.1.getD (amin s.1) 0)) (rdP l j).f3 + (rdP l j).f1) := by
   rw [List.getD_eq_getElem?_getD, List.getElem?_set_self (by omega)]
   rfl
  rw [e]
  rw [hj] at hr2
  exact hr2) (fun hI => Ev.succ (by
  simp only [impl_gangEnds.l0, show ¬ (ord.length : Int) < (ord.length : Int) by omega, if_false]
  exact Ev.now _))
 exact key
theorem implHeat_ev (l : List S43) (ord : List Int) (g : Nat) (hl : l.length ≤ 1000) (hg : 0 < g ∧ g ≤ 1000) (ho : ord.length ≤ 1000) (hr : ∀ x ∈ ord, 0 ≤ x ∧ x < (l.length : Int)) : Ev (fun k => impl_gangHeat.f k l ord (g : Int)) (hOf l g ord) := by
 unfold impl_gangHeat.f hOf gHeat
 refine Ev.bind (implEnds_ev l ord g hl hg ho hr) ?_
 have hn := gEnds_len l ord g
 generalize gEnds l ord g = es at *
 have key := ev_fold (fun k (s : Int) i => impl_gangHeat.l0 k l s es (es.length : Int) i) (List.range l.length) 0 (fun s i => wrap64 (s + wrap64 ((rdP l i).f2 * es.getD i 0))) (fun _ _ => True) ((List.range l.length).foldl (fun s i => wrap64 (s + wrap64 ((rdP l i).f2 * es.getD i 0))) 0) 0 trivial (fun i s hi hI => by
  rw [List.length_range] at hi
  refine ⟨trivial, fun hr2 => Ev.succ ?_⟩
  rw [getD_rangeP hi] at hr2
  simp only [impl_gangHeat.l0, show (i : Int) < (es.length : Int) by omega, show (0 : Int) ≤ (i : Int) by omega, show (i : Int) < (l.length : Int) by omega, if_true, rd_nat, rdP_eq, w64 (x := (i : Int) + 1) (by omega) (by omega)]
  exact hr2) (fun hI => Ev.succ (by
  rw [List.length_range]
  simp only [impl_gangHeat.l0, show ¬ (l.length : Int) < (es.length : Int) by omega, if_false]
  exact Ev.now _))
 exact key
def stp (rec : List Int → Int × Bool × List Int × Int → Int × Bool × List Int × Int) (nb : Int) (ord : List Int) (st : Int × Bool × List Int × Int) (i : Nat) : Int × Bool × List Int × Int :=
 if st.2.1 = true then st else if (i : Int) ∈ ord then st else if st.1 = nb then (st.1, true, st.2.2) else rec (ord ++ [(i : Int)]) (st.1 + 1, st.2)
def srch (H : List Int → Int) (n : Nat) (nb : Int) : Nat → List Int → Int × Bool × List Int × Int → Int × Bool × List Int × Int
 | 0, ord, st => if st.2.2.2 < 0 ∨ H ord < st.2.2.2 then (st.1, st.2.1, ord, H ord) else st
 | m + 1, ord, st => (List.range' 0 n).foldl (stp (fun o s => srch H n nb m o s) nb ord) st
theorem stp_full {rec : List Int → Int × Bool × List Int × Int → Int × Bool × List Int × Int} {nb : Int} {ord : List Int} {st : Int × Bool × List Int × Int} (h : st.2.1 = true) : ∀ L : List Nat, L.foldl (stp rec nb ord) st = st
 | [] => rfl
 | i :: t => by
  rw [List.foldl_cons]
  have e : stp rec nb ord st i = st := by unfold stp; rw [if_pos h]
  rw [e]
  exact stp_full h t
theorem srch_bd (H : List Int → Int) (n : Nat) (nb : Int) : ∀ (m : Nat) (ord : List Int) (st : Int × Bool × List Int × Int), 0 ≤ st.1 ∧ st.1 ≤ nb → 0 ≤ (srch H n nb m ord st).1 ∧ (srch H n nb m ord st).1 ≤ nb := by
 intro m
 induction m with
 | zero => intro ord st h; unfold srch; split <;> exact h
 | succ m ih =>
  intro ord st h
  unfold srch
  have key : ∀ (L : List Nat) (st : Int × Bool × List Int × Int), 0 ≤ st.1 ∧ st.1 ≤ nb → 0 ≤ (L.foldl (stp (fun o s => srch H n nb m o s) nb ord) st).1 ∧ (L.foldl (stp (fun o s => srch H n nb m o s) nb ord) st).1 ≤ nb := by
   intro L
   induction L with
   | nil => intro st h; exact h
   | cons i t iht =>
    intro st h
    rw [List.foldl_cons]
    refine iht _ ?_
    unfold stp
    split
    ·
     exact h
    ·
     split
     ·
      exact h
     ·
      split
      ·
       exact h
      ·
       exact ih _ _ (by constructor <;> show _ <;> (simp only; omega))
  exact key _ _ h
def NN : Nat → Int
 | 0 => 0
 | m + 1 => ((m + 1 : Nat) : Int) * (1 + NN m)
theorem NN_pos : ∀ m, 0 ≤ NN m
 | 0 => Int.le_refl _
 | m + 1 => Int.mul_nonneg (by omega) (by have := NN_pos m; omega)
def cnt (L : List Nat) (ord : List Int) : Nat := L.countP fun i : Nat => decide (¬ (i : Int) ∈ ord)
theorem cnt_snoc (ord : List Int) (x : Nat) (hx : ¬ (x : Int) ∈ ord) : ∀ L : List Nat, L.Nodup → x ∈ L → cnt L (ord ++ [(x : Int)]) + 1 = cnt L ord := by
 have far : ∀ L : List Nat, ¬ x ∈ L → cnt L (ord ++ [(x : Int)]) = cnt L ord := by
  intro L hL
  unfold cnt
  refine List.countP_congr fun j hj => ?_
  have hne : j ≠ x := fun e => hL (e ▸ hj)
  simp only [List.mem_append, List.mem_singleton, not_or, decide_eq_true_eq]
  constructor
  ·
   exact fun h => h.1
  ·
   exact fun h => ⟨h, by omega⟩
 intro L
 induction L with
 | nil => intro _ h; cases h
 | cons a t ih =>
  intro hn hm
  rw [List.nodup_cons] at hn
  by_cases e : a = x
  ·
   subst e
   have h1 := far t hn.1
   unfold cnt at h1 ⊢
   rw [List.countP_cons, List.countP_cons, h1]
   simp [hx]
  ·
   have hm2 : x ∈ t := by
    rcases List.mem_cons.1 hm with h | h
    ·
     exact absurd h.symm e
    ·
     exact h
   have h1 := ih hn.2 hm2
   unfold cnt at h1 ⊢
   rw [List.countP_cons, List.countP_cons]
   have e2 : decide (¬ (a : Int) ∈ ord ++ [(x : Int)]) = decide (¬ (a : Int) ∈ ord) := by
    rw [decide_eq_decide]
    simp only [List.mem_append, List.mem_singleton, not_or]
    constructor
    ·
     exact fun h => h.1
    ·
     exact fun h => ⟨h, by omega⟩
   rw [e2]
   omega
theorem srch_free (H : List Int → Int) (n : Nat) (nb : Int) : ∀ (m : Nat) (ord : List Int) (st : Int × Bool × List Int × Int), st.2.1 = false → cnt (List.range' 0 n) ord = m → st.1 + NN m ≤ nb → (srch H n nb m ord st).2.1 = false ∧ (srch H n nb m ord st).1 ≤ st.1 + NN m := by
 intro m
 induction m with
 | zero =>
  intro ord st hf hc hn
  unfold srch NN
  split
  ·
   exact ⟨hf, by show st.1 ≤ st.1 + 0; omega⟩
  ·
   exact ⟨hf, by omega⟩
 | succ m ih =>
  intro ord st hf hc hn
  have hN := NN_pos m
  have key : ∀ (d i : Nat) (st : Int × Bool × List Int × Int), i + d = n → st.2.1 = false → st.1 + (cnt (List.range' i d) ord : Int) * (1 + NN m) ≤ nb → ((List.range' i d).foldl (stp (fun o s => srch H n nb m o s) nb ord) st).2.1 = false ∧ ((List.range' i d).foldl (stp (fun o s => srch H n nb m o s) nb ord) st).1 ≤ st.1 + (cnt (List.range' i d) ord : Int) * (1 + NN m) := by
   intro d
   induction d with
   | zero => intro i st hi hf hn; exact ⟨hf, by show st.1 ≤ st.1 + ((0 : Nat) : Int) * (1 + NN m); simp⟩
   | succ d ihd =>
    intro i st hi hf hn
    rw [List.range'_succ] at hn ⊢
    rw [List.foldl_cons]
    have hcs : cnt (i :: List.range' (i + 1) d) ord = cnt (List.range' (i + 1) d) ord + if ¬ (i : Int) ∈ ord then 1 else 0 := by
     unfold cnt
     rw [List.countP_cons]
     simp
    rw [hcs] at hn ⊢
    by_cases hin : (i : Int) ∈ ord
    ·
     have e : stp (fun o s => srch H n nb m o s) nb ord st i = st := by
      unfold stp
      rw [if_neg (by rw [hf]; decide), if_pos hin]
     rw [e]
     rw [if_neg (fun h => h hin)] at hn ⊢
     exact ihd (i + 1) st (by omega) hf hn
    ·
     rw [if_pos hin] at hn ⊢
     have ec : ((cnt (List.range' (i + 1) d) ord + 1 : Nat) : Int) * (1 + NN m) = (cnt (List.range' (i + 1) d) ord : Int) * (1 + NN m) + (1 + NN m) := by
      rw [Int.natCast_add, Int.add_mul, Int.natCast_one, Int.one_mul]
     have hc0 : 0 ≤ (cnt (List.range' (i + 1) d) ord : Int) * (1 + NN m) := Int.mul_nonneg (by omega) (by omega)
     rw [ec] at hn ⊢
     have e : stp (fun o s => srch H n nb m o s) nb ord st i = srch H n nb m (ord ++ [(i : Int)]) (st.1 + 1, st.2) := by
      unfold stp
      rw [if_neg (by rw [hf]; decide), if_neg hin, if_neg (by omega)]
     rw [e]
     have hc2 := cnt_snoc ord i hin (List.range' 0 n) List.nodup_range' (by rw [List.mem_range']; exact ⟨i, by omega, by omega⟩)
     obtain ⟨q1, q2⟩ := ih (ord ++ [(i : Int)]) (st.1 + 1, st.2) hf (by omega) (by show st.1 + 1 + NN m ≤ nb; omega)
     have q2' : (srch H n nb m (ord ++ [(i : Int)]) (st.1 + 1, st.2)).1 ≤ st.1 + 1 + NN m := q2
     obtain ⟨p1, p2⟩ := ihd (i + 1) _ (by omega) q1 (by omega)
     exact ⟨p1, by omega⟩
  have h := key n 0 st (by omega) hf (by rw [hc]; exact hn)
  rw [hc] at h
  exact h
def toI (c : Bool) (nb : Int) (st : Int × Bool × List Int × Int) : Int × List Int × Int := (if c = true then (if st.2.1 = true then -1 else nb - st.1) else 0, st.2.2.1, st.2.2.2)
theorem clone_eq (o : List Int) (h : o.length ≤ 1000) : slices_Clone_int64_int64.f o = some o := by
 unfold slices_Clone_int64_int64.f
 rw [if_pos (by omega)]
theorem implSrch_ev (l : List S43) (g : Nat) (c : Bool) (nb : Int) (hl : l.length ≤ 8) (hg : 0 < g ∧ g ≤ 3) (hnb : nb ≤ 1000000) : ∀ (m : Nat) (ord : List Int) (st : Int × Bool × List Int × Int), ord.length + m = l.length → (∀ x ∈ ord, 0 ≤ x ∧ x < (l.length : Int)) → 0 ≤ st.1 ∧ st.1 ≤ nb → st.2.1 = false →
  (c = true ∨ (cnt (List.range' 0 l.length) ord = m ∧ st.1 + NN m ≤ nb)) →
  Ev (fun k => srI k l (g : Int) c none (toI c nb st).1 st.2.2.1 st.2.2.2 ord) (toI c nb (srch (hOf l g) l.length nb m ord st)) := by
 intro m
 induction m with
 | zero =>
  intro ord st ho hr hb hf hc
  refine Ev.succ ?_
  simp only [srI, if_pos (show ord.length = l.length by omega)]
  refine Ev.bind (implHeat_ev l ord g (by omega) (by omega) (by omega) hr) ?_
  unfold srch
  by_cases hc : st.2.2.2 < 0 ∨ hOf l g ord < st.2.2.2
  ·
   simp only [if_pos hc, clone_eq ord (by omega), Option.bind_some]
   exact Ev.now _
  ·
   simp only [if_neg hc]
   exact Ev.now _
 | succ m ih =>
  intro ord st ho hr hb hf hc
  have hN := NN_pos m
  refine Ev.succ ?_
  simp only [srI, if_neg (show ¬ ord.length = l.length by omega)]
  have key : ∀ (d i : Nat) (st : Int × Bool × List Int × Int), i + d = l.length → 0 ≤ st.1 ∧ st.1 ≤ nb → st.2.1 = false → (c = true ∨ (cnt (List.range' 0 l.length) ord = m + 1 ∧ st.1 + (cnt (List.range' i d) ord : Int) * (1 + NN m) ≤ nb)) →
    Ev (fun k => srI k l (g : Int) c (some i) (toI c nb st).1 st.2.2.1 st.2.2.2 ord) (toI c nb ((List.range' i d).foldl (stp (fun o s => srch (hOf l g) l.length nb m o s) nb ord) st)) := by
   intro d
   induction d with
   | zero =>
    intro i st hi hb hf hc
    refine Ev.succ ?_
    simp only [srI, if_neg (show ¬ i < l.length by omega)]
    exact Ev.now _
   | succ d ihd =>
    intro i st hi hb hf hc
    rw [List.range'_succ, List.foldl_cons]
    have hcs : cnt (List.range' i (d + 1)) ord = cnt (List.range' (i + 1) d) ord + if ¬ (i : Int) ∈ ord then 1 else 0 := by
     unfold cnt
     rw [List.range'_succ, List.countP_cons]
     simp
    rw [hcs] at hc
    refine Ev.succ ?_
    simp only [srI, if_pos (show i < l.length by omega)]
    refine Ev.bind (cont_ev ord (i : Int) (by omega)) ?_
    by_cases hin : (i : Int) ∈ ord
    ·
     have e : stp (fun o s => srch (hOf l g) l.length nb m o s) nb ord st i = st := by unfold stp; rw [if_neg (by rw [hf]; decide), if_pos hin]
     rw [e]
     rw [if_neg (fun h => h hin)] at hc
     simp only [decide_eq_true hin, if_true]
     exact ihd (i + 1) st (by omega) hb hf hc
    ·
     rw [if_pos hin] at hc
     simp only [decide_eq_false hin, Bool.false_eq_true, if_false]
     have hrx : ∀ x ∈ ord ++ [(i : Int)], 0 ≤ x ∧ x < (l.length : Int) := fun x hx => by
      rcases List.mem_append.1 hx with h | h
      ·
       exact hr x h
      ·
       rw [List.mem_singleton.1 h]; omega
     have hox : (ord ++ [(i : Int)]).length + m = l.length := by rw [List.length_append, List.length_singleton]; omega
     cases c with
     | true =>
      have e0 : (toI true nb st).1 = nb - st.1 := by unfold toI; rw [if_pos rfl, if_neg (by rw [hf]; decide)]
      simp only [e0, w64 (x := nb - st.1 - 1) (by omega) (by omega)]
      by_cases hz : st.1 = nb
      ·
       have e : stp (fun o s => srch (hOf l g) l.length nb m o s) nb ord st i = (st.1, true, st.2.2) := by unfold stp; rw [if_neg (by rw [hf]; decide), if_neg hin, if_pos hz]
       rw [e, stp_full rfl]
       simp only [show nb - st.1 - 1 < 0 by omega, and_self, if_true]
       refine Ev.now' ?_
       unfold toI
       simp only [if_true]
       rw [show nb - st.1 - 1 = -1 by omega]
      ·
       have e : stp (fun o s => srch (hOf l g) l.length nb m o s) nb ord st i = srch (hOf l g) l.length nb m (ord ++ [(i : Int)]) (st.1 + 1, st.2) := by unfold stp; rw [if_neg (by rw [hf]; decide), if_neg hin, if_neg hz]
       rw [e]
       simp only [show ¬ nb - st.1 - 1 < 0 by omega, and_false, if_false, if_true, if_pos (show ord.length < 1000 by omega)]
       have h1 := ih (ord ++ [(i : Int)]) (st.1 + 1, st.2) hox hrx (by show 0 ≤ st.1 + 1 ∧ st.1 + 1 ≤ nb; omega) hf (.inl rfl)
       have e1 : (toI true nb (st.1 + 1, st.2)).1 = nb - st.1 - 1 := by
        unfold toI
        show (if true = true then (if st.2.1 = true then -1 else nb - (st.1 + 1)) else 0) = _
        rw [if_pos rfl, if_neg (by rw [hf]; decide)]
        omega
       rw [e1] at h1
       refine Ev.bind h1 ?_
       have hbd := srch_bd (hOf l g) l.length nb m (ord ++ [(i : Int)]) (st.1 + 1, st.2) (by show 0 ≤ st.1 + 1 ∧ st.1 + 1 ≤ nb; omega)
       generalize srch (hOf l g) l.length nb m (ord ++ [(i : Int)]) (st.1 + 1, st.2) = s2 at *
       cases hf2 : s2.2.1 with
       | true =>
        rw [stp_full hf2]
        have e2 : (toI true nb s2).1 = -1 := by unfold toI; rw [if_pos rfl, if_pos hf2]
        simp only [e2, show (-1 : Int) < 0 by decide, if_true]
        exact Ev.now _
       | false =>
        have e2 : (toI true nb s2).1 = nb - s2.1 := by unfold toI; rw [if_pos rfl, if_neg (by rw [hf2]; decide)]
        simp only [if_neg (show ¬ (toI true nb s2).1 < 0 by rw [e2]; omega)]
        exact ihd (i + 1) s2 (by omega) hbd hf2 (.inl rfl)
     | false =>
      obtain ⟨hc1, hc2⟩ := hc.resolve_left (by decide)
      have ec : ((cnt (List.range' (i + 1) d) ord + 1 : Nat) : Int) * (1 + NN m) = (cnt (List.range' (i + 1) d) ord : Int) * (1 + NN m) + (1 + NN m) := by
       rw [Int.natCast_add, Int.add_mul, Int.natCast_one, Int.one_mul]
      have hc0 : 0 ≤ (cnt (List.range' (i + 1) d) ord : Int) * (1 + NN m) := Int.mul_nonneg (by omega) (by omega)
      rw [ec] at hc2
      have e0 : ∀ s, (toI false nb s).1 = 0 := fun s => by unfold toI; rw [if_neg (by decide)]
      have e : stp (fun o s => srch (hOf l g) l.length nb m o s) nb ord st i = srch (hOf l g) l.length nb m (ord ++ [(i : Int)]) (st.1 + 1, st.2) := by unfold stp; rw [if_neg (by rw [hf]; decide), if_neg hin, if_neg (by omega)]
      rw [e]
      have hcn := cnt_snoc ord i hin (List.range' 0 l.length) List.nodup_range' (by rw [List.mem_range']; exact ⟨i, by omega, by omega⟩)
      have hfr : st.1 + 1 + NN m ≤ nb := by omega
      have h1 := ih (ord ++ [(i : Int)]) (st.1 + 1, st.2) hox hrx (by show 0 ≤ st.1 + 1 ∧ st.1 + 1 ≤ nb; omega) hf (.inr ⟨by omega, hfr⟩)
      rw [e0] at h1
      simp only [e0, Bool.false_eq_true, false_and, if_false, if_pos (show ord.length < 1000 by omega)]
      refine Ev.bind h1 ?_
      obtain ⟨q1, q2⟩ := srch_free (hOf l g) l.length nb m (ord ++ [(i : Int)]) (st.1 + 1, st.2) hf (by omega) hfr
      have q2' : (srch (hOf l g) l.length nb m (ord ++ [(i : Int)]) (st.1 + 1, st.2)).1 ≤ st.1 + 1 + NN m := q2
      have hbd := srch_bd (hOf l g) l.length nb m (ord ++ [(i : Int)]) (st.1 + 1, st.2) (by show 0 ≤ st.1 + 1 ∧ st.1 + 1 ≤ nb; omega)
      generalize srch (hOf l g) l.length nb m (ord ++ [(i : Int)]) (st.1 + 1, st.2) = s2 at *
      simp only [e0, Int.lt_irrefl, if_false]
      have h2 := ihd (i + 1) s2 (by omega) hbd q1 (.inr ⟨hc1, by omega⟩)
      rw [e0] at h2
      exact h2
  have h := key l.length 0 st (by omega) hb hf (hc.imp_right fun ⟨a, b⟩ => ⟨a, by rw [a]; exact b⟩)
  exact h
def InB (M : Int) (xs : List Int) : Prop := ∀ j : Nat, 0 ≤ xs.getD j 0 ∧ xs.getD j 0 ≤ M
theorem InB_mono {M M' : Int} {xs : List Int} (h : InB M xs) (hM : M ≤ M') : InB M' xs := fun j => ⟨(h j).1, Int.le_trans (h j).2 hM⟩
theorem getD_setI (x : List Int) (i j : Nat) (v : Int) : (x.set i v).getD j 0 = if i = j ∧ i < x.length then v else x.getD j 0 := by
 rw [List.getD_eq_getElem?_getD, List.getElem?_set]
 by_cases h : i = j
 ·
  subst h
  by_cases h2 : i < x.length
  ·
   rw [if_pos rfl, if_pos h2, if_pos ⟨rfl, h2⟩]; rfl
  ·
   rw [if_pos rfl, if_neg h2, if_neg (fun z => h2 z.2), List.getD_eq_getElem?_getD, List.getElem?_eq_none (by omega)]
 ·
  rw [if_neg h, if_neg (fun z => h z.1), ← List.getD_eq_getElem?_getD]
theorem InB_set {M v : Int} {xs : List Int} (h : InB M xs) (i : Nat) (h0 : 0 ≤ v) (h1 : v ≤ M) : InB M (xs.set i v) := fun j => by
 rw [getD_setI]
 split
 ·
  exact ⟨h0, h1⟩
 ·
  exact h j
theorem InB_rep (n : Nat) {M : Int} (hM : 0 ≤ M) : InB M (List.replicate n 0) := by
 intro j
 rw [List.getD_eq_getElem?_getD, List.getElem?_replicate]
 split <;> simp [hM]
theorem repR_facts {x : S43} (h : repR x = true) : (1 ≤ x.f1 ∧ x.f1 ≤ 100) ∧ (0 ≤ x.f2 ∧ x.f2 ≤ 100000) ∧ (0 ≤ x.f3 ∧ x.f3 ≤ 1000) := by
 unfold repR inB at h
 simp only [Bool.and_eq_true, decide_eq_true_eq] at h
 exact ⟨h.1, h.2.1, h.2.2⟩
theorem mx_facts (a b : Int) : a ≤ mx a b ∧ b ≤ mx a b ∧ (mx a b = a ∨ mx a b = b) := by
 unfold mx
 split <;> omega
theorem gst_facts {l : List S43} {s : List Int × List Int × Int} {x M : Int} (hx : repR (rdP l x.toNat) = true) (hM : 1000 ≤ M) (hM2 : M ≤ 1000000) (h1 : InB M s.1) (h2 : InB M s.2.1) (h3 : 0 ≤ s.2.2 ∧ s.2.2 ≤ M) :
  ∃ b e : Int, gst l s x = (s.1.set (amin s.1) e, s.2.1.set x.toNat e, b) ∧ e = b + (rdP l x.toNat).f1 ∧ s.1.getD (amin s.1) 0 ≤ b ∧ (rdP l x.toNat).f3 ≤ b ∧ s.2.2 ≤ b ∧ 0 ≤ b ∧ b ≤ M := by
 obtain ⟨a1, a2, a3⟩ := repR_facts hx
 have hf := h1 (amin s.1)
 obtain ⟨m1, m2, m3⟩ := mx_facts s.2.2 (s.1.getD (amin s.1) 0)
 obtain ⟨n1, n2, n3⟩ := mx_facts (mx s.2.2 (s.1.getD (amin s.1) 0)) (rdP l x.toNat).f3
 refine ⟨mx (mx s.2.2 (s.1.getD (amin s.1) 0)) (rdP l x.toNat).f3, _, rfl, w64 (by omega) (by omega), by omega, by omega, by omega, by omega, by omega⟩
theorem gst_bd {l : List S43} {s : List Int × List Int × Int} {x M : Int} (hx : repR (rdP l x.toNat) = true) (hM : 1000 ≤ M) (hM2 : M ≤ 1000000) (h1 : InB M s.1) (h2 : InB M s.2.1) (h3 : 0 ≤ s.2.2 ∧ s.2.2 ≤ M) :
  InB (M + 100) (gst l s x).1 ∧ InB (M + 100) (gst l s x).2.1 ∧ 0 ≤ (gst l s x).2.2 ∧ (gst l s x).2.2 ≤ M + 100 := by
 obtain ⟨b, e, hg, he, _, _, _, b0, b1⟩ := gst_facts hx hM hM2 h1 h2 h3
 obtain ⟨a1, _, _⟩ := repR_facts hx
 rw [hg]
 exact ⟨InB_set (InB_mono h1 (by omega)) _ (by omega) (by omega), InB_set (InB_mono h2 (by omega)) _ (by omega) (by omega), b0, by show b ≤ M + 100; omega⟩
def gAll (l : List S43) (ord : List Int) (g : Nat) : List Int × List Int × Int := ord.foldl (gst l) (List.replicate g 0, List.replicate l.length 0, 0)
theorem gAll_bd (l : List S43) (g : Nat) (hx : ∀ i, i < l.length → repR (rdP l i) = true) : ∀ (ord : List Int) (s : List Int × List Int × Int) (M : Int), (∀ x ∈ ord, 0 ≤ x ∧ x < (l.length : Int)) → 1000 ≤ M → M + 100 * (ord.length : Int) ≤ 1000000 → InB M s.1 → InB M s.2.1 → 0 ≤ s.2.2 ∧ s.2.2 ≤ M →
  InB (M + 100 * (ord.length : Int)) (ord.foldl (gst l) s).1 ∧ InB (M + 100 * (ord.length : Int)) (ord.foldl (gst l) s).2.1 ∧ 0 ≤ (ord.foldl (gst l) s).2.2 ∧ (ord.foldl (gst l) s).2.2 ≤ M + 100 * (ord.length : Int)
 | [], s, M, _, _, _, h1, h2, h3 => by
  have e : M + 100 * (([] : List Int).length : Int) = M := by simp
  rw [e]
  exact ⟨h1, h2, h3⟩
 | x :: t, s, M, ho, hM, hM2, h1, h2, h3 => by
  rw [List.foldl_cons]
  have hxr := ho x List.mem_cons_self
  rw [List.length_cons] at hM2
  obtain ⟨b1, b2, b3⟩ := gst_bd (hx x.toNat (by omega)) hM (by omega) h1 h2 h3
  have := gAll_bd l g hx t (gst l s x) (M + 100) (fun y hy => ho y (List.mem_cons_of_mem _ hy)) (by omega) (by omega) b1 b2 b3
  rw [List.length_cons, show M + 100 * ((t.length + 1 : Nat) : Int) = M + 100 + 100 * (t.length : Int) by omega]
  exact this
def sm (f : Nat → Int) : List Nat → Int
 | [] => 0
 | i :: t => f i + sm f t
theorem sm_nonneg {f : Nat → Int} : ∀ {L : List Nat}, (∀ i ∈ L, 0 ≤ f i) → 0 ≤ sm f L
 | [], _ => Int.le_refl _
 | i :: t, h => by
  have h1 := h i List.mem_cons_self
  have h2 := sm_nonneg (f := f) (L := t) (fun j hj => h j (List.mem_cons_of_mem _ hj))
  unfold sm
  omega
theorem sm_fold {f : Nat → Int} {B : Int} (hB : 0 ≤ B) : ∀ (L : List Nat) (s : Int), (∀ i ∈ L, 0 ≤ f i ∧ f i ≤ B) → 0 ≤ s → s + B * (L.length : Int) ≤ 1000000000000 → L.foldl (fun s i => wrap64 (s + wrap64 (f i))) s = s + sm f L
 | [], s, _, _, _ => by simp [sm]
 | i :: t, s, h, h0, h1 => by
  have hi := h i List.mem_cons_self
  rw [List.length_cons] at h1
  have e : B * ((t.length + 1 : Nat) : Int) = B * (t.length : Int) + B := by rw [Int.natCast_add, Int.mul_add, Int.natCast_one, Int.mul_one]
  rw [e] at h1
  have ht : 0 ≤ B * (t.length : Int) := Int.mul_nonneg hB (by omega)
  rw [List.foldl_cons, w64 (x := f i) (by omega) (by omega), w64 (x := s + f i) (by omega) (by omega), sm_fold hB t (s + f i) (fun j hj => h j (List.mem_cons_of_mem _ hj)) (by omega) (by omega), sm]
  omega
def hf (l : List S43) (es : List Int) (i : Nat) : Int := (rdP l i).f2 * es.getD i 0
theorem hf_bd {l : List S43} {es : List Int} (hx : ∀ i, i < l.length → repR (rdP l i) = true) (he : InB 1800 es) {i : Nat} (hi : i < l.length) : 0 ≤ hf l es i ∧ hf l es i ≤ 180000000 := by
 obtain ⟨_, a2, _⟩ := repR_facts (hx i hi)
 have h := he i
 unfold hf
 refine ⟨Int.mul_nonneg a2.1 h.1, ?_⟩
 exact Int.le_trans (Int.mul_le_mul_of_nonneg_right a2.2 h.1) (by omega)
theorem gHeat_sm {l : List S43} {es : List Int} (hx : ∀ i, i < l.length → repR (rdP l i) = true) (hn : l.length ≤ 8) (he : InB 1800 es) : gHeat l es = sm (hf l es) (List.range l.length) := by
 unfold gHeat
 have h := sm_fold (f := hf l es) (B := 180000000) (by decide) (List.range l.length) 0 (fun i hi => hf_bd hx he (List.mem_range.1 hi)) (by decide) (by rw [List.length_range]; omega)
 rw [Int.zero_add] at h
 exact h
def OrdN (n : Nat) (o : List Int) : Prop := o.length = n ∧ (∀ x ∈ o, 0 ≤ x ∧ x < (n : Int)) ∧ o.Nodup
theorem gEnds_bd {l : List S43} (g : Nat) (hx : ∀ i, i < l.length → repR (rdP l i) = true) (hn : l.length ≤ 8) {o : List Int} (ho : OrdN l.length o) : InB 1800 (gEnds l o g) := by
 have h := gAll_bd l g hx o (List.replicate g 0, List.replicate l.length 0, 0) 1000 ho.2.1 (by decide) (by have := ho.1; omega) (InB_rep _ (by decide)) (InB_rep _ (by decide)) ⟨Int.le_refl 0, by show (0 : Int) ≤ 1000; decide⟩
 exact InB_mono h.2.1 (by have := ho.1; omega)
theorem hOf_nonneg {l : List S43} (g : Nat) (hx : ∀ i, i < l.length → repR (rdP l i) = true) (hn : l.length ≤ 8) {o : List Int} (ho : OrdN l.length o) : 0 ≤ hOf l g o := by
 unfold hOf
 rw [gHeat_sm hx hn (gEnds_bd g hx hn ho)]
 exact sm_nonneg fun i hi => (hf_bd hx (gEnds_bd g hx hn ho) (List.mem_range.1 hi)).1
theorem srch_min (H : List Int → Int) (n : Nat) (nb : Int) (hH : ∀ o, OrdN n o → 0 ≤ H o) : ∀ (m : Nat) (ord : List Int) (st : Int × Bool × List Int × Int), ord.length + m = n → (∀ x ∈ ord, 0 ≤ x ∧ x < (n : Int)) → ord.Nodup → (srch H n nb m ord st).2.1 = false →
  (st.2.1 = false) ∧ (((srch H n nb m ord st).2.2 = st.2.2) ∨ (OrdN n (srch H n nb m ord st).2.2.1 ∧ (srch H n nb m ord st).2.2.2 = H (srch H n nb m ord st).2.2.1)) ∧
  (∀ t, OrdN n (ord ++ t) → 0 ≤ (srch H n nb m ord st).2.2.2 ∧ (srch H n nb m ord st).2.2.2 ≤ H (ord ++ t)) ∧ (0 ≤ st.2.2.2 → 0 ≤ (srch H n nb m ord st).2.2.2 ∧ (srch H n nb m ord st).2.2.2 ≤ st.2.2.2) := by
 intro m
 induction m with
 | zero =>
  intro ord st hl hr hd hf
  have hO : OrdN n ord := ⟨by omega, hr, hd⟩
  have h0 := hH ord hO
  have ht : ∀ t, OrdN n (ord ++ t) → ord ++ t = ord := fun t h => by
   have := h.1
   rw [List.length_append] at this
   obtain rfl : t = [] := List.eq_nil_of_length_eq_zero (by omega)
   rw [List.append_nil]
  unfold srch at hf ⊢
  split at hf
  ·
   rename_i hc
   rw [if_pos hc]
   refine ⟨hf, .inr ⟨hO, rfl⟩, fun t h => ?_, fun z => ⟨h0, ?_⟩⟩
   ·
    rw [ht t h]
    exact ⟨h0, Int.le_refl _⟩
   ·
    show H ord ≤ st.2.2.2
    omega
  ·
   rename_i hc
   rw [if_neg hc]
   refine ⟨hf, .inl rfl, fun t h => ?_, fun z => ⟨z, Int.le_refl _⟩⟩
   rw [ht t h]
   omega
 | succ m ih =>
  intro ord st hl hr hd hf
  unfold srch at hf ⊢
  have key : ∀ (d i : Nat) (st : Int × Bool × List Int × Int), i + d = n → ((List.range' i d).foldl (stp (fun o s => srch H n nb m o s) nb ord) st).2.1 = false →
    (st.2.1 = false) ∧ ((((List.range' i d).foldl (stp (fun o s => srch H n nb m o s) nb ord) st).2.2 = st.2.2) ∨ (OrdN n ((List.range' i d).foldl (stp (fun o s => srch H n nb m o s) nb ord) st).2.2.1 ∧ ((List.range' i d).foldl (stp (fun o s => srch H n nb m o s) nb ord) st).2.2.2 = H ((List.range' i d).foldl (stp (fun o s => srch H n nb m o s) nb ord) st).2.2.1)) ∧
    (∀ (x : Nat) t, i ≤ x → OrdN n (ord ++ (x : Int) :: t) → 0 ≤ ((List.range' i d).foldl (stp (fun o s => srch H n nb m o s) nb ord) st).2.2.2 ∧ ((List.range' i d).foldl (stp (fun o s => srch H n nb m o s) nb ord) st).2.2.2 ≤ H (ord ++ (x : Int) :: t)) ∧ (0 ≤ st.2.2.2 → 0 ≤ ((List.range' i d).foldl (stp (fun o s => srch H n nb m o s) nb ord) st).2.2.2 ∧ ((List.range' i d).foldl (stp (fun o s => srch H n nb m o s) nb ord) st).2.2.2 ≤ st.2.2.2) := by
   intro d
   induction d with
   | zero =>
    intro i st hi hf
    refine ⟨hf, .inl rfl, fun x t hx hO => ?_, fun z => ⟨z, Int.le_refl _⟩⟩
    have := hO.2.1 (x : Int) (List.mem_append_right _ List.mem_cons_self)
    omega
   | succ d ihd =>
    intro i st hi hf
    rw [List.range'_succ, List.foldl_cons] at hf ⊢
    obtain ⟨q1, q2, q3, q4⟩ := ihd (i + 1) _ (by omega) hf
    generalize hF : (List.range' (i + 1) d).foldl (stp (fun o s => srch H n nb m o s) nb ord) (stp (fun o s => srch H n nb m o s) nb ord st i) = F at *
    have hst : st.2.1 = false := by
     cases hz : st.2.1 with
     | false => rfl
     | true =>
      unfold stp at q1
      rw [if_pos hz] at q1
      rw [hz] at q1
      cases q1
    by_cases hin : (i : Int) ∈ ord
    ·
     have e : stp (fun o s => srch H n nb m o s) nb ord st i = st := by
      unfold stp
      rw [if_neg (by rw [hst]; decide), if_pos hin]
     rw [e] at q2 q4
     refine ⟨hst, q2, fun x t hx hO => ?_, q4⟩
     by_cases hxi : x = i
     ·
      subst hxi
      have := (List.nodup_append.1 hO.2.2).2.2
      exact absurd rfl (this _ hin _ List.mem_cons_self)
     ·
      exact q3 x t (by omega) hO
    ·
     by_cases hz : st.1 = nb
     ·
      have e : stp (fun o s => srch H n nb m o s) nb ord st i = (st.1, true, st.2.2) := by
       unfold stp
       rw [if_neg (by rw [hst]; decide), if_neg hin, if_pos hz]
      rw [e] at q1
      cases q1
     ·
      have e : stp (fun o s => srch H n nb m o s) nb ord st i = srch H n nb m (ord ++ [(i : Int)]) (st.1 + 1, st.2) := by
       unfold stp
       rw [if_neg (by rw [hst]; decide), if_neg hin, if_neg hz]
      rw [e] at q1 q2 q4
      have hnd : (ord ++ [(i : Int)]).Nodup := by
       rw [List.nodup_append]
       refine ⟨hd, by simp, fun a ha b hb => ?_⟩
       rw [List.mem_singleton] at hb
       subst hb
       exact fun z => hin (z ▸ ha)
      have hrg : ∀ x ∈ ord ++ [(i : Int)], 0 ≤ x ∧ x < (n : Int) := fun x hx => by
       rcases List.mem_append.1 hx with h | h
       ·
        exact hr x h
       ·
        rw [List.mem_singleton.1 h]; omega
      obtain ⟨p1, p2, p3, p4⟩ := ih (ord ++ [(i : Int)]) (st.1 + 1, st.2) (by rw [List.length_append, List.length_singleton]; omega) hrg hnd q1
      generalize srch H n nb m (ord ++ [(i : Int)]) (st.1 + 1, st.2) = G at *
      refine ⟨hst, ?_, fun x t hx hO => ?_, fun z => ?_⟩
      ·
       rcases q2 with q2 | q2
       ·
        rcases p2 with p2 | p2
        ·
         exact .inl (by rw [q2, p2])
        ·
         exact .inr (by rw [q2]; exact p2)
       ·
        exact .inr q2
      ·
       by_cases hxi : x = i
       ·
        subst hxi
        have hO2 : OrdN n (ord ++ [(x : Int)] ++ t) := by rw [List.append_assoc]; exact hO
        obtain ⟨r1, r2⟩ := p3 t hO2
        obtain ⟨r3, r4⟩ := q4 r1
        rw [List.append_assoc] at r2
        exact ⟨r3, Int.le_trans r4 r2⟩
       ·
        exact q3 x t (by omega) hO
      ·
       obtain ⟨r1, r2⟩ := p4 z
       obtain ⟨r3, r4⟩ := q4 r1
       exact ⟨r3, Int.le_trans r4 r2⟩
  obtain ⟨k1, k2, k3, k4⟩ := key n 0 st (by omega) hf
  refine ⟨k1, k2, fun t hO => ?_, k4⟩
  match t with
  | [] =>
   have := hO.1
   rw [List.append_nil] at this
   omega
  | y :: t =>
   have hy := hO.2.1 y (List.mem_append_right _ List.mem_cons_self)
   have e : y = ((y.toNat : Nat) : Int) := by omega
   rw [e] at hO ⊢
   exact k3 y.toNat t (Nat.zero_le _) hO
theorem srch_all (H : List Int → Int) (n : Nat) (nb : Int) (hH : ∀ o, OrdN n o → 0 ≤ H o) (hf : (srch H n nb n [] (0, false, [], -1)).2.1 = false) (hex : ∃ o, OrdN n o) :
  OrdN n (srch H n nb n [] (0, false, [], -1)).2.2.1 ∧ (srch H n nb n [] (0, false, [], -1)).2.2.2 = H (srch H n nb n [] (0, false, [], -1)).2.2.1 ∧ ∀ o, OrdN n o → (srch H n nb n [] (0, false, [], -1)).2.2.2 ≤ H o := by
 obtain ⟨p1, p2, p3, p4⟩ := srch_min H n nb hH n [] (0, false, [], -1) (by simp) (fun x hx => by cases hx) List.nodup_nil hf
 obtain ⟨o, ho⟩ := hex
 have h0 := (p3 o ho).1
 rcases p2 with p2 | p2
 ·
  rw [p2] at h0
  exact absurd h0 (by decide)
 ·
  exact ⟨p2.1, p2.2, fun o ho => (p3 o ho).2⟩
theorem ordN_plain (n : Nat) : OrdN n ((List.range n).map fun i : Nat => (i : Int)) := by
 refine ⟨by simp, fun x hx => ?_, ?_⟩
 ·
  obtain ⟨i, hi, rfl⟩ := List.mem_map.1 hx
  have := List.mem_range.1 hi
  omega
 ·
  rw [List.nodup_iff_pairwise_ne, List.pairwise_map]
  refine List.Pairwise.imp ?_ (List.nodup_iff_pairwise_ne.1 (List.nodup_range (n := n)))
  intro a b h
  omega
def dfo (n : Nat) (o : List Int) : Bool := decide ((∀ x ∈ o, 0 ≤ x ∧ x < (n : Int)) ∧ o.Nodup)
theorem take_snocI (o : List Int) {i : Nat} (h : i < o.length) : o.take (i + 1) = o.take i ++ [o.getD i 0] := take_succ_getD o 0 h
theorem diff_ev (n : Nat) (o : List Int) (ho : o.length ≤ 1000) (hn : n ≤ 1000) : Ev (fun k => impl_differentOk.f k (n : Int) o) (dfo n o) := by
 unfold impl_differentOk.f
 have key : ∀ (m i : Nat), i + m = o.length → (∀ x ∈ o.take i, 0 ≤ x ∧ x < (n : Int)) → (o.take i).Nodup → Ev (fun k => impl_differentOk.l0 k (n : Int) o o (o.length : Int) (i : Int)) (dfo n o) := by
  intro m
  induction m with
  | zero =>
   intro i hi h1 h2
   obtain rfl : i = o.length := by omega
   rw [List.take_length] at h1 h2
   refine Ev.succ ?_
   simp only [impl_differentOk.l0, if_neg (show ¬ (o.length : Int) < (o.length : Int) by omega)]
   have e : dfo n o = true := decide_eq_true ⟨h1, h2⟩
   rw [e]
   exact Ev.now _
  | succ m ih =>
   intro i hi h1 h2
   have hlt : i < o.length := by omega
   refine Ev.succ ?_
   simp only [impl_differentOk.l0, if_pos (show (i : Int) < (o.length : Int) by omega), if_pos (show (0 : Int) ≤ (i : Int) by omega), if_pos (show (i : Int) ≤ (o.length : Int) by omega), rd_nat, impl_within.f, Option.bind_some, w64 (x := (n : Int) - 1) (by omega) (by omega), Int.toNat_natCast]
   by_cases c1 : inB 0 ((n : Int) - 1) (o.getD i 0) = true
   ·
    simp only [c1, if_true]
    unfold inB at c1
    simp only [Bool.and_eq_true, decide_eq_true_eq] at c1
    refine Ev.bind (cont_ev (o.take i) (o.getD i 0) (by rw [List.length_take]; omega)) ?_
    by_cases c2 : o.getD i 0 ∈ o.take i
    ·
     simp only [decide_eq_true c2, if_true]
     have e : dfo n o = false := by
      refine decide_eq_false fun ⟨_, hd⟩ => ?_
      have h3 : (o.take i ++ o.drop i).Nodup := by rw [List.take_append_drop]; exact hd
      have h4 := (List.nodup_append.1 h3).2.2 _ c2 (o.getD i 0) (by rw [List.drop_eq_getElem_cons hlt, getD_lt 0 hlt]; exact List.mem_cons_self)
      exact h4 rfl
     rw [e]
     exact Ev.now _
    ·
     simp only [decide_eq_false c2, Bool.false_eq_true, if_false, w64 (x := (i : Int) + 1) (by omega) (by omega)]
     refine ih (i + 1) (by omega) (fun x hx => ?_) ?_
     ·
      rw [take_snocI o hlt] at hx
      rcases List.mem_append.1 hx with h | h
      ·
       exact h1 x h
      ·
       rw [List.mem_singleton.1 h]; omega
     ·
      rw [take_snocI o hlt, List.nodup_append]
      refine ⟨h2, by simp, fun a ha b hb => ?_⟩
      rw [List.mem_singleton] at hb
      subst hb
      exact fun z => c2 (z ▸ ha)
   ·
    have e0 : inB 0 ((n : Int) - 1) (o.getD i 0) = false := by simpa using c1
    simp only [e0, Bool.false_eq_true, if_false]
    have e : dfo n o = false := by
     refine decide_eq_false fun ⟨hr, _⟩ => c1 ?_
     have := hr _ (getD_mem 0 hlt)
     unfold inB
     simp only [Bool.and_eq_true, decide_eq_true_eq]
     omega
    rw [e]
    exact Ev.now _
 exact key o.length 0 (by omega) (fun x hx => by simp at hx) (by simp)
def rcode (l : List S43) (o : List Int) (g : Int) : Int := if repsOk l = true then (if (o.length : Int) = (l.length : Int) ∧ dfo l.length o = true then (if inB 1 3 g = true then 0 else 2) else 7) else 1
theorem code_ev (l : List S43) (o : List Int) (g : Int) (hl : l.length ≤ 1000) (ho : o.length ≤ 1000) : Ev (fun k => impl_repairsCode.f k l o g) (rcode l o g) := by
 unfold impl_repairsCode.f rcode
 refine Ev.bind (implReps_ev l (by omega)) ?_
 cases repsOk l with
 | false => exact Ev.now _
 | true =>
  simp only [if_true]
  by_cases c1 : (o.length : Int) = (l.length : Int)
  ·
   simp only [if_pos c1]
   refine Ev.bind (diff_ev l.length o ho hl) ?_
   cases dfo l.length o with
   | false =>
    rw [if_neg (fun z => by cases z.2)]
    refine Ev.succ ?_
    simp only [impl_repairsCode.j0, Bool.not_false, if_true]
    exact Ev.now _
   | true =>
    rw [if_pos ⟨c1, rfl⟩]
    refine Ev.succ ?_
    simp only [impl_repairsCode.j0, Bool.not_true, Bool.false_eq_true, if_false, impl_gangsOk.f, impl_within.f, Option.bind_some]
    cases inB 1 3 g <;> exact Ev.now _
  ·
   simp only [if_neg c1]
   rw [if_neg (fun z => c1 z.1)]
   refine Ev.succ ?_
   simp only [impl_repairsCode.j0, if_true]
   exact Ev.now _
theorem rcode_zero {l : List S43} {o : List Int} {g : Int} (h : rcode l o g = 0) : repsOk l = true ∧ OrdN l.length o ∧ 1 ≤ g ∧ g ≤ 3 := by
 unfold rcode at h
 split at h
 ·
  rename_i h1
  split at h
  ·
   rename_i h2
   split at h
   ·
    rename_i h3
    unfold inB at h3
    simp only [Bool.and_eq_true, decide_eq_true_eq] at h3
    have h4 := of_decide_eq_true h2.2
    exact ⟨h1, ⟨by omega, h4.1, h4.2⟩, h3.1, h3.2⟩
   ·
    cases h
  ·
   cases h
 ·
  cases h
theorem rcode_ok {l : List S43} {o : List Int} {g : Int} (h1 : repsOk l = true) (h2 : OrdN l.length o) (h3 : 1 ≤ g ∧ g ≤ 3) : rcode l o g = 0 := by
 unfold rcode
 rw [if_pos h1, if_pos ⟨by have := h2.1; omega, decide_eq_true ⟨h2.2.1, h2.2.2⟩⟩, if_pos (by unfold inB; simp; omega)]
theorem gangHeatF_ev (l : List S43) (o : List Int) (g : Nat) (hl : l.length ≤ 1000) (ho : o.length ≤ 1000) : Ev (fun k => impl_GangHeat.f k l o (g : Int)) (if rcode l o (g : Int) = 0 then (hOf l g o, 0) else (0, rcode l o (g : Int))) := by
 unfold impl_GangHeat.f
 refine Ev.bind (code_ev l o (g : Int) hl ho) ?_
 by_cases c : rcode l o (g : Int) = 0
 ·
  simp only [if_pos c]
  obtain ⟨_, h2, h3⟩ := rcode_zero c
  exact Ev.bind (implHeat_ev l o g hl (by omega) ho h2.2.1) (Ev.now _)
 ·
  simp only [if_neg c]
  exact Ev.now _
theorem unserved_ev (l : List S43) (o : List Int) (hl : l.length ≤ 1000) (ho : o.length ≤ 1000) : Ev (fun k => impl_UnservedHeat.f k l o) (if rcode l o 1 = 0 then (hOf l 1 o, 0) else (0, rcode l o 1)) := by
 unfold impl_UnservedHeat.f
 exact Ev.bind (gangHeatF_ev l o 1 hl ho) (Ev.now' rfl)
theorem endTimes_ev (l : List S43) (o : List Int) (hl : l.length ≤ 1000) (ho : o.length ≤ 1000) : Ev (fun k => impl_EndTimes.f k l o) (if rcode l o 1 = 0 then (gEnds l o 1, 0) else ([], rcode l o 1)) := by
 unfold impl_EndTimes.f impl_GangEnds.f
 have h : Ev (fun k => (impl_repairsCode.f k l o 1).bind fun t => if t = 0 then ((impl_gangEnds.f k l o 1).bind fun t2 => some (t2, (0 : Int))) else some (([] : List Int), t)) (if rcode l o 1 = 0 then (gEnds l o 1, 0) else ([], rcode l o 1)) := by
  refine Ev.bind (code_ev l o 1 hl ho) ?_
  by_cases c : rcode l o 1 = 0
  ·
   simp only [if_pos c]
   obtain ⟨_, h2, h3⟩ := rcode_zero c
   exact Ev.bind (implEnds_ev l o 1 hl (by omega) ho h2.2.1) (Ev.now _)
  ·
   simp only [if_neg c]
   exact Ev.now _
 exact Ev.bind h (Ev.now' rfl)
def smo (f : Nat → Int) : List Int → Int
 | [] => 0
 | x :: t => f x.toNat + smo f t
theorem smo_append (f : Nat → Int) : ∀ (a b : List Int), smo f (a ++ b) = smo f a + smo f b
 | [], b => by simp [smo]
 | x :: t, b => by rw [List.cons_append, smo, smo_append f t b, smo]; omega
theorem sm_out (f : Nat → Int) (ord : List Int) (x : Nat) (hx : ¬ (x : Int) ∈ ord) : ∀ L : List Nat, L.Nodup → x ∈ L → sm f (L.filter fun i : Nat => decide (¬ (i : Int) ∈ ord ++ [(x : Int)])) + f x = sm f (L.filter fun i : Nat => decide (¬ (i : Int) ∈ ord)) := by
 have far : ∀ L : List Nat, ¬ x ∈ L → L.filter (fun i : Nat => decide (¬ (i : Int) ∈ ord ++ [(x : Int)])) = L.filter fun i : Nat => decide (¬ (i : Int) ∈ ord) := by
  intro L hL
  refine List.filter_congr fun j hj => ?_
  have hne : j ≠ x := fun e => hL (e ▸ hj)
  rw [decide_eq_decide]
  simp only [List.mem_append, List.mem_singleton, not_or]
  exact ⟨fun h => h.1, fun h => ⟨h, by omega⟩⟩
 intro L
 induction L with
 | nil => intro _ h; cases h
 | cons a t ih =>
  intro hn hm
  rw [List.nodup_cons] at hn
  by_cases e : a = x
  ·
   subst e
   rw [List.filter_cons, List.filter_cons, if_neg (by simp), if_pos (by simpa using hx), far t hn.1, sm]
   omega
  ·
   have hm2 : x ∈ t := by
    rcases List.mem_cons.1 hm with h | h
    ·
     exact absurd h.symm e
    ·
     exact h
   have h1 := ih hn.2 hm2
   have e2 : decide (¬ (a : Int) ∈ ord ++ [(x : Int)]) = decide (¬ (a : Int) ∈ ord) := by
    rw [decide_eq_decide]
    simp only [List.mem_append, List.mem_singleton, not_or]
    exact ⟨fun h => h.1, fun h => ⟨h, by omega⟩⟩
   rw [List.filter_cons, List.filter_cons, e2]
   split
   ·
    rw [sm, sm]
    omega
   ·
    exact h1
theorem smo_all (f : Nat → Int) (n : Nat) (o : List Int) (ho : OrdN n o) : smo f o = sm f (List.range n) := by
 have key : ∀ (t a : List Int), (a ++ t).Nodup → (∀ x ∈ a ++ t, 0 ≤ x ∧ x < (n : Int)) → sm f ((List.range' 0 n).filter fun i : Nat => decide (¬ (i : Int) ∈ a ++ t)) + smo f t = sm f ((List.range' 0 n).filter fun i : Nat => decide (¬ (i : Int) ∈ a)) ∧ cnt (List.range' 0 n) (a ++ t) + t.length = cnt (List.range' 0 n) a := by
  intro t
  induction t with
  | nil => intro a _ _; simp [smo]
  | cons x t ih =>
   intro a hd hr
   have hx := hr x (List.mem_append_right _ List.mem_cons_self)
   obtain ⟨j, rfl⟩ : ∃ j : Nat, x = (j : Int) := ⟨x.toNat, by omega⟩
   have hna : ¬ (j : Int) ∈ a := fun z => (List.nodup_append.1 hd).2.2 _ z _ List.mem_cons_self rfl
   have hjm : j ∈ List.range' 0 n := by rw [List.mem_range']; exact ⟨j, by omega, by omega⟩
   have e : a ++ (j : Int) :: t = (a ++ [(j : Int)]) ++ t := by rw [List.append_assoc]; rfl
   rw [e] at hd hr ⊢
   obtain ⟨p1, p2⟩ := ih (a ++ [(j : Int)]) hd hr
   have h2 := sm_out f a j hna (List.range' 0 n) List.nodup_range' hjm
   have h3 := cnt_snoc a j hna (List.range' 0 n) List.nodup_range' hjm
   rw [smo, Int.toNat_natCast, List.length_cons]
   exact ⟨by omega, by omega⟩
 obtain ⟨p1, p2⟩ := key o [] (by rw [List.nil_append]; exact ho.2.2) (by rw [List.nil_append]; exact ho.2.1)
 rw [List.nil_append] at p1 p2
 have hc : cnt (List.range' 0 n) [] = n := by
  unfold cnt
  have : ∀ L : List Nat, L.countP (fun i : Nat => decide (¬ (i : Int) ∈ ([] : List Int))) = L.length := by
   intro L
   rw [List.countP_eq_length]
   intro a _
   simp
  rw [this, List.length_range']
 have hz : (List.range' 0 n).filter (fun i : Nat => decide (¬ (i : Int) ∈ o)) = [] := by
  refine List.eq_nil_of_length_eq_zero ?_
  rw [← List.countP_eq_length_filter]
  have : cnt (List.range' 0 n) o = 0 := by have := ho.1; omega
  exact this
 have hall : (List.range' 0 n).filter (fun i : Nat => decide (¬ (i : Int) ∈ ([] : List Int))) = List.range' 0 n := by
  rw [List.filter_eq_self]
  intro a _
  simp
 rw [hz, hall, ← List.range_eq_range'] at p1
 rw [← p1, sm]
 omega
theorem ev_of_mono {α : Type} {g : Nat → Option α} {r : α} (hm : ∀ k, LeO (g k) (g (k + 1))) (k : Nat) (h : g k = some r) : Ev g r := by
 refine ⟨k, fun n hn => ?_⟩
 obtain ⟨d, rfl⟩ : ∃ d, n = k + d := ⟨n - k, by omega⟩
 clear hn
 induction d with
 | zero => exact h
 | succ d ih => exact hm _ _ ih
theorem among_ex {l0 : List Int} (h : SrcOk l0) (s t : Int) (L : List Int) (hL : 1 ≤ L.length) (hL2 : L.length ≤ 1000) (h0 : 0 ≤ s) (h1 : s ≤ 900000000000) : ∃ r s' t', spec_l00Src_among.f l0 s t L = some (r, s', t') ∧ r ∈ L ∧ s ≤ s' ∧ s' ≤ s + 2 := by
 obtain ⟨r, s', t', e, r0, r1, a, b⟩ := pick_eq h s t (L.length : Int) h0 h1 (by omega) (by omega)
 unfold spec_l00Src_among.f
 rw [e]
 simp only [Option.bind_some]
 rw [if_pos r0, if_pos r1]
 refine ⟨_, _, _, rfl, ?_, a, b⟩
 have e2 : rd L r = L.getD r.toNat 0 := rfl
 rw [e2]
 exact getD_mem 0 (by omega)
theorem drawOne_ex {l0 : List Int} (h : SrcOk l0) (s t : Int) (nm : ByteArray) (h0 : 0 ≤ s) (h1 : s ≤ 800000000000) : ∃ a b c s' t', spec_l20DrawOne.f l0 s t nm = some (nm, a, b, c, s', t') ∧ s ≤ s' ∧ s' ≤ s + 6 := by
 obtain ⟨r1, s1, t1, e1, _, _, a1, b1⟩ := pick_eq h s t 12 h0 (by omega) (by decide) (by decide)
 obtain ⟨r2, s2, t2, e2, _, _, a2, b2⟩ := pick_eq h s1 t1 60 (by omega) (by omega) (by decide) (by decide)
 obtain ⟨r3, s3, t3, e3, _, a3, b3⟩ := among_ex h s2 t2 [0, 0, 0, 5, 20] (by decide) (by decide) (by omega) (by omega)
 unfold spec_l20DrawOne.f
 rw [e1]
 simp only [Option.bind_some]
 rw [e2]
 simp only [Option.bind_some]
 rw [e3]
 exact ⟨_, _, _, s3, t3, rfl, by omega, by omega⟩
theorem bend_ex {l0 : List Int} (h : SrcOk l0) (s t : Int) (nm : ByteArray) (a b c : Int) (h0 : 0 ≤ s) (h1 : s ≤ 800000000000) : ∃ a' b' c' s' t', spec_l20Bend.f l0 s t nm a b c = some (nm, a', b', c', s', t') ∧ s ≤ s' ∧ s' ≤ s + 4 := by
 obtain ⟨r1, s1, t1, e1, _, _, a1, b1⟩ := pick_eq h s t 18 h0 (by omega) (by decide) (by decide)
 unfold spec_l20Bend.f
 rw [e1]
 simp only [Option.bind_some]
 split
 ·
  obtain ⟨r3, s3, t3, e3, _, a3, b3⟩ := among_ex h s1 t1 [0, 100, 101] (by decide) (by decide) (by omega) (by omega)
  rw [e3]
  exact ⟨_, _, _, s3, t3, rfl, by omega, by omega⟩
 ·
  split
  ·
   obtain ⟨r3, s3, t3, e3, _, a3, b3⟩ := among_ex h s1 t1 [(-1), 100000, 100001] (by decide) (by decide) (by omega) (by omega)
   rw [e3]
   exact ⟨_, _, _, s3, t3, rfl, by omega, by omega⟩
  ·
   split
   ·
    obtain ⟨r3, s3, t3, e3, _, a3, b3⟩ := among_ex h s1 t1 [(-1), 1000, 1001] (by decide) (by decide) (by omega) (by omega)
    rw [e3]
    exact ⟨_, _, _, s3, t3, rfl, by omega, by omega⟩
   ·
    exact ⟨_, _, _, s1, t1, rfl, by omega, by omega⟩
theorem dec9 : ∀ m : Fin 10, ((spec_l01Dec.f 9 (m.val : Int)).any fun b => decide (b.size ≤ 2)) = true := by decide +kernel
theorem decSmall0_ev (n : Int) (h0 : 0 ≤ n) (h1 : n ≤ 9) : ∃ b, Ev (fun k => spec_l01Dec.f k n) b ∧ b.size ≤ 2 := by
 have h := dec9 ⟨n.toNat, by omega⟩
 have e : ((n.toNat : Nat) : Int) = n := Int.toNat_of_nonneg (by omega)
 rw [show (((⟨n.toNat, by omega⟩ : Fin 10).val : Nat) : Int) = n from e] at h
 cases c : spec_l01Dec.f 9 n with
 | none => rw [c] at h; cases h
 | some b =>
  rw [c] at h
  exact ⟨b, ev_of_mono (fun k => spec_l01Dec.mono n k) 9 c, of_decide_eq_true h⟩
theorem drawReps_ev {l0 : List Int} (h : SrcOk l0) (s t : Int) (h0 : 0 ≤ s) (h1 : s ≤ 100000000000) : ∃ L s' t', Ev (fun k => spec_l20Draw.f k l0 s t) (L, s', t') ∧ L.length ≤ 9 ∧ s ≤ s' ∧ s' ≤ s + 200 := by
 unfold spec_l20Draw.f
 have many : ∀ (m : Nat) (i c : Int) (L : List S43) (s t : Int), i + (m : Int) = c → 0 ≤ i → c ≤ 9 → L.length = i.toNat → 0 ≤ s → s + 10 * (m : Int) ≤ 200000000000 → ∃ L' s' t', Ev (fun k => spec_l20Draw.l1 k L c i l0 s t) (L', s', t') ∧ L'.length ≤ 9 ∧ s ≤ s' ∧ s' ≤ s + 10 * (m : Int) := by
  intro m
  induction m with
  | zero =>
   intro i c L s t hi h0 h1 hl hs hs1
   refine ⟨L, s, t, Ev.succ ?_, by omega, by omega, by omega⟩
   simp only [spec_l20Draw.l1, if_neg (show ¬ i < c by omega)]
   exact Ev.now _
  | succ m ih =>
   intro i c L s t hi h0 h1 hl hs hs1
   obtain ⟨b, hb, hb2⟩ := decSmall0_ev i h0 (by omega)
   obtain ⟨p, q, r, s1, t1, e1, a1, b1⟩ := drawOne_ex h s t ((⟨#[110]⟩ : ByteArray) ++ b) hs (by omega)
   obtain ⟨L', s', t', hE, h2, h3, h4⟩ := ih (i + 1) c (L ++ [⟨(⟨#[110]⟩ : ByteArray) ++ b, p, q, r⟩]) s1 t1 (by omega) (by omega) h1 (by rw [List.length_append, List.length_singleton]; omega) (by omega) (by omega)
   refine ⟨L', s', t', Ev.succ ?_, h2, by omega, by omega⟩
   simp only [spec_l20Draw.l1, if_pos (show i < c by omega)]
   refine Ev.bind hb ?_
   simp only [if_pos (show 1 + b.size ≤ 9223372036854775807 by omega), e1, Option.bind_some, if_pos (show L.length < 3518437208883 by omega), w64 (x := i + 1) (by omega) (by omega)]
   exact hE
 have key : ∀ (m : Nat) (i : Int) (L : List S43) (s t : Int), i + (m : Int) = 5 → 0 ≤ i → (L.length : Int) ≤ i → 0 ≤ s → s + 10 * (m : Int) ≤ 150000000000 → ∃ L' s' t', Ev (fun k => spec_l20Draw.l0 k [(⟨#[97, 114, 99, 104]⟩ : ByteArray), (⟨#[98, 101, 110, 100]⟩ : ByteArray), (⟨#[99, 97, 112]⟩ : ByteArray), (⟨#[100, 117, 99, 116]⟩ : ByteArray), (⟨#[101, 110, 100]⟩ : ByteArray)] L i l0 s t) (L', s', t') ∧ L'.length ≤ 9 ∧ s ≤ s' ∧ s' ≤ s + 120 + 10 * (m : Int) := by
  intro m
  induction m with
  | zero =>
   intro i L s t hi h0 hl hs hs1
   obtain ⟨r1, s1, t1, e1, _, _, a1, b1⟩ := pick_eq h s t 24 hs (by omega) (by decide) (by decide)
   by_cases c1 : r1 = 0
   ·
    obtain ⟨p, q, r, s2, t2, e2, a2, b2⟩ := drawOne_ex h s1 t1 (⟨#[122, 122]⟩ : ByteArray) (by omega) (by omega)
    obtain ⟨p', q', r', s3, t3, e3, a3, b3⟩ := bend_ex h s2 t2 (⟨#[122, 122]⟩ : ByteArray) p q r (by omega) (by omega)
    refine ⟨L ++ [⟨(⟨#[122, 122]⟩ : ByteArray), p', q', r'⟩], s3, t3, Ev.succ ?_, by rw [List.length_append, List.length_singleton]; omega, by omega, by omega⟩
    simp only [spec_l20Draw.l0, if_neg (show ¬ i < (([(⟨#[97, 114, 99, 104]⟩ : ByteArray), (⟨#[98, 101, 110, 100]⟩ : ByteArray), (⟨#[99, 97, 112]⟩ : ByteArray), (⟨#[100, 117, 99, 116]⟩ : ByteArray), (⟨#[101, 110, 100]⟩ : ByteArray)] : List ByteArray).length : Int) by show ¬ i < (5 : Int); omega), e1, Option.bind_some, if_pos c1, e2, e3, if_pos (show L.length < 3518437208883 by omega)]
    exact Ev.now _
   ·
    by_cases c2 : r1 = 1
    ·
     obtain ⟨r3, s3, t3, e3, hm, a3, b3⟩ := among_ex h s1 t1 [7, 9] (by decide) (by decide) (by omega) (by omega)
     have hr3 : 0 ≤ r3 ∧ r3 ≤ 9 := by
      rcases List.mem_cons.1 hm with h | h
      ·
       omega
      ·
       have := List.mem_singleton.1 h; omega
     obtain ⟨L', s', t', hE, h2, h3, h4⟩ := many r3.toNat 0 r3 [] s3 t3 (by omega) (by omega) (by omega) rfl (by omega) (by omega)
     refine ⟨L', s', t', Ev.succ ?_, h2, by omega, by omega⟩
     simp only [spec_l20Draw.l0, if_neg (show ¬ i < (([(⟨#[97, 114, 99, 104]⟩ : ByteArray), (⟨#[98, 101, 110, 100]⟩ : ByteArray), (⟨#[99, 97, 112]⟩ : ByteArray), (⟨#[100, 117, 99, 116]⟩ : ByteArray), (⟨#[101, 110, 100]⟩ : ByteArray)] : List ByteArray).length : Int) by show ¬ i < (5 : Int); omega), e1, Option.bind_some, if_neg c1, if_pos c2, e3]
     exact hE
    ·
     refine ⟨L, s1, t1, Ev.succ ?_, by omega, by omega, by omega⟩
     simp only [spec_l20Draw.l0, if_neg (show ¬ i < (([(⟨#[97, 114, 99, 104]⟩ : ByteArray), (⟨#[98, 101, 110, 100]⟩ : ByteArray), (⟨#[99, 97, 112]⟩ : ByteArray), (⟨#[100, 117, 99, 116]⟩ : ByteArray), (⟨#[101, 110, 100]⟩ : ByteArray)] : List ByteArray).length : Int) by show ¬ i < (5 : Int); omega), e1, Option.bind_some, if_neg c1, if_neg c2]
     exact Ev.now _
  | succ m ih =>
   intro i L s t hi h0 hl hs hs1
   obtain ⟨b1, s1, t1, e1, a1, c1⟩ := one_eq h s t 3 hs (by omega) (by decide) (by decide)
   cases b1 with
   | true =>
    obtain ⟨L', s', t', hE, h2, h3, h4⟩ := ih (i + 1) L s1 t1 (by omega) (by omega) (by omega) (by omega) (by omega)
    refine ⟨L', s', t', Ev.succ ?_, h2, by omega, by omega⟩
    simp only [spec_l20Draw.l0, if_pos (show i < (([(⟨#[97, 114, 99, 104]⟩ : ByteArray), (⟨#[98, 101, 110, 100]⟩ : ByteArray), (⟨#[99, 97, 112]⟩ : ByteArray), (⟨#[100, 117, 99, 116]⟩ : ByteArray), (⟨#[101, 110, 100]⟩ : ByteArray)] : List ByteArray).length : Int) by show i < (5 : Int); omega), e1, Option.bind_some, if_true, w64 (x := i + 1) (by omega) (by omega)]
    exact hE
   | false =>
    obtain ⟨p, q, r, s2, t2, e2, a2, b2⟩ := drawOne_ex h s1 t1 (rdOf ByteArray.empty [(⟨#[97, 114, 99, 104]⟩ : ByteArray), (⟨#[98, 101, 110, 100]⟩ : ByteArray), (⟨#[99, 97, 112]⟩ : ByteArray), (⟨#[100, 117, 99, 116]⟩ : ByteArray), (⟨#[101, 110, 100]⟩ : ByteArray)] i) (by omega) (by omega)
    obtain ⟨L', s', t', hE, h2, h3, h4⟩ := ih (i + 1) (L ++ [⟨_, p, q, r⟩]) s2 t2 (by omega) (by omega) (by rw [List.length_append, List.length_singleton]; omega) (by omega) (by omega)
    refine ⟨L', s', t', Ev.succ ?_, h2, by omega, by omega⟩
    simp only [spec_l20Draw.l0, if_pos (show i < (([(⟨#[97, 114, 99, 104]⟩ : ByteArray), (⟨#[98, 101, 110, 100]⟩ : ByteArray), (⟨#[99, 97, 112]⟩ : ByteArray), (⟨#[100, 117, 99, 116]⟩ : ByteArray), (⟨#[101, 110, 100]⟩ : ByteArray)] : List ByteArray).length : Int) by show i < (5 : Int); omega), e1, Option.bind_some, Bool.false_eq_true, if_false, if_pos h0, e2, if_pos (show L.length < 3518437208883 by omega), w64 (x := i + 1) (by omega) (by omega)]
    exact hE
 obtain ⟨L', s', t', hE, h2, h3, h4⟩ := key 5 0 [] s t (by decide) (by decide) (by decide) h0 (by omega)
 exact ⟨L', s', t', hE, h2, by omega, by omega⟩
theorem drawOrd_ev {l0 : List Int} (h : SrcOk l0) (s t : Int) (n : Nat) (hn : n ≤ 9) (h0 : 0 ≤ s) (h1 : s ≤ 200000000000) : ∃ o s' t', Ev (fun k => spec_l20DrawOrder.f k l0 s t (n : Int)) (o, s', t') ∧ o.length ≤ 10 := by
 have last : ∀ (o : List Int) (s t : Int), o.length = n → 0 ≤ s → s ≤ 300000000000 → ∃ o' s' t', Ev (fun k => spec_l20DrawOrder.j2 k (n : Int) o l0 s t) (o', s', t') ∧ o'.length ≤ 10 := by
  intro o s t ho hs hs1
  obtain ⟨r1, s1, t1, e1, _, _, a1, b1⟩ := pick_eq h s t 16 hs (by omega) (by decide) (by decide)
  by_cases c1 : r1 = 0
  ·
   refine ⟨o ++ [0], s1, t1, Ev.succ ?_, by rw [List.length_append, List.length_singleton]; omega⟩
   simp only [spec_l20DrawOrder.j2, e1, Option.bind_some, if_pos c1, if_pos (show o.length < 17592186044416 by omega)]
   exact Ev.now _
  ·
   by_cases c2 : r1 = 1
   ·
    by_cases c3 : (n : Int) > 0
    ·
     obtain ⟨r3, s3, t3, e3, hm, a3, b3⟩ := among_ex h s1 t1 [(-1), (n : Int), 0] (by show 1 ≤ 3; decide) (by show 3 ≤ 1000; decide) (by omega) (by omega)
     refine ⟨o.set 0 r3, s3, t3, Ev.succ ?_, by rw [List.length_set]; omega⟩
     simp only [spec_l20DrawOrder.j2, e1, Option.bind_some, if_neg c1, if_pos c2, if_pos c3, e3, if_pos (show 0 < (o.length : Int) by omega)]
     exact Ev.now _
    ·
     refine ⟨o, s1, t1, Ev.succ ?_, by omega⟩
     simp only [spec_l20DrawOrder.j2, e1, Option.bind_some, if_neg c1, if_pos c2, if_neg c3]
     exact Ev.now _
   ·
    refine ⟨o, s1, t1, Ev.succ ?_, by omega⟩
    simp only [spec_l20DrawOrder.j2, e1, Option.bind_some, if_neg c1, if_neg c2]
    exact Ev.now _
 have mid : ∀ (b : Bool) (o : List Int) (s t : Int), o.length = n → (b = true → 1 ≤ n) → 0 ≤ s → s ≤ 290000000000 → ∃ o' s' t', Ev (fun k => spec_l20DrawOrder.j1 k (n : Int) o b l0 s t) (o', s', t') ∧ o'.length ≤ 10 := by
  intro b o s t ho hb hs hs1
  cases b with
  | false =>
   obtain ⟨o', s', t', hE, h2⟩ := last o s t ho hs (by omega)
   refine ⟨o', s', t', Ev.succ ?_, h2⟩
   simp only [spec_l20DrawOrder.j1, Bool.false_eq_true, if_false]
   exact hE
  | true =>
   have hb := hb rfl
   obtain ⟨r1, s1, t1, e1, q0, q1, a1, b1⟩ := pick_eq h s t (n : Int) hs (by omega) (by omega) (by omega)
   obtain ⟨o', s', t', hE, h2⟩ := last ((o.set (0 : Int).toNat (rd o r1)).set (r1 : Int).toNat (rd o 0)) s1 t1 (by rw [List.length_set, List.length_set]; exact ho) (by omega) (by omega)
   refine ⟨o', s', t', Ev.succ ?_, h2⟩
   simp only [spec_l20DrawOrder.j1, if_true, if_pos (show 0 < (o.length : Int) by omega), e1, Option.bind_some, if_pos q0, if_pos (show r1 < (o.length : Int) by omega)]
   exact hE
 have key : ∀ (m : Nat) (i b : Int) (o : List Int) (s t : Int), i + (m : Int) = (n : Int) → 0 ≤ i → o.length = i.toNat → 0 ≤ s → s ≤ 280000000000 → ∃ o' s' t', Ev (fun k => spec_l20DrawOrder.l0 k (n : Int) o b i l0 s t) (o', s', t') ∧ o'.length ≤ 10 := by
  intro m
  induction m with
  | zero =>
   intro i b o s t hi h0 hl hs hs1
   by_cases c : (n : Int) > 1
   ·
    obtain ⟨b1, s1, t1, e1, a1, c1⟩ := one_eq h s t 2 hs (by omega) (by decide) (by decide)
    obtain ⟨o', s', t', hE, h2⟩ := mid b1 o s1 t1 (by omega) (fun _ => by omega) (by omega) (by omega)
    refine ⟨o', s', t', Ev.succ ?_, h2⟩
    simp only [spec_l20DrawOrder.l0, if_neg (show ¬ i < (n : Int) by omega), if_pos c, e1, Option.bind_some]
    exact hE
   ·
    obtain ⟨o', s', t', hE, h2⟩ := mid false o s t (by omega) (fun z => by cases z) (by omega) (by omega)
    refine ⟨o', s', t', Ev.succ ?_, h2⟩
    simp only [spec_l20DrawOrder.l0, if_neg (show ¬ i < (n : Int) by omega), if_neg c]
    exact hE
  | succ m ih =>
   intro i b o s t hi h0 hl hs hs1
   obtain ⟨o', s', t', hE, h2⟩ := ih (i + 1) b (o ++ [Int.tmod (wrap64 (i + b)) (n : Int)]) s t (by omega) (by omega) (by rw [List.length_append, List.length_singleton]; omega) hs hs1
   refine ⟨o', s', t', Ev.succ ?_, h2⟩
   simp only [spec_l20DrawOrder.l0, if_pos (show i < (n : Int) by omega), if_neg (show ¬ (n : Int) = 0 by omega), if_pos (show o.length < 17592186044416 by omega), w64 (x := i + 1) (by omega) (by omega)]
   exact hE
 unfold spec_l20DrawOrder.f
 have em : spec_l00Max.f 1 (n : Int) = some (if (n : Int) ≤ 1 then 1 else (n : Int)) := by
  unfold spec_l00Max.f
  split <;> split <;> first | rfl | (congr 1; omega)
 simp only [em, Option.bind_some]
 obtain ⟨r1, s1, t1, e1, _, _, a1, b1⟩ := pick_eq h s t (if (n : Int) ≤ 1 then 1 else (n : Int)) h0 (by omega) (by split <;> omega) (by split <;> omega)
 simp only [e1, Option.bind_some]
 exact key n 0 r1 [] s1 t1 (by omega) (by decide) rfl (by omega) (by omega)
theorem drawEnds_ev {l0 : List Int} (h : SrcOk l0) : ∃ L o, Ev (fun k => spec_DrawEndTimes.f k l0) (L, o) ∧ L.length ≤ 9 ∧ o.length ≤ 10 := by
 obtain ⟨L, s, t, e1, h1, h2, h3⟩ := drawReps_ev h 0 0 (by decide) (by decide)
 obtain ⟨o, s', t', e2, h4⟩ := drawOrd_ev h s t L.length h1 (by omega) (by omega)
 refine ⟨L, o, ?_, h1, h4⟩
 unfold spec_DrawEndTimes.f spec_l00From.f
 simp only [Option.bind_some]
 exact Ev.bind e1 (Ev.bind e2 (Ev.now _))
theorem drawGangs_ev {l0 : List Int} (h : SrcOk l0) : ∃ L g b, Ev (fun k => spec_DrawBestGangs.f k l0) (L, g, b) ∧ L.length ≤ 9 ∧ 0 ≤ g ∧ g ≤ 4 := by
 obtain ⟨L, s, t, e1, h1, h2, h3⟩ := drawReps_ev h 0 0 (by decide) (by decide)
 obtain ⟨g, s2, t2, e2, m2, a2, b2⟩ := among_ex h s t [1, 2, 3, 2, 0, 4] (by decide) (by decide) (by omega) (by omega)
 obtain ⟨b, s3, t3, e3, m3, a3, b3⟩ := among_ex h s2 t2 [1, 20, 100, 400, 2000, 0, 20001] (by decide) (by decide) (by omega) (by omega)
 refine ⟨L, g, b, ?_, h1, ?_⟩
 ·
  unfold spec_DrawBestGangs.f spec_l00From.f
  simp only [Option.bind_some]
  refine Ev.bind e1 ?_
  unfold spec_l20DrawGangs.f
  simp only [e2, Option.bind_some, e3]
  exact Ev.now _
 ·
  simp only [List.mem_cons, List.not_mem_nil, or_false] at m2
  omega
theorem lit_u8 {x : Int} (h : (Lit.int .u8 x).wf = true) : 0 ≤ x ∧ x ≤ 255 := by
 have h2 : (decide (IntKind.u8.min ≤ x) && decide (x ≤ IntKind.u8.max)) = true := h
 simp only [Bool.and_eq_true, decide_eq_true_eq] at h2
 exact h2
theorem src_of {l : List Int} (h0 : l.length ≤ 1048576) (h : ∀ x ∈ l, (Lit.int .u8 x).wf = true) : SrcOk l := ⟨h0, fun x hx => by
 have := h x hx
 exact lit_u8 this⟩
theorem fold_len (l : List S43) : ∀ (o : List Int) (s : List Int × List Int × Int), (o.foldl (gst l) s).1.length = s.1.length ∧ (o.foldl (gst l) s).2.1.length = s.2.1.length
 | [], s => ⟨rfl, rfl⟩
 | x :: t, s => by
  rw [List.foldl_cons]
  obtain ⟨a, b⟩ := fold_len l t (gst l s x)
  rw [a, b]
  unfold gst
  exact ⟨List.length_set, List.length_set⟩
theorem far_end (l : List S43) (y : Nat) : ∀ (o : List Int) (s : List Int × List Int × Int), (∀ x ∈ o, x.toNat ≠ y) → (o.foldl (gst l) s).2.1.getD y 0 = s.2.1.getD y 0
 | [], s, _ => rfl
 | x :: t, s, h => by
  rw [List.foldl_cons, far_end l y t (gst l s x) fun z hz => h z (List.mem_cons_of_mem _ hz)]
  unfold gst
  show (s.2.1.set x.toNat _).getD y 0 = _
  rw [getD_setI, if_neg fun z => h x List.mem_cons_self z.1]
theorem one_step {l : List S43} (hx : ∀ i, i < l.length → repR (rdP l i) = true) (hn : l.length ≤ 8) {o : List Int} (ho : OrdN l.length o) {i : Nat} (hi : i < o.length) :
  ∃ b : Int, (gEnds l o 1).getD (o.getD i 0).toNat 0 = b + (rdP l (o.getD i 0).toNat).f1 ∧ (rdP l (o.getD i 0).toNat).f3 ≤ b ∧ (gAll l (o.take i) 1).1.getD 0 0 ≤ b ∧ 0 ≤ b ∧ b ≤ 1800 ∧ 0 ≤ (gAll l (o.take i) 1).1.getD 0 0 ∧ (gAll l (o.take (i + 1)) 1).1.getD 0 0 = (gEnds l o 1).getD (o.getD i 0).toNat 0 := by
 have hin : o.getD i 0 ∈ o := getD_mem 0 hi
 have hr := ho.2.1 _ hin
 have hol := ho.1
 have hsplit : o = o.take i ++ o.getD i 0 :: o.drop (i + 1) := by
  have e1 := take_succ_getD o 0 hi
  have e2 := List.take_append_drop (i + 1) o
  rw [e1, List.append_assoc] at e2
  exact e2.symm
 have hlt : (o.take i).length ≤ 8 := by rw [List.length_take]; omega
 obtain ⟨k1, k2, k3, k4⟩ := gAll_bd l 1 hx (o.take i) (List.replicate 1 0, List.replicate l.length 0, 0) 1000 (fun x h => ho.2.1 x (List.mem_of_mem_take h)) (by decide) (by omega) (InB_rep 1 (by decide)) (InB_rep _ (by decide)) ⟨Int.le_refl _, by show (0 : Int) ≤ 1000; decide⟩
 obtain ⟨b, e, hg, he, f1, f2, f3, b0, b1⟩ := gst_facts (hx (o.getD i 0).toNat (by omega)) (by omega : (1000 : Int) ≤ 1800) (by decide) (InB_mono k1 (by omega)) (InB_mono k2 (by omega)) ⟨k3, by omega⟩
 obtain ⟨n1, n2⟩ := fold_len l (o.take i) (List.replicate 1 0, List.replicate l.length 0, 0)
 have n1' : ((o.take i).foldl (gst l) (List.replicate 1 0, List.replicate l.length 0, 0)).1.length = 1 := n1
 have n2' : ((o.take i).foldl (gst l) (List.replicate 1 0, List.replicate l.length 0, 0)).2.1.length = l.length := by rw [n2, List.length_replicate]
 have am0 : amin ((o.take i).foldl (gst l) (List.replicate 1 0, List.replicate l.length 0, 0)).1 = 0 := by
  unfold amin
  rw [n1']
  rfl
 have eE : (gEnds l o 1).getD (o.getD i 0).toNat 0 = e := by
  unfold gEnds
  conv => lhs; arg 1; rw [hsplit]
  rw [List.foldl_append, List.foldl_cons, far_end l _ _ _ fun x hx2 => ?_, hg]
  ·
   show (_ : List Int).getD _ 0 = e
   rw [getD_setI, if_pos ⟨rfl, by rw [n2']; omega⟩]
  ·
   have hd := ho.2.2
   rw [hsplit] at hd
   have h1 := ((List.nodup_append.1 hd).2.1)
   rw [List.nodup_cons] at h1
   have h2 := ho.2.1 x (List.mem_of_mem_drop hx2)
   intro z
   have e : x = o.getD i 0 := by omega
   exact h1.1 (e ▸ hx2)
 rw [am0] at f1 hg
 refine ⟨b, by rw [eE]; exact he, f2, f1, b0, b1, (k1 0).1, ?_⟩
 rw [eE]
 unfold gAll
 rw [take_succ_getD o 0 hi, List.foldl_append, List.foldl_cons, List.foldl_nil, hg]
 show (_ : List Int).getD 0 0 = e
 rw [getD_setI, if_pos ⟨rfl, by rw [n1']; decide⟩]
def finG (l : List S43) (g : Nat) (nb : Int) : Int × Bool × List Int × Int := srch (hOf l g) l.length nb l.length [] (0, false, [], -1)
def resG (l : List S43) (a b : Int) : List Int × Int × Int :=
 if repsOk l = true then (if inB 1 3 a = true then (if inB 1 20000 b = true then (if (finG l a.toNat b).2.1 = true then ([], 0, 5) else ((finG l a.toNat b).2.2.1, (finG l a.toNat b).2.2.2, 0)) else ([], 0, 2)) else ([], 0, 2)) else ([], 0, 1)
theorem gangs_ev (l : List S43) (a b : Int) (h1 : l.length ≤ 1048576) : Ev (fun k => impl_BestGangs.f k l a b) (resG l a b) := by
 unfold impl_BestGangs.f resG
 refine Ev.bind (implReps_ev l (by omega)) ?_
 cases hu : repsOk l with
 | false => exact Ev.now _
 | true =>
  simp only [if_true, impl_gangsOk.f, impl_budgetValid.f, impl_within.f, Option.bind_some]
  cases ha : inB 1 3 a with
  | false => exact Ev.now _
  | true =>
   simp only [if_true]
   cases hb : inB 1 20000 b with
   | false => exact Ev.now _
   | true =>
    simp only [if_true]
    have hl := (repsOk_facts hu).1
    unfold inB at ha hb
    simp only [Bool.and_eq_true, decide_eq_true_eq] at ha hb
    obtain ⟨g, hg⟩ : ∃ g : Nat, a = (g : Int) := ⟨a.toNat, by omega⟩
    subst hg
    rw [Int.toNat_natCast]
    have h := implSrch_ev l g true b hl (by omega) (by omega) l.length [] (0, false, [], -1) (by simp) (fun x hx => by cases hx) (by show (0 : Int) ≤ 0 ∧ 0 ≤ b; omega) rfl (.inl rfl)
    have e : (toI true b (0, false, ([] : List Int), (-1 : Int))).1 = b := by
     unfold toI
     simp
    rw [e] at h
    refine Ev.bind h ?_
    show Ev (fun _ => if (toI true b (finG l g b)).1 < 0 then some ([], 0, 5) else some ((finG l g b).2.2.1, (finG l g b).2.2.2, 0)) _
    have hbd := srch_bd (hOf l g) l.length b l.length [] (0, false, [], -1) (by show (0 : Int) ≤ 0 ∧ 0 ≤ b; omega)
    have hbd' : 0 ≤ (finG l g b).1 ∧ (finG l g b).1 ≤ b := hbd
    cases hf : (finG l g b).2.1 with
    | true =>
     have e2 : (toI true b (finG l g b)).1 = -1 := by unfold toI; rw [if_pos rfl, if_pos hf]
     simp only [e2, show (-1 : Int) < 0 by decide, if_true]
     exact Ev.now _
    | false =>
     have e2 : (toI true b (finG l g b)).1 = b - (finG l g b).1 := by unfold toI; rw [if_pos rfl, if_neg (by rw [hf]; decide)]
     simp only [e2, if_neg (show ¬ b - (finG l g b).1 < 0 by omega), Bool.false_eq_true, if_false]
     exact Ev.now _
theorem NN_le : ∀ m : Fin 9, NN m.val ≤ 1000000 := by decide
theorem cnt_nil (n : Nat) : cnt (List.range' 0 n) [] = n := by
 unfold cnt
 have : ∀ L : List Nat, L.countP (fun i : Nat => decide (¬ (i : Int) ∈ ([] : List Int))) = L.length := by
  intro L
  rw [List.countP_eq_length]
  intro a _
  simp
 rw [this, List.length_range']
theorem order_ev (l : List S43) (hu : repsOk l = true) : Ev (fun k => impl_BestOrder.f k l) ((finG l 1 1000000).2.2.1, (finG l 1 1000000).2.2.2, 0) := by
 have hl := (repsOk_facts hu).1
 unfold impl_BestOrder.f
 refine Ev.bind (implReps_ev l (by omega)) ?_
 simp only [hu, if_true]
 have hN := NN_le ⟨l.length, by omega⟩
 have h := implSrch_ev l 1 false 1000000 hl (by omega) (by omega) l.length [] (0, false, [], -1) (by simp) (fun x hx => by cases hx) (by show (0 : Int) ≤ 0 ∧ (0 : Int) ≤ 1000000; omega) rfl (.inr ⟨cnt_nil _, by show 0 + NN l.length ≤ 1000000; rw [Int.zero_add]; exact hN⟩)
 refine Ev.bind h ?_
 exact Ev.now _
theorem free1 (l : List S43) (hu : repsOk l = true) : (finG l 1 1000000).2.1 = false := by
 have hl := (repsOk_facts hu).1
 have hN := NN_le ⟨l.length, by omega⟩
 exact (srch_free (hOf l 1) l.length 1000000 l.length [] (0, false, [], -1) rfl (cnt_nil _) (by show 0 + NN l.length ≤ 1000000; rw [Int.zero_add]; exact hN)).1
theorem best_all {l : List S43} (hu : repsOk l = true) (g : Nat) (nb : Int) (hf : (finG l g nb).2.1 = false) : OrdN l.length (finG l g nb).2.2.1 ∧ (finG l g nb).2.2.2 = hOf l g (finG l g nb).2.2.1 ∧ ∀ o, OrdN l.length o → (finG l g nb).2.2.2 ≤ hOf l g o := by
 obtain ⟨hl, hx⟩ := repsOk_facts hu
 exact srch_all (hOf l g) l.length nb (fun o ho => hOf_nonneg g hx hl ho) hf ⟨_, ordN_plain _⟩
theorem plain_ev (l : List S43) (g : Nat) (hu : repsOk l = true) (hg : 1 ≤ (g : Int) ∧ (g : Int) ≤ 3) (lst : Int) (hb : ∀ o, OrdN l.length o → lst ≤ hOf l g o) : Ev (fun k => laws_FnRepairs.l1 k l (g : Int) lst lst 0 [] 0) true := by
 have hl := (repsOk_facts hu).1
 have key : ∀ (m i : Nat), i + m = l.length → Ev (fun k => laws_FnRepairs.l1 k l (g : Int) lst lst 0 ((List.range i).map fun i : Nat => (i : Int)) (i : Int)) true := by
  intro m
  induction m with
  | zero =>
   intro i hi
   obtain rfl : i = l.length := by omega
   have ho := ordN_plain l.length
   have h := gangHeatF_ev l ((List.range l.length).map fun i : Nat => (i : Int)) g (by omega) (by rw [ho.1]; omega)
   rw [if_pos (rcode_ok hu ho hg)] at h
   refine Ev.succ ?_
   simp only [laws_FnRepairs.l1, if_neg (show ¬ ((l.length : Nat) : Int) < (l.length : Int) by omega)]
   refine Ev.bind h ?_
   simp only [if_true]
   exact Ev.now' (decide_eq_true (hb _ ho))
  | succ m ih =>
   intro i hi
   have h := ih (i + 1) (by omega)
   refine Ev.succ ?_
   simp only [laws_FnRepairs.l1, if_pos (show (i : Int) < (l.length : Int) by omega), if_pos (show ((List.range i).map fun i : Nat => (i : Int)).length < 17592186044416 by rw [List.length_map, List.length_range]; omega), w64 (x := (i : Int) + 1) (by omega) (by omega)]
   rw [List.range_succ, List.map_append] at h
   exact h
 exact key l.length 0 (by omega)
theorem j3_ev {l1 : List Int} (s1 : SrcOk l1) : Ev (fun k => laws_FnRepairs.j3 k l1) true := by
 obtain ⟨L, g, b, hd, hL, hg0, hg1⟩ := drawGangs_ev s1
 refine Ev.succ ?_
 simp only [laws_FnRepairs.j3]
 refine Ev.bind hd ?_
 refine Ev.bind (gangs_ev L g b (by omega)) ?_
 have bad : ∀ c : Int, c ≠ 0 → Ev (fun k => if c = 0 then ((impl_GangHeat.f k L [] g).bind fun bt396 => laws_FnRepairs.l1 k L g 0 bt396.1 bt396.2 [] 0) else (if ((([] : List Int).length : Nat) : Int) = 0 then some ((0 : Int) == 0) else some false)) true := fun c hc => by
  simp only [if_neg hc]
  exact Ev.now _
 unfold resG
 cases hu : repsOk L with
 | false => exact bad 1 (by decide)
 | true =>
  simp only [if_true]
  cases ha : inB 1 3 g with
  | false => exact bad 2 (by decide)
  | true =>
   simp only [if_true]
   cases hb : inB 1 20000 b with
   | false => exact bad 2 (by decide)
   | true =>
    simp only [if_true]
    cases hf : (finG L g.toNat b).2.1 with
    | true => exact bad 5 (by decide)
    | false =>
     simp only [Bool.false_eq_true, if_false, if_true]
     obtain ⟨p1, p2, p3⟩ := best_all hu g.toNat b hf
     unfold inB at ha
     simp only [Bool.and_eq_true, decide_eq_true_eq] at ha
     obtain ⟨n, rfl⟩ : ∃ n : Nat, g = (n : Int) := ⟨g.toNat, by omega⟩
     rw [Int.toNat_natCast] at *
     have h := gangHeatF_ev L (finG L n b).2.2.1 n (by omega) (by rw [p1.1]; omega)
     rw [if_pos (rcode_ok hu p1 ha), ← p2] at h
     exact Ev.bind h (plain_ev L n hu ha _ p3)
theorem l0_ev {l1 : List Int} (s1 : SrcOk l1) (l : List S43) (o : List Int) (hu : repsOk l = true) (ho : OrdN l.length o) : Ev (fun k => laws_FnRepairs.l0 k l1 l o (gEnds l o 1) (hOf l 1 o) 0 0 0) true := by
 obtain ⟨hl, hx⟩ := repsOk_facts hu
 have hol := ho.1
 have hE := gEnds_bd 1 hx hl ho
 have hEl : (gEnds l o 1).length = l.length := by
  have := (fold_len l o (List.replicate 1 0, List.replicate l.length 0, 0)).2
  rw [List.length_replicate] at this
  exact this
 have key : ∀ (m i : Nat) (sum last : Int), i + m = o.length → sum = smo (hf l (gEnds l o 1)) (o.take i) → 0 ≤ sum → sum ≤ 180000000 * (i : Int) → last = (gAll l (o.take i) 1).1.getD 0 0 → Ev (fun k => laws_FnRepairs.l0 k l1 l o (gEnds l o 1) (hOf l 1 o) sum last (i : Int)) true := by
  intro m
  induction m with
  | zero =>
   intro i sum last hi hs hs0 hs1 hlast
   obtain rfl : i = o.length := by omega
   rw [List.take_length, smo_all _ l.length o ho, ← gHeat_sm hx hl hE] at hs
   have hs : sum = hOf l 1 o := hs
   obtain ⟨p1, p2, p3⟩ := best_all hu 1 1000000 (free1 l hu)
   have h := unserved_ev l (finG l 1 1000000).2.2.1 (by omega) (by rw [p1.1]; omega)
   rw [if_pos (rcode_ok hu p1 ⟨by decide, by decide⟩), ← p2] at h
   refine Ev.succ ?_
   simp only [laws_FnRepairs.l0, if_neg (show ¬ ((o.length : Nat) : Int) < (o.length : Int) by omega)]
   refine Ev.bind (order_ev l hu) (Ev.bind h ?_)
   have := p3 o ho
   simp only [if_pos hs, if_true, if_neg (show ¬ (finG l 1 1000000).2.2.2 > hOf l 1 o by omega)]
   exact j3_ev s1
  | succ m ih =>
   intro i sum last hi hs hs0 hs1 hlast
   have hi2 : i < o.length := by omega
   obtain ⟨b, f1, f2, f3, b0, b1, g0, f4⟩ := one_step hx hl ho hi2
   have hin : o.getD i 0 ∈ o := getD_mem 0 hi2
   have hr := ho.2.1 _ hin
   obtain ⟨n, hn⟩ : ∃ n : Nat, o.getD i 0 = (n : Int) := ⟨(o.getD i 0).toNat, by omega⟩
   have hnl : n < l.length := by omega
   rw [hn, Int.toNat_natCast] at f1 f2 f4
   obtain ⟨r1, r2, r3⟩ := repR_facts (hx n hnl)
   have hb := hf_bd hx hE hnl
   have hfe : hf l (gEnds l o 1) n = (rdP l n).f2 * (gEnds l o 1).getD n 0 := rfl
   have hst : smo (hf l (gEnds l o 1)) (o.take (i + 1)) = sum + hf l (gEnds l o 1) n := by
    rw [take_succ_getD o 0 hi2, smo_append, ← hs, smo, smo, hn, Int.toNat_natCast, Int.add_zero]
   have h := ih (i + 1) (sum + hf l (gEnds l o 1) n) ((gEnds l o 1).getD n 0) (by omega) hst.symm (by omega) (by omega) f4.symm
   refine Ev.succ ?_
   have hord : rd o (i : Int) = (n : Int) := by rw [rd_nat, hn]
   simp only [laws_FnRepairs.l0, if_pos (show (i : Int) < (o.length : Int) by omega), if_pos (show 0 ≤ (i : Int) by omega), hord, if_neg (show ¬ (n : Int) < 0 by omega)]
   refine Ev.succ ?_
   have e1 : wrap64 ((rdP l n).f3 + (rdP l n).f1) = (rdP l n).f3 + (rdP l n).f1 := w64 (by omega) (by omega)
   have e2 : wrap64 (last + (rdP l n).f1) = last + (rdP l n).f1 := w64 (by omega) (by omega)
   have e3 : wrap64 ((rdP l n).f2 * (gEnds l o 1).getD n 0) = hf l (gEnds l o 1) n := by rw [← hfe]; exact w64 (by omega) (by omega)
   have e4 : wrap64 (sum + hf l (gEnds l o 1) n) = sum + hf l (gEnds l o 1) n := w64 (by omega) (by omega)
   simp only [laws_FnRepairs.j2, if_neg (show ¬ (decide ((n : Int) ≥ (l.length : Int))) = true by simp; omega), hord, rdP_eq, rd_nat, if_pos (show 0 ≤ (i : Int) by omega), if_pos (show (i : Int) < (o.length : Int) by omega), if_pos (show 0 ≤ (n : Int) by omega), if_pos (show (n : Int) < (l.length : Int) by omega), if_pos (show (n : Int) < ((gEnds l o 1).length : Int) by omega), e1, e2, e3, e4, if_neg (show ¬ (gEnds l o 1).getD n 0 < (rdP l n).f3 + (rdP l n).f1 by omega), if_neg (show ¬ (gEnds l o 1).getD n 0 < last + (rdP l n).f1 by omega), w64 (x := (i : Int) + 1) (by omega) (by omega)]
   exact h
 exact key o.length 0 0 0 (by omega) rfl (by decide) (by decide) rfl
theorem FnRepairs : laws_FnRepairs.Pure := by
 intro l0 l1 _ _ hw0 _ _ hw1
 have main : Ev (fun k => laws_FnRepairs.f k l0 l1) true := by
  unfold laws_FnRepairs.f laws_b10Long.f
  have yes : Ev (fun k => laws_FnRepairs.j0 k l0 l1 true) true := by
   refine Ev.succ ?_
   simp only [laws_FnRepairs.j0, if_true]
   exact Ev.now _
  by_cases c0 : (l0.length : Int) > 1048576
  ·
   simp only [c0, decide_true, Option.bind_some, if_true]
   exact yes
  ·
   by_cases c1 : (l1.length : Int) > 1048576
   ·
    simp only [c0, decide_false, Option.bind_some, Bool.false_eq_true, if_false, c1, decide_true]
    exact yes
   ·
    simp only [c0, decide_false, Option.bind_some, Bool.false_eq_true, if_false, c1]
    have s0 := src_of (by omega) hw0
    have s1 := src_of (by omega) hw1
    obtain ⟨L, o, hd, hL, hoL⟩ := drawEnds_ev s0
    refine Ev.succ ?_
    simp only [laws_FnRepairs.j0, Bool.false_eq_true, if_false]
    refine Ev.bind hd (Ev.bind (endTimes_ev L o (by omega) (by omega)) (Ev.bind (unserved_ev L o (by omega) (by omega)) ?_))
    by_cases c : rcode L o 1 = 0
    ·
     obtain ⟨hu, ho, _⟩ := rcode_zero c
     have hEl : (gEnds L o 1).length = L.length := by
      have := (fold_len L o (List.replicate 1 0, List.replicate L.length 0, 0)).2
      rw [List.length_replicate] at this
      exact this
     simp only [if_pos c, if_true, hEl]
     exact l0_ev s1 L o hu ho
    ·
     simp only [if_neg c, if_true]
     exact j3_ev s1
 obtain ⟨K, hK⟩ := main
 exact ⟨K, hK K (Nat.le_refl _)⟩
end Go.Proofs.Ytffmkjnjopflnaa.Pure
