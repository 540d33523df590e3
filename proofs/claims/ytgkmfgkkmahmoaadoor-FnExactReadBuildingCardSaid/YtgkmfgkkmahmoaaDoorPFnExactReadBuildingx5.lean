-- PRINTED by print.py (a twelfth state) out of the translation. Not trusted: Lean checks it.
import Derived.Test.YtgkmfgkkmahmoaaDoorPFnExactReadBuildingx0
namespace Go.Proofs.YtgkmfgkkmahmoaaDoor.PFnExactReadBuilding
open Go.RowKit Go.Proofs.YtgkmfgkkmahmoaaDoorW.PrintWords Go.Proofs.YtgkmfgkkmahmoaaDoorW.PrintLast Go.Proofs.YtgkmfgkkmahmoaaDoorW.PrintMore
attribute [local go_sem] max2_int min2_int max_two min_two max_three min_three max_four min_four   -- for this text's walks alone
set_option linter.unusedVariables false
set_option linter.unusedSimpArgs false

/-! ### strings_Split: function 76 -/
/-- What the listed variables of Go's library hold. -/
def WOK (w : World) : Prop := Lib.TabIs Tryd.prog w "internal/strconv.uint64pow10" .u64 Lib.pow10Tab ∧ (∃ m, w.cell? ⟨1, 0, none⟩ = some (.int .i64 m)) ∧ (∃ ev, w.cell? ⟨4, 0, none⟩ = some ev ∧ (ev = .nilIface ∨ ∃ te pe, ev = .iface te pe)) ∧ ∃ ev, w.cell? ⟨5, 0, none⟩ = some ev ∧ (ev = .nilIface ∨ ∃ te pe, ev = .iface te pe)
theorem wok_tab {w W : World} (h : Lib.TabIs Tryd.prog w "internal/strconv.uint64pow10" .u64 Lib.pow10Tab) (hb : Below w.heap.size w W) : Lib.TabIs Tryd.prog W "internal/strconv.uint64pow10" .u64 Lib.pow10Tab := by
 unfold Lib.TabIs World.var? at h ⊢
 cases hg : Tryd.prog.globalNamed "internal/strconv.uint64pow10" with
 | none => rw [hg] at h; cases h
 | some g =>
  rw [hg] at h
  simp only [Option.bind_some] at h ⊢
  have hlt : g < w.heap.size := by
   rcases Nat.lt_or_ge g w.heap.size with h' | h'
   ·
    exact h'
   ·
    rw [Array.getElem?_eq_none h'] at h; cases h
  rw [hb.block g hlt]
  exact h
theorem wok_ {w W : World} (h : WOK w) (hb : Below w.heap.size w W) : WOK W :=
 ⟨wok_tab h.1 hb, h.2.1.imp fun _ hm => (hb.cell (World.block_lt_of_cell? w _ hm)).trans hm, h.2.2.1.imp fun _ hm => ⟨(hb.cell (World.block_lt_of_cell? w _ hm.1)).trans hm.1, hm.2⟩, h.2.2.2.imp fun _ hm => ⟨(hb.cell (World.block_lt_of_cell? w _ hm.1)).trans hm.1, hm.2⟩⟩
theorem below_grow_ (w : World) (k : Nat) (os : Array Obj) : Below w.heap.size w (Go.Sort.grow (w.drewN k) os) :=
 ⟨rfl, rfl, rfl, by show w.heap.size ≤ (w.heap ++ os).size; rw [Array.size_append]; omega, fun j hj => by show (w.heap ++ os)[j]? = w.heap[j]?; exact Array.getElem?_append_left hj⟩
theorem spot_none {w : World} {a : Addr} {v : Value} (h : w.cell? a = some v) : a.spot = none := by
 cases hs : a.spot with
 | none => rfl
 | some s =>
  obtain ⟨b, o, sp⟩ := a
  simp only at hs
  subst hs
  unfold World.cell? at h
  split at h <;> simp at h

/-- A row of strings in a new block, with room behind it. -/
theorem made_str (w0 w : World) (xs : List ByteArray) (N : Nat) (hB : Below w0.heap.size w0 w) (hle : xs.length ≤ N) (hN : N ≤ maxLen) :
  Kd.R Kd.string 9 (w.alloc (.cells (Lib.cellsOf xs N) 9)) w0.heap.size (fun _ => True) (.slice (some ⟨w.heap.size, 0, none⟩) xs.length N) xs := by
 refine Kd.R_of_own ⟨by simp [encs], .inr ⟨w.heap.size, N, Lib.cellsOf xs N, rfl, hB.size, blk_new w _, hle, hN, ?_, ?_⟩⟩ (fun _ _ => trivial)
 ·
  rw [Lib.cellsOf_size hle, Nat.mul_one]
 ·
  unfold Lib.cellsOf encs
  simp
/-- make([]string, 0, n) -/
theorem make_room {P : Program} {ops : Array Oper} {rest : List Oper} {o : Oper} {a : Act} {Q : Exit → Act → World → Prop} {w0 W : World} (hgd : o.guard = none) (t : TypeId) (x y : Operand) (ho : o.op = .makeSlice t x y) (n : Nat) (hx : a.eval x = .int .i64 0) (hy : a.eval y = .int .i64 (n : Int)) (ht : P.underlying t = some (.slice 9)) (hinfo : (P.info? 9).map (fun i => (i.zero, i.size, i.bytes)) = some (some (.string ⟨#[]⟩), 1, 16)) (hn : n ≤ 1048576) (HB : Below w0.heap.size w0 W)
  (h : ∀ v1 w1, Kd.R Kd.string 9 w1 w0.heap.size (fun _ => True) v1 [] → Below w0.heap.size w0 w1 → wpList P ops Q rest (a.put o.dst v1) w1) : wpList P ops Q (o :: rest) a W := by
 obtain ⟨i0, hi, hzz⟩ := Option.map_eq_some_iff.1 hinfo
 simp only [Prod.mk.injEq] at hzz
 obtain ⟨hz0, hz1, hz2⟩ := hzz
 have hr := Go.run_make (P := P) (w := W) t 9 i0 (.string ⟨#[]⟩) ht hi hz0 .i64 .i64 0 (n : Int) (by omega) (by omega) (by rw [hz2]; omega) (by omega)
 have e1 : madeCells (Value.string ⟨#[]⟩).cells ((n : Int).toNat * i0.size) = Lib.cellsOf [] n := by
  rw [hz1, Lib.cellsOf_nil, Int.toNat_natCast, Nat.mul_one]
  rfl
 rw [e1, Int.toNat_natCast] at hr
 refine Kd.event_run hgd (v := .slice (some ⟨W.heap.size, 0, none⟩) 0 n) (w1 := W.alloc (.cells (Lib.cellsOf [] n) 9)) ?_ (h _ _ (made_str w0 W [] n HB (Nat.zero_le _) (by unfold maxLen; omega)) (HB.alloc HB.size _))
 simp [execOp, ho, hx, hy, hr]

def strings_Split.f (a0 : ByteArray) (a1 : ByteArray) : Option (List ByteArray) := if a0.size < 4294967281 ∧ 1 ≤ a1.size then some (Lib.splitB a1 0 (Lib.countB a0 a1) a0) else none
theorem strings_Split.calls (a0 : ByteArray) (a1 : ByteArray) (r : List ByteArray) (w : World) (ht_ : WOK w) (h : strings_Split.f a0 a1 = some r) :
  Calls Tryd.prog 76 #[.string a0, .string a1] w fun e w' => ∃ v0_ : Value, e = .returned (v0_) ∧ Kd.R Kd.string 9 w' w.heap.size (fun _ => True) v0_ r ∧ Below w.heap.size w w' := by
 unfold strings_Split.f at h
 split at h
 ·
  rename_i hs
  obtain ⟨hs, h1⟩ := hs
  obtain rfl := Option.some.inj h
  obtain ⟨m, hm⟩ := ht_.2.1
  have hl := Lib.splitB_all a1 h1 0 (Lib.countB a0 a1) a0 rfl
  refine (Tryd.strings_Split a0 a1 m w hs hm h1).mono ?_
  rintro e w' ⟨rfl, rfl⟩
  have hm2 : Lib.countB a0 a1 + 1 ≤ maxLen := by
   have := Lib.countB_le a1 h1 a0.size a0 (Nat.le_refl _)
   unfold maxLen
   omega
  have hr := made_str w w (Lib.splitB a1 0 (Lib.countB a0 a1) a0) (Lib.countB a0 a1 + 1) (Below.refl _ _) (by omega) hm2
  have e1 : Lib.cellsOf (Lib.splitB a1 0 (Lib.countB a0 a1) a0) (Lib.countB a0 a1 + 1) = ((Lib.splitB a1 0 (Lib.countB a0 a1) a0).map Value.string).toArray := by
   unfold Lib.cellsOf
   rw [hl, Nat.sub_self]
   simp
  rw [e1, hl] at hr
  exact ⟨_, rfl, hr, (Below.refl _ w).alloc (Nat.le_refl _) _⟩
 ·
  cases h

/-! ### strings_SplitN: function 93 -/
def strings_SplitN.f (a0 : ByteArray) (a1 : ByteArray) (a2 : Int) : Option (List ByteArray) := if a0.size < 4294967281 ∧ 1 ≤ a1.size ∧ 1 ≤ a2 ∧ a2 ≤ 9223372036854775807 then some (Lib.splitB a1 0 (min a2.toNat (a0.size + 1) - 1) a0) else none
theorem strings_SplitN.calls (a0 : ByteArray) (a1 : ByteArray) (a2 : Int) (r : List ByteArray) (w : World) (ht_ : WOK w) (h : strings_SplitN.f a0 a1 a2 = some r) :
  Calls Tryd.prog 93 #[.string a0, .string a1, .int .i64 a2] w fun e w' => ∃ v0_ : Value, e = .returned (v0_) ∧ Kd.R Kd.string 9 w' w.heap.size (fun _ => True) v0_ r ∧ Below w.heap.size w w' := by
 unfold strings_SplitN.f at h
 split at h
 ·
  rename_i hs
  obtain ⟨hs, h1, h2, h3⟩ := hs
  obtain rfl := Option.some.inj h
  obtain ⟨m, hm⟩ := ht_.2.1
  have hc := Tryd.strings_SplitN a0 a1 a2.toNat m w hs hm h1 (by omega) (by omega)
  rw [Int.toNat_of_nonneg (by omega)] at hc
  refine hc.mono ?_
  rintro e w' ⟨rfl, rfl⟩
  have hl := Lib.splitB_length_le a1 0 (min a2.toNat (a0.size + 1) - 1) a0
  exact ⟨_, rfl, made_str w w _ _ (Below.refl _ _) (by omega) (by unfold maxLen; omega), (Below.refl _ w).alloc (Nat.le_refl _) _⟩
 ·
  cases h

/-! ### impl_within: function 63 -/
def inB (lo hi x : Int) : Bool := decide (lo ≤ x) && decide (x ≤ hi)
theorem within_all (a0 a1 a2 : Int) (w : World) :
  Calls Tryd.prog 63 #[.int .i64 a0, .int .i64 a1, .int .i64 a2] w fun e w' => e = .returned (.bool (inB a1 a2 a0)) ∧ w = w' := by
 by_cases h : a1 ≤ a0
 ·
  go_enter Tryd.func63, Tryd.ntmps63
  go_wp2
  go_ret
  exact ⟨by simp [inB, h], rfl⟩
 ·
  go_enter Tryd.func63, Tryd.ntmps63
  go_wp2
  go_ret
  exact ⟨by simp [inB]; omega, rfl⟩

def impl_within.f (a0 : Int) (a1 : Int) (a2 : Int) : Option Bool := some (inB a1 a2 a0)
theorem impl_within.calls (a0 : Int) (a1 : Int) (a2 : Int) (r : Bool) (w : World) (h : impl_within.f a0 a1 a2 = some r) :
  Calls Tryd.prog 63 #[.int .i64 a0, .int .i64 a1, .int .i64 a2] w fun e w' => e = .returned (.bool r) ∧ Drawn0 w w' := by
 refine (within_all a0 a1 a2 w).mono ?_
 rintro e w' ⟨rfl, rfl⟩
 exact ⟨by rw [Option.some.inj h], Drawn0.refl _⟩

/-! ### impl_Decimal: function 66 -/
def impl_Decimal.f (a0 : Int) : Option ByteArray := if -9223372036854775808 ≤ a0 ∧ a0 ≤ 9223372036854775807 then some ⟨(Lib.itoa a0).toArray⟩ else none
theorem impl_Decimal.calls (a0 : Int) (r : ByteArray) (w : World) (ht_ : WOK w) (h : impl_Decimal.f a0 = some r) :
  Calls Tryd.prog 66 #[.int .i64 a0] w fun e w' => e = .returned (.string r) ∧ Below w.heap.size w w' := by
 unfold impl_Decimal.f at h
 split at h
 ·
  rename_i hr
  obtain rfl := Option.some.inj h
  have hc := Tryd.strconv_FormatInt_10 a0 hr.1 hr.2 w ht_.1
  clear ht_
  go_enter Tryd.func66, Tryd.ntmps66
  go_wp2_with (go_at_call 119; refine hc.mono ?_; rintro e w' ⟨rfl, kk, os, rfl⟩)
  go_ret
  exact ⟨rfl, below_grow_ _ _ _⟩
 ·
  cases h

/-! ### strings_Join: function 95 -/
def strings_Join.f (l0 : List ByteArray) (a1 : ByteArray) : Option ByteArray := if (Lib.join (l0.map (·.data.toList)) a1.data.toList).length ≤ 140737488355328 ∧ l0.length ≤ 140737488355328 then some ⟨(Lib.join (l0.map (·.data.toList)) a1.data.toList).toArray⟩ else none
theorem strings_Join.calls (A0 : Option Addr) (c0 : Nat) (l0 : List ByteArray) (a1 : ByteArray) (r : ByteArray) (w : World) (hr0 : Kd.C Kd.string w A0 l0.length l0) (hc0 : l0.length ≤ c0) (h : strings_Join.f l0 a1 = some r) :
  Calls Tryd.prog 95 #[.slice A0 l0.length c0, .string a1] w fun e w' => e = .returned (.string r) ∧ Below w.heap.size w w' := by
 unfold strings_Join.f at h
 split at h
 ·
  rename_i hj
  obtain rfl := Option.some.inj h
  by_cases h0 : l0 = []
  ·
   subst h0
   refine (Tryd.strings_Join_none A0 c0 a1 w).mono ?_
   rintro e w' ⟨rfl, rfl⟩
   exact ⟨rfl, Below.refl _ _⟩
  ·
   have hp : 0 < l0.length := List.length_pos_iff.2 h0
   obtain ⟨ad, rfl, hx⟩ := hr0.2.2 hp
   have hcell : ∀ j x, l0[j]? = some x → w.cell? (ad.add j) = some (.string x) := fun j x hj => by
    obtain ⟨c, hcl, hk, hcc⟩ := hx j x hj
    have := hcc 0 (.string x) (by rw [show c = [.string x] from hk]; rfl)
    simpa [Kd.string, Kd.scalar] using this
   obtain ⟨x0, hx0⟩ : ∃ x, l0[0]? = some x := ⟨_, List.getElem?_eq_getElem hp⟩
   have h1 := hcell 0 x0 hx0
   obtain ⟨bk, o, sp⟩ := ad
   have hsp : sp = none := by
    have := spot_none h1
    simpa [Addr.add] using this
   subst hsp
   have hadd : ∀ j, (⟨bk, o, none⟩ : Addr).add j = ⟨bk, o + j, none⟩ := fun j => by
    cases j with
    | zero => simp [Addr.add]
    | succ j => simp [Addr.add]
   exact Tryd.strings_Join bk o c0 l0 a1 w (fun j x hj => by have := hcell j x hj; rwa [hadd] at this) (by have := World.block_lt_of_cell? w _ h1; rwa [hadd] at this) hj.2 hc0 hj.1
 ·
  cases h

/-! ### impl_ListText: function 94 -/
def ltOk (x : Int) : Bool := inB (-1000000000000) 1000000000000 x
def dB (n : Int) : ByteArray := ⟨(Lib.itoa n).toArray⟩
def listT (l : List Int) : ByteArray := if l.length > 64 then ⟨#[]⟩ else if l.length = 0 then ⟨#[45]⟩ else if l.all ltOk = true then ⟨(Lib.join (l.map Lib.itoa) [44]).toArray⟩ else ⟨#[]⟩
theorem gd_ {α : Type} {l : List α} {i : Nat} (z : α) (h : i < l.length) : l.getD i z = l[i] := by rw [List.getD_eq_getElem?_getD, List.getElem?_eq_getElem h]; rfl
theorem join_len : ∀ (xs : List (List UInt8)), (∀ x ∈ xs, x.length ≤ 21) → (Lib.join xs [44]).length ≤ 22 * xs.length
 | [], _ => by simp [Lib.join_nil]
 | x :: r, h => by
  have tl : ∀ (r : List (List UInt8)), (∀ x ∈ r, x.length ≤ 21) → (Lib.joinTail [44] r).length ≤ 22 * r.length := by
   intro r
   induction r with
   | nil => intro _; simp [Lib.joinTail]
   | cons y r ih =>
    intro h
    have h1 := h y List.mem_cons_self
    have h2 := ih (fun z hz => h z (List.mem_cons_of_mem _ hz))
    unfold Lib.joinTail at h2 ⊢
    simp only [List.map_cons, List.flatten_cons, List.length_append, List.length_cons, List.length_nil] at h2 ⊢
    omega
  rw [Lib.join_cons, List.length_append, List.length_cons]
  have h1 := h x List.mem_cons_self
  have h2 := tl r (fun z hz => h z (List.mem_cons_of_mem _ hz))
  omega
def impl_ListText.f (l0 : List Int) : Option ByteArray := some (listT l0)
set_option maxHeartbeats 8000000 in
set_option maxRecDepth 100000 in
theorem impl_ListText.calls (A0 : Option Addr) (c0 : Nat) (l0 : List Int) (r : ByteArray) (w : World) (hr0 : Kd.C (Kd.int .i64) w A0 l0.length l0) (hc0 : l0.length ≤ c0) (ht_ : WOK w) (h : impl_ListText.f l0 = some r) :
  Calls Tryd.prog 94 #[.slice A0 l0.length c0] w fun e w' => e = .returned (.string r) ∧ Below w.heap.size w w' := by
 have HV := Aside0.mk (Option.some.inj h).symm
 have HT := Aside0.mk ht_
 have HR := Aside0.mk hr0
 clear h ht_ hr0 hc0
 by_cases g1 : l0.length > 64
 ·
  have g1z : (l0.length : Int) > 64 := by omega
  have g1b : decide ((l0.length : Int) > 64) = true := decide_eq_true g1z
  go_enter Tryd.func94, Tryd.ntmps94
  go_wp2
  go_ret
  exact ⟨by rw [HV.out, listT, if_pos g1]; rfl, Below.refl _ _⟩
 have g1z : ¬ (l0.length : Int) > 64 := by omega
 have g1b : decide ((l0.length : Int) > 64) = false := decide_eq_false g1z
 by_cases g2 : l0.length = 0
 ·
  have g2z : (l0.length : Int) = 0 := by omega
  have g2b : ((l0.length : Int) == 0) = true := beq_iff_eq.2 g2z
  go_enter Tryd.func94, Tryd.ntmps94
  go_wp2
  go_ret
  exact ⟨by rw [HV.out, listT, if_neg g1, if_pos g2]; rfl, Below.refl _ _⟩
 have g2z : ¬ (l0.length : Int) = 0 := by omega
 have g2b : ((l0.length : Int) == 0) = false := beq_eq_false_iff_ne.2 g2z
 have B00 := Aside0.mk (Below.refl w.heap.size w)
 go_enter Tryd.func94, Tryd.ntmps94
 go_wp2_with ((with_reducible refine gate_dst (N := 14) rfl ?_); refine make_room (w0 := w) rfl 118 (.const (.int .i64 0)) (.tmp 13) rfl l0.length rfl rfl Tryd.underlying118 info9 (by omega) B00.out ?_; intro S1 W1 hr_ hb_; have R0 := Aside0.mk (show Kd.R Kd.string 9 W1 w.heap.size (fun _ => True) S1 (([] : List Int).map dB) from hr_); have B0 := Aside0.mk hb_; clear hr_ hb_)
 go_loopg [3, 17] l0.length (fun gg s3 s17 wr => ∃ i : Nat, i ≤ l0.length ∧ l0.length - i ≤ gg ∧ s17 = .int .i64 i ∧ Aside0 ((l0.take i).all ltOk = true) ∧ Aside0 (Kd.R Kd.string 9 wr w.heap.size (fun _ => True) s3 ((l0.take i).map dB)) ∧ Aside0 (Below w.heap.size w wr))
 case atStart => exact ⟨0, by omega, by omega, rfl, ⟨rfl⟩, R0, B0⟩
 case round =>
  clear R0 B0
  obtain ⟨i, hi, hg, rfl, HA, HN, BW⟩ := hrel
  by_cases hlt : i < l0.length
  ·
   have hltz : (i : Int) < (l0.length : Int) := by omega
   obtain ⟨ad, rfl, hx0⟩ := Kd.at_int (Kd.C_below HR.out BW.out) (i : Int) (by omega) hltz
   rw [Int.toNat_natCast] at hx0
   have ht : ∀ {β : Type} (f : Int → β), (l0.take (i + 1)).map f = (l0.take i).map f ++ [f (l0.getD i 0)] := fun f => by
    rw [List.take_succ_eq_append_getElem hlt, List.map_append, gd_ _ hlt]
    rfl
   have hall : (l0.take (i + 1)).all ltOk = ((l0.take i).all ltOk && ltOk (l0.getD i 0)) := by
    rw [List.take_succ_eq_append_getElem hlt, List.all_append, gd_ _ hlt]
    simp
   have hln : ((l0.take i).map dB).length ≤ 64 := by rw [List.length_map, List.length_take]; omega
   have hmem : l0.getD i 0 ∈ l0 := by rw [gd_ _ hlt]; exact List.getElem_mem hlt
   have HTK := Aside0.mk (ht dB)
   have HAL := Aside0.mk hall
   have HL := Aside0.mk hln
   have HM := Aside0.mk hmem
   clear ht hall hln hmem
   have hx1 : wr.cell? (ad.add i) = some (.int .i64 (l0.getD i 0)) := hx0
   clear hx0
   generalize l0.getD i 0 = x0 at *
   have hwi := fun W => within_all x0 (-1000000000000) 1000000000000 W
   by_cases hin : inB (-1000000000000) 1000000000000 x0 = true
   ·
    have hr : -9223372036854775808 ≤ x0 ∧ x0 ≤ 9223372036854775807 := by
     unfold inB at hin
     rw [Bool.and_eq_true, decide_eq_true_eq, decide_eq_true_eq] at hin
     omega
    have hd : ∀ W, Below w.heap.size w W → Calls Tryd.prog 66 #[.int .i64 x0] W fun e W' => e = .returned (.string (dB x0)) ∧ Below W.heap.size W W' := fun W hW => impl_Decimal.calls x0 (dB x0) W (wok_ HT.out hW) (by unfold impl_Decimal.f dB; rw [if_pos hr])
    have HD := Aside0.mk hd
    have HIN := Aside0.mk hin
    rw [hin] at hwi
    clear hd hr hin
    go_wp2_with (first | (go_at_call 63; refine (hwi _).mono ?_; rintro e w' ⟨rfl, rfl⟩) | (go_at_call 66; refine (HD.out _ BW.out).mono ?_; rintro e w3 ⟨rfl, hb3⟩; have HN3 := Aside0.mk (Kd.R_below HN.out hb3); have BW3 := Aside0.mk (below_step BW.out hb3); clear hb3) | ((with_reducible refine gate_builtin (b := .append) (xs := #[.tmp 24, .tmp 27]) rfl ?_); (try (refine gate_guard (by rfl) ?_; dsimp only)); at_builtin; refine Kd.R_append Kd.string (w0 := w) w.heap.size rfl (.tmp 24) (.tmp 27) 118 9 (.string ⟨#[]⟩) 16 rfl Tryd.underlying118 info9 rfl (by decide) (by omega) _ ((l0.take i).map dB) (dB x0) [.string (dB x0)] (fun _ => True) (fun _ => False) rfl ?aX rfl (fun _ hk => hk.elim) (fun _ _ => trivial) ?aO ?aB ?aS ?aL ?_; (case aX => first | rfl | (show Value.slice (some ⟨_, 0, none⟩) 1 1 = _; simp)); (case aO => exact (by (with_reducible repeat (first | apply Kd.R_alloc | apply Kd.R_drewN | apply Kd.R_drew)); exact HN3.out)); (case aB => exact (by repeat (first | (with_reducible first | exact BW3.out | apply below_alloc | apply pw_below_drewN | apply below_drew1) | exact BW3.out))); (case aS => exact (below_size (by repeat (first | (with_reducible first | exact BW3.out | apply below_alloc | apply pw_below_drewN | apply below_drew1) | exact BW3.out)))); (case aL => have := HL.out; omega); intro v5 w5 ho hb hg hat; have HN5 := Aside0.mk ho; have BW5 := Aside0.mk hb; clear ho hb hg hat))
    go_roundg (l0.length - (i + 1))
    case measure => omega
    case rel => exact ⟨i + 1, by omega, by omega, by go_num, ⟨by rw [HAL.out, HA.out]; exact HIN.out⟩, ⟨by rw [HTK.out]; exact HN5.out⟩, BW5⟩
   ·
    have hin2 : inB (-1000000000000) 1000000000000 x0 = false := by simpa using hin
    rw [hin2] at hwi
    have HIN := Aside0.mk hin2
    clear hin hin2
    go_wp2_with (go_at_call 63; refine (hwi _).mono ?_; rintro e w' ⟨rfl, rfl⟩)
    go_ret
    refine ⟨?_, BW.out⟩
    have hno : l0.all ltOk = false := by
     rw [List.all_eq_false]
     exact ⟨x0, HM.out, by unfold ltOk; rw [HIN.out]; decide⟩
    rw [HV.out, listT, if_neg g1, if_neg g2, hno]
    rfl
  ·
   have hi4 : i = l0.length := by omega
   subst hi4
   have hltz : ¬ ((l0.length : Nat) : Int) < (l0.length : Int) := by omega
   rw [List.take_length] at HN HA
   have hrng : ∀ x ∈ l0, (Lib.itoa x).length ≤ 21 := fun x hx => by
    have := List.all_eq_true.1 HA.out x hx
    unfold ltOk inB at this
    rw [Bool.and_eq_true, decide_eq_true_eq, decide_eq_true_eq] at this
    exact Lib.itoa_length_le x (by omega) (by omega)
   have hj := join_len (l0.map Lib.itoa) (fun x hx => by obtain ⟨y, hy, rfl⟩ := List.mem_map.1 hx; exact hrng y hy)
   rw [List.length_map] at hj
   have e1 : (l0.map dB).map (fun x => x.data.toList) = l0.map Lib.itoa := by
    rw [List.map_map]
    exact List.map_congr_left (fun x _ => by simp [dB])
   obtain ⟨A1, c1, rfl⟩ := Kd.R_slice HN.out
   have hrd := Kd.R_reads' HN.out
   have hjf : strings_Join.f (l0.map dB) ⟨#[44]⟩ = some ⟨(Lib.join (l0.map Lib.itoa) [44]).toArray⟩ := by
    unfold strings_Join.f
    rw [e1, if_pos ⟨by show (Lib.join (l0.map Lib.itoa) [44]).length ≤ _; omega, by rw [List.length_map]; omega⟩]
   have hjc : ∀ W, Below wr.heap.size wr W → Calls Tryd.prog 95 #[.slice A1 l0.length c1, .string ⟨#[44]⟩] W fun e W' => e = .returned (.string ⟨(Lib.join (l0.map Lib.itoa) [44]).toArray⟩) ∧ Below W.heap.size W W' := fun W hW => by
    have h := strings_Join.calls A1 c1 (l0.map dB) ⟨#[44]⟩ _ W (Kd.C_below hrd.2.2 hW) hrd.2.1 hjf
    rw [List.length_map] at h
    exact h
   generalize hJe : (⟨(Lib.join (l0.map Lib.itoa) [44]).toArray⟩ : ByteArray) = J at hjc hjf
   have HJ := Aside0.mk hjc
   have HVJ : Aside0 (r = J) := ⟨by rw [HV.out, listT, if_neg g1, if_neg g2, if_pos HA.out]; exact hJe⟩
   clear hjc hrd hj e1 hrng hjf hJe
   go_wp2_with (go_at_call 95; refine (HJ.out _ (Below.refl _ _)).mono ?_; rintro e w' ⟨rfl, hb2⟩)
   go_ret
   exact ⟨by rw [HVJ.out]; rfl, below_step BW.out hb2⟩

/-! ### impl_ReadDecimal: function 129 -/
def rdecI (s : ByteArray) : Int × Bool := match Lib.parseIntB 64 s.data.toList with
 | .ok v => if (Lib.trimPrefix s.data.toList [45]).length ≤ 18 ∧ (⟨(Lib.itoa v).toArray⟩ : ByteArray) = s then (v, true) else (0, false)
 | _ => (0, false)
def impl_ReadDecimal.f (a0 : ByteArray) : Option (Int × Bool) := if a0.size ≤ 281474976710656 then some (rdecI a0) else none
set_option maxHeartbeats 2000000 in
theorem impl_ReadDecimal.calls (a0 : ByteArray) (r1 : Int) (r2 : Bool) (w : World) (ht_ : WOK w) (h : impl_ReadDecimal.f a0 = some (r1, r2)) :
  Calls Tryd.prog 129 #[.string a0] w fun e w' => e = .returned (.tuple #[.int .i64 r1, .bool r2]) ∧ Below w.heap.size w w' := by
 unfold impl_ReadDecimal.f at h
 split at h
 ·
  rename_i hs
  have hv := Option.some.inj h
  unfold rdecI at hv
  clear h
  cases hp : Lib.parseIntB 64 a0.data.toList with
  | ok v =>
   rw [hp] at hv
   replace hv : (if (Lib.trimPrefix a0.data.toList [45]).length ≤ 18 ∧ (⟨(Lib.itoa v).toArray⟩ : ByteArray) = a0 then (v, true) else (0, false)) = (r1, r2) := hv
   have hb := Lib.parseIntB_bounds hp
   have hb : -9223372036854775808 ≤ v ∧ v ≤ 9223372036854775807 := by
    have h1 : ((2 ^ (64 - 1) : Nat) : Int) = 9223372036854775808 := by decide
    rw [h1] at hb
    omega
   have hc := Tryd.strconv_ParseInt_10_at64_ok a0 (by omega) v hp w
   obtain ⟨T, hT⟩ : ∃ T : ByteArray, T = ⟨(Lib.trimPrefix a0.data.toList [45]).toArray⟩ := ⟨_, rfl⟩
   have hTs : (Lib.trimPrefix a0.data.toList [45]).length = T.size := by rw [hT]; simp [ByteArray.size]
   have htr : ∀ W, Calls Tryd.prog 157 #[.string a0, .string ⟨#[45]⟩] W fun e W' => e = .returned (.string T) ∧ W' = W := fun W => by
    rw [hT]
    exact Tryd.strings_TrimPrefix a0 ⟨#[45]⟩ W
   obtain ⟨D, hD⟩ : ∃ D : ByteArray, D = ⟨(Lib.itoa v).toArray⟩ := ⟨_, rfl⟩
   have hd : ∀ W, Below w.heap.size w W → Calls Tryd.prog 66 #[.int .i64 v] W fun e W' => e = .returned (.string D) ∧ Below W.heap.size W W' := fun W hW => impl_Decimal.calls v D W (wok_ ht_ hW) (by unfold impl_Decimal.f; rw [if_pos hb, hD])
   rw [hTs, ← hD] at hv
   have HD := Aside0.mk hd
   have HTR := Aside0.mk htr
   have HC := Aside0.mk hc
   clear hd htr hc hTs hp hT hD ht_
   have hw1 : ∀ W, (W = w ∨ ∃ t, W = Lib.bytesWorld w 5 t) → Below w.heap.size w W := fun W h => by
    rcases h with rfl | ⟨t, rfl⟩
    ·
     exact Below.refl _ _
    ·
     exact Lib.bytesWorld_below _ _ _
   have HW1 := Aside0.mk hw1
   clear hw1
   by_cases c1 : T.size ≤ 18
   ·
    have c1z : ¬ (T.size : Int) > 18 := by omega
    have c1b : decide ((T.size : Int) > 18) = false := decide_eq_false c1z
    by_cases c2 : D = a0
    ·
     rw [if_pos ⟨c1, c2⟩] at hv
     simp only [Prod.mk.injEq] at hv
     obtain ⟨rfl, rfl⟩ := hv
     subst c2
     go_enter Tryd.func129, Tryd.ntmps129
     go_wp2_with (first | (go_at_call 156; refine HC.out.mono ?_; rintro e w1 ⟨rfl, hw⟩; have HB1 := Aside0.mk (HW1.out _ hw); clear hw) | (go_at_call 157; refine (HTR.out _).mono ?_; rintro e w' ⟨rfl, rfl⟩) | (go_at_call 66; refine (HD.out _ HB1.out).mono ?_; rintro e w2 ⟨rfl, hb2⟩; have HB2 := Aside0.mk (below_step HB1.out hb2); clear hb2))
     go_ret2
     exact ⟨rfl, HB2.out⟩
    ·
     rw [if_neg (fun h => c2 h.2)] at hv
     simp only [Prod.mk.injEq] at hv
     obtain ⟨rfl, rfl⟩ := hv
     have c2b : (D.toList == a0.toList) = false := beq_eq_false_iff_ne.2 (fun h => c2 (by rw [ByteArray.toList_eq, ByteArray.toList_eq] at h; cases D; cases a0; congr 1; exact Array.ext' h))
     have c2c : (D.toList != a0.toList) = true := by rw [bne, c2b]; rfl
     have c2d : ¬ D.toList = a0.toList := by simpa using c2b
     go_enter Tryd.func129, Tryd.ntmps129
     go_wp2_with (first | (go_at_call 156; refine HC.out.mono ?_; rintro e w1 ⟨rfl, hw⟩; have HB1 := Aside0.mk (HW1.out _ hw); clear hw) | (go_at_call 157; refine (HTR.out _).mono ?_; rintro e w' ⟨rfl, rfl⟩) | (go_at_call 66; refine (HD.out _ HB1.out).mono ?_; rintro e w2 ⟨rfl, hb2⟩; have HB2 := Aside0.mk (below_step HB1.out hb2); clear hb2))
     go_ret2
     exact ⟨rfl, HB2.out⟩
   ·
    rw [if_neg (fun h => c1 h.1)] at hv
    simp only [Prod.mk.injEq] at hv
    obtain ⟨rfl, rfl⟩ := hv
    have c1z : (T.size : Int) > 18 := by omega
    have c1b : decide ((T.size : Int) > 18) = true := decide_eq_true c1z
    go_enter Tryd.func129, Tryd.ntmps129
    go_wp2_with (first | (go_at_call 156; refine HC.out.mono ?_; rintro e w1 ⟨rfl, hw⟩; have HB1 := Aside0.mk (HW1.out _ hw); clear hw) | (go_at_call 157; refine (HTR.out _).mono ?_; rintro e w' ⟨rfl, rfl⟩) | (go_at_call 66; refine (HD.out _ HB1.out).mono ?_; rintro e w2 ⟨rfl, hb2⟩; have HB2 := Aside0.mk (below_step HB1.out hb2); clear hb2))
    go_ret2
    exact ⟨rfl, HB1.out⟩
  | range =>
   rw [hp] at hv
   replace hv : ((0 : Int), false) = (r1, r2) := hv
   simp only [Prod.mk.injEq] at hv
   obtain ⟨rfl, rfl⟩ := hv
   obtain ⟨ev, hev, hev2⟩ := ht_.2.2.2
   have HC := Aside0.mk (Tryd.strconv_ParseInt_10_at64_range a0 hs hp ev w hev hev2)
   clear hp hev hev2 ht_
   go_enter Tryd.func129, Tryd.ntmps129
   go_wp2_with (go_at_call 156; refine HC.out.mono ?_; rintro e w1 ⟨N, rfl, hN, hh, hb1⟩)
   go_ret2
   exact ⟨rfl, hb1⟩
  | _ =>
   rw [hp] at hv
   replace hv : ((0 : Int), false) = (r1, r2) := hv
   simp only [Prod.mk.injEq] at hv
   obtain ⟨rfl, rfl⟩ := hv
   obtain ⟨ev, hev, hev2⟩ := ht_.2.2.1
   have HC := Aside0.mk (Tryd.strconv_ParseInt_10_at64_syntax a0 hs hp ev w hev hev2)
   clear hp hev hev2 ht_
   go_enter Tryd.func129, Tryd.ntmps129
   go_wp2_with (go_at_call 156; refine HC.out.mono ?_; rintro e w1 ⟨N, rfl, hN, hh, hb1⟩)
   go_ret2
   exact ⟨rfl, hb1⟩
 ·
  cases h

/-! ### impl_ReadList: function 78 -/
def impl_ReadList.l0 : Nat → ByteArray → List Int → List ByteArray → Int → Int → Option (List Int × Bool)
 | 0, _, _, _, _, _ => none
 | k + 1, x0, x4, x12, x13, x14 => if x14 < x13 then (if 0 ≤ x14 then (if x14 < (x12.length : Int) then ((impl_ReadDecimal.f (rdOf ByteArray.empty x12 x14)).bind fun bt172 => (if bt172.2 = true then (if x4.length < 17592186044416 then (impl_ReadList.l0 k x0 (x4 ++ [bt172.1]) x12 x13 (wrap64 (x14 + 1))) else (none)) else (some (([] : List Int), false)))) else (none)) else (none)) else ((impl_ListText.f x4).bind fun t177 => (if t177.toList = x0.toList then (some (x4, true)) else (some (([] : List Int), false))))
def impl_ReadList.f (k : Nat) (a0 : ByteArray) : Option (List Int × Bool) := if a0.toList = ([45] : List UInt8) then (some (([] : List Int), true)) else ((strings_SplitN.f a0 (⟨#[44]⟩ : ByteArray) 65).bind fun t168 => (impl_ReadList.l0 k a0 ([] : List Int) t168 (t168.length : Int) 0))
theorem impl_ReadList.mono_l : ∀ k, (∀ y0 y1 y2 y3 y4, LeO (impl_ReadList.l0 k y0 y1 y2 y3 y4) (impl_ReadList.l0 (k + 1) y0 y1 y2 y3 y4))
 | 0 => fun _ _ _ _ _ r h => by simp [impl_ReadList.l0] at h
 | k + 1 => by
  have ih0 := impl_ReadList.mono_l k
  ·
   intro y0 y1 y2 y3 y4
   unfold impl_ReadList.l0
   repeat' first
   | (with_reducible exact ih0 _ _ _ _ _)
   | (with_reducible exact LeO.refl _)
   | (with_reducible exact LeO.none _)
   | (with_reducible refine LeO.ite ?_ ?_)
   | (with_reducible refine LeO.bind ?_ (fun _ => ?_))
   | exact ih0 _ _ _ _ _
   | exact LeO.none _
   | refine LeO.ite ?_ ?_
   | refine LeO.bind ?_ (fun _ => ?_)
theorem impl_ReadList.mono : ∀ a0 k, LeO (impl_ReadList.f k a0) (impl_ReadList.f (k + 1) a0) := by
 intro a0 k
 have ih0 := impl_ReadList.mono_l k
 unfold impl_ReadList.f
 repeat' first
   | (with_reducible exact ih0 _ _ _ _ _)
   | (with_reducible exact LeO.refl _)
   | (with_reducible exact LeO.none _)
   | (with_reducible refine LeO.ite ?_ ?_)
   | (with_reducible refine LeO.bind ?_ (fun _ => ?_))
   | exact ih0 _ _ _ _ _
   | exact LeO.none _
   | refine LeO.ite ?_ ?_
   | refine LeO.bind ?_ (fun _ => ?_)
set_option maxHeartbeats 8000000 in
set_option maxRecDepth 100000 in
theorem impl_ReadList.calls (k : Nat) (a0 : ByteArray) (r1 : List Int) (r2 : Bool) (w : World) (ht_ : WOK w) (h : impl_ReadList.f k a0 = some (r1, r2)) :
  Calls Tryd.prog 78 #[.string a0] w fun e w' => ∃ v0_ : Value, e = .returned (.tuple #[v0_, .bool r2]) ∧ Kd.R (Kd.int .i64) 2 w' w.heap.size (fun _ => True) v0_ r1 ∧ Below w.heap.size w w' := by
 have HWOK_ := Aside0.mk ht_
 clear ht_
 have HB := Aside0.mk (Below.refl w.heap.size w)
 have H : (if a0.toList = ([45] : List UInt8) then (some (([] : List Int), true)) else ((strings_SplitN.f a0 (⟨#[44]⟩ : ByteArray) 65).bind fun t168 => (impl_ReadList.l0 k a0 ([] : List Int) t168 (t168.length : Int) 0))) = some (r1, r2) := h
 clear h
 by_cases c2 : a0.toList = ([45] : List UInt8)
 ·
  rw [if_pos c2] at H
  have c2b0 : (a0.toList == ([45] : List UInt8)) = true := beq_iff_eq.mpr c2
  have c2b1 : (a0.toList != ([45] : List UInt8)) = false := bne_eq_false_iff_eq.mpr c2
  clear c2
  simp only [Option.some.injEq, Prod.mk.injEq] at H
  obtain ⟨rfl, rfl⟩ := H
  go_enter Tryd.func78, Tryd.ntmps78
  go_wp2
  go_ret2
  exact ⟨_, by first | rfl | (simp [errW_none, errW_some] <;> rfl) | (simp [*, errW_none, errW_some] <;> rfl), by first | exact Kd.R_nil _ _ _ _ _ | exact Kd.N_nil _ _ _ _ _ | exact Kd.V_nil _ _ _ _ _ | exact Kd.Q_nil _ _ _ _ _ | exact Kd.S_nil _ _ _ _ _, by repeat (first | (with_reducible first | exact HB.out | apply below_alloc | apply pw_below_drewN | apply below_drew1) | exact HB.out)⟩
 ·
  rw [if_neg c2] at H
  have c2b0 : (a0.toList == ([45] : List UInt8)) = false := beq_eq_false_iff_ne.mpr c2
  have c2b1 : (a0.toList != ([45] : List UInt8)) = true := bne_iff_ne.mpr c2
  replace H := Option.bind_eq_some_iff.mp H
  obtain ⟨t168, A30, H⟩ := H
  replace H : (impl_ReadList.l0 k a0 ([] : List Int) t168 (t168.length : Int) 0) = some (r1, r2) := H
  have A3 := Aside0.mk A30
  clear A30
  have H' := Aside0.mk H
  clear H
  go_enter Tryd.func78, Tryd.ntmps78
  go_wp2_with (first | ((with_reducible refine gate_callee (f := 93) rfl ?_); refine goesL_ (some 12) rfl rfl Tryd.func93 (by kernel_rfl) rfl #[.string a0, .string (⟨#[44]⟩ : ByteArray), .int .i64 65] rfl (by (try simp only [List.map_toArray, List.map_cons, List.map_nil]); first | done | rfl | (simp only [List.length_drop, List.length_take]; rfl)) ?_; (with_reducible refine (strings_SplitN.calls a0 (⟨#[44]⟩ : ByteArray) 65 t168 _ ?side1 A3.out).mono ?_); (case side1 => exact wok_ HWOK_.out (by repeat (first | (with_reducible first | exact HB.out | apply below_alloc | apply pw_below_drewN | apply below_drew1) | exact HB.out))); rintro e w4 ⟨v169, rfl, ho0, hb⟩; refine ⟨_, rfl, ?_⟩; have n0_ := Aside0.mk (Kd.R_lower ho0 (below_size (by repeat (first | (with_reducible first | exact HB.out | apply below_alloc | apply pw_below_drewN | apply below_drew1) | exact HB.out)))); have n1_ := Aside0.mk (below_step (by repeat (first | (with_reducible first | exact HB.out | apply below_alloc | apply pw_below_drewN | apply below_drew1) | exact HB.out)) hb); clear HB; have HO170 := n0_; have HB := n1_; clear n0_ n1_; (try clear hb); (try clear hb2); (try clear hk); (try clear hi); (try clear ho0); obtain ⟨Ao5, co5, eo5⟩ := Kd.R_slice HO170.out; subst eo5))
  go_loopg [4, 14] k (fun kq v4 v14 w' => ∃ (x4_1 : List Int) (x14_1 : Int), v14 = .int .i64 x14_1 ∧ Aside0 (impl_ReadList.l0 kq a0 x4_1 t168 (t168.length : Int) x14_1 = some (r1, r2)) ∧ Aside0 (kq ≤ k) ∧ Aside0 (Kd.R (Kd.int .i64) 2 w' w.heap.size (fun _ => True) v4 x4_1) ∧ Aside0 (Kd.R Kd.string 9 w' w.heap.size (fun _ => True) (.slice Ao5 t168.length co5) t168) ∧ Aside0 (Below w.heap.size w w'))
  case atStart => exact ⟨(([] : List Int)), (0), (by first | rfl | (simp; done) | (simp [*]; done)), H', ⟨Nat.le_refl _⟩, ⟨by first | exact Kd.R_nil _ _ _ _ _ | exact Kd.N_nil _ _ _ _ _ | exact Kd.V_nil _ _ _ _ _ | exact Kd.Q_nil _ _ _ _ _ | exact Kd.S_nil _ _ _ _ _⟩, ⟨by (with_reducible repeat (first | apply Kd.R_alloc | apply Kd.R_drewN | apply Kd.R_drew)); exact HO170.out⟩, ⟨by repeat (first | (with_reducible first | exact HB.out | apply below_alloc | apply pw_below_drewN | apply below_drew1) | exact HB.out)⟩⟩
  case round =>
   clear H'
   try clear c2
   try clear c2b0
   try clear c2b1
   try clear p2
   obtain ⟨x4_1, x14_1, rfl, HA, HK1, HO_4, HO_12, HB⟩ := hrel
   cases gk with
   | zero => exact absurd HA.out (by simp [impl_ReadList.l0])
   | succ k1 =>
    have H := HA.out
    clear HA
    simp only [impl_ReadList.l0] at H
    by_cases c6 : x14_1 < (t168.length : Int)
    ·
     rw [if_pos c6] at H
     have c6b0 : decide (x14_1 < (t168.length : Int)) = true := decide_eq_true c6
     clear c6
     by_cases c7 : 0 ≤ x14_1
     ·
      rw [if_pos c7] at H
      have c7b0 : decide (0 ≤ x14_1) = true := decide_eq_true c7
      clear c7
      by_cases c8 : x14_1 < (t168.length : Int)
      ·
       rw [if_pos c8] at H
       have c8b0 : decide (x14_1 < (t168.length : Int)) = true := decide_eq_true c8
       clear c8
       replace H := Option.bind_eq_some_iff.mp H
       obtain ⟨⟨t172, t173⟩, A90, H⟩ := H
       replace H : (if t173 = true then (if x4_1.length < 17592186044416 then (impl_ReadList.l0 k1 a0 (x4_1 ++ [t172]) t168 (t168.length : Int) (wrap64 (x14_1 + 1))) else (none)) else (some (([] : List Int), false))) = some (r1, r2) := H
       have A9 := Aside0.mk A90
       clear A90
       by_cases c10 : t173 = true
       ·
        subst c10
        have H1 : (if x4_1.length < 17592186044416 then (impl_ReadList.l0 k1 a0 (x4_1 ++ [t172]) t168 (t168.length : Int) (wrap64 (x14_1 + 1))) else (none)) = some (r1, r2) := by rw [if_pos rfl] at H; exact H
        clear H
        have H := H1
        clear H1
        by_cases c11 : x4_1.length < 17592186044416
        ·
         rw [if_pos c11] at H
         have LMc11 := Aside0.mk c11
         clear c11
         obtain ⟨y174, hy174⟩ : ∃ y_ : List Int, y_ = (x4_1 ++ [t172]) := ⟨_, rfl⟩
         replace H : (impl_ReadList.l0 k1 a0 y174 t168 (t168.length : Int) (wrap64 (x14_1 + 1))) = some (r1, r2) := by first | (rw [hy174]; with_reducible exact H) | (have H2_ := (Option.bind_some _ _).symm.trans H; rw [hy174]; with_reducible exact H2_) | (have H2_ := (Option.bind_some _ _).symm.trans H; with_reducible exact H2_) | with_reducible exact H | (rw [hy174]; exact H) | exact H
         have Ny174 := Aside0.mk hy174
         clear hy174
         have H' := Aside0.mk H
         clear H
         have p171 : 0 ≤ (x14_1 : Int) := of_decide_eq_true (by first | (with_reducible assumption) | assumption)
         have q171 : x14_1 < (t168.length : Int) := of_decide_eq_true (by first | (with_reducible assumption) | assumption)
         obtain ⟨ad171, e171, hx171_0⟩ := Kd.at_string (Kd.R_reads' HO_12.out).2.2 x14_1 p171 q171
         cases e171
         replace p171 := eq_true p171
         replace q171 := eq_true q171
         go_wp2_with (first | ((with_reducible refine gate_callee (f := 129) rfl ?_); refine goesL_ (some 20) rfl rfl Tryd.func129 (by kernel_rfl) rfl #[.string (rdOf ByteArray.empty t168 x14_1)] rfl (by (try simp only [List.map_toArray, List.map_cons, List.map_nil]); first | done | rfl | (simp only [List.length_drop, List.length_take]; rfl)) ?_; (with_reducible refine (impl_ReadDecimal.calls (rdOf ByteArray.empty t168 x14_1) t172 true _ ?side1 A9.out).mono ?_); (case side1 => exact wok_ HWOK_.out (by repeat (first | (with_reducible first | exact HB.out | apply below_alloc | apply pw_below_drewN | apply below_drew1) | exact HB.out))); rintro e w12 ⟨rfl, hb⟩; refine ⟨_, rfl, ?_⟩; have n0_ := Aside0.mk (Kd.R_below (by (with_reducible repeat (first | apply Kd.R_alloc | apply Kd.R_drewN | apply Kd.R_drew)); exact HO_4.out) hb); have n1_ := Aside0.mk (Kd.R_below (by (with_reducible repeat (first | apply Kd.R_alloc | apply Kd.R_drewN | apply Kd.R_drew)); exact HO_12.out) hb); have n2_ := Aside0.mk (below_step (by repeat (first | (with_reducible first | exact HB.out | apply below_alloc | apply pw_below_drewN | apply below_drew1) | exact HB.out)) hb); clear HO_4; clear HO_12; clear HB; have HO_4 := n0_; have HO_12 := n1_; have HB := n2_; clear n0_ n1_ n2_; (try clear hb); (try clear hb2); (try clear hk); (try clear hi)) | ((with_reducible refine gate_builtin (b := .append) (xs := #[.tmp 25, .tmp 27]) rfl ?_); at_builtin; refine Kd.R_append (Kd.int .i64) (w0 := w) w.heap.size rfl (.tmp 25) (.tmp 27) 39 2 (.int .i64 0) 8 rfl Tryd.underlying39 info2 rfl (by decide) (by omega) u4 x4_1 t172 [.int .i64 t172] (fun _ => True) (fun _ => False) rfl rfl ?aP (fun _ hk => hk.elim) ?aF ?aO ?aB ?aS ?aL ?_; (case aP => exact rfl); (case aB => exact (by repeat (first | (with_reducible first | exact HB.out | apply below_alloc | apply pw_below_drewN | apply below_drew1) | exact HB.out))); (case aF => exact (fun _ _ => trivial)); (case aO => exact (by (with_reducible repeat (first | apply Kd.R_alloc | apply Kd.R_drewN | apply Kd.R_drew)); exact HO_4.out)); (case aS => exact (below_size (by repeat (first | (with_reducible first | exact HB.out | apply below_alloc | apply pw_below_drewN | apply below_drew1) | exact HB.out)))); (case aL => have := LMc11.out; omega); intro v175 w13 ho hb hg hat; rw [← Ny174.out] at ho; have n0_ := Aside0.mk (Kd.R_over' (by (with_reducible repeat (first | apply Kd.R_alloc | apply Kd.R_drewN | apply Kd.R_drew)); exact HO_12.out) (Kd.R_typed (by (with_reducible repeat (first | apply Kd.R_alloc | apply Kd.R_drewN | apply Kd.R_drew)); exact HO_4.out)) (by decide) hg); have n1_ := Aside0.mk (hb); have n2_ := Aside0.mk (ho); clear HO_12; clear HB; clear HO_4; have HO_12 := n0_; have HB := n1_; have HO176 := n2_; clear n0_ n1_ n2_; clear ho hb hg hat))
         go_roundg k1
         case measure => have := HK1.out; omega
         case rel => exact ⟨(y174), (wrap64 (x14_1 + 1)), (by first | rfl | (simp; done) | (simp [*]; done)), H', ⟨by have := HK1.out; omega⟩, ⟨by (with_reducible repeat (first | apply Kd.R_alloc | apply Kd.R_drewN | apply Kd.R_drew)); exact HO176.out⟩, ⟨by (with_reducible repeat (first | apply Kd.R_alloc | apply Kd.R_drewN | apply Kd.R_drew)); exact HO_12.out⟩, ⟨by repeat (first | (with_reducible first | exact HB.out | apply below_alloc | apply pw_below_drewN | apply below_drew1) | exact HB.out)⟩⟩
        ·
         rw [if_neg c11] at H
         exact absurd H (by simp)
       ·
        replace c10 := Bool.eq_false_iff.mpr c10
        subst c10
        have H1 : (some (([] : List Int), false)) = some (r1, r2) := by rw [if_neg (show ¬ (false = true) by decide)] at H; exact H
        clear H
        have H := H1
        clear H1
        simp only [Option.some.injEq, Prod.mk.injEq] at H
        obtain ⟨rfl, rfl⟩ := H
        have p171 : 0 ≤ (x14_1 : Int) := of_decide_eq_true (by first | (with_reducible assumption) | assumption)
        have q171 : x14_1 < (t168.length : Int) := of_decide_eq_true (by first | (with_reducible assumption) | assumption)
        obtain ⟨ad171, e171, hx171_0⟩ := Kd.at_string (Kd.R_reads' HO_12.out).2.2 x14_1 p171 q171
        cases e171
        replace p171 := eq_true p171
        replace q171 := eq_true q171
        go_wp2_with (first | ((with_reducible refine gate_callee (f := 129) rfl ?_); refine goesL_ (some 20) rfl rfl Tryd.func129 (by kernel_rfl) rfl #[.string (rdOf ByteArray.empty t168 x14_1)] rfl (by (try simp only [List.map_toArray, List.map_cons, List.map_nil]); first | done | rfl | (simp only [List.length_drop, List.length_take]; rfl)) ?_; (with_reducible refine (impl_ReadDecimal.calls (rdOf ByteArray.empty t168 x14_1) t172 false _ ?side1 A9.out).mono ?_); (case side1 => exact wok_ HWOK_.out (by repeat (first | (with_reducible first | exact HB.out | apply below_alloc | apply pw_below_drewN | apply below_drew1) | exact HB.out))); rintro e w14 ⟨rfl, hb⟩; refine ⟨_, rfl, ?_⟩; have n0_ := Aside0.mk (Kd.R_below (by (with_reducible repeat (first | apply Kd.R_alloc | apply Kd.R_drewN | apply Kd.R_drew)); exact HO_4.out) hb); have n1_ := Aside0.mk (Kd.R_below (by (with_reducible repeat (first | apply Kd.R_alloc | apply Kd.R_drewN | apply Kd.R_drew)); exact HO_12.out) hb); have n2_ := Aside0.mk (below_step (by repeat (first | (with_reducible first | exact HB.out | apply below_alloc | apply pw_below_drewN | apply below_drew1) | exact HB.out)) hb); clear HO_4; clear HO_12; clear HB; have HO_4 := n0_; have HO_12 := n1_; have HB := n2_; clear n0_ n1_ n2_; (try clear hb); (try clear hb2); (try clear hk); (try clear hi)))
        go_ret2
        exact ⟨_, by first | rfl | (simp [errW_none, errW_some] <;> rfl) | (simp [*, errW_none, errW_some] <;> rfl), by first | exact Kd.R_nil _ _ _ _ _ | exact Kd.N_nil _ _ _ _ _ | exact Kd.V_nil _ _ _ _ _ | exact Kd.Q_nil _ _ _ _ _ | exact Kd.S_nil _ _ _ _ _, by repeat (first | (with_reducible first | exact HB.out | apply below_alloc | apply pw_below_drewN | apply below_drew1) | exact HB.out)⟩
      ·
       rw [if_neg c8] at H
       exact absurd H (by simp)
     ·
      rw [if_neg c7] at H
      exact absurd H (by simp)
    ·
     rw [if_neg c6] at H
     have c6b0 : decide (x14_1 < (t168.length : Int)) = false := decide_eq_false c6
     clear c6
     replace H := Option.bind_eq_some_iff.mp H
     obtain ⟨t177, A150, H⟩ := H
     replace H : (if t177.toList = a0.toList then (some (x4_1, true)) else (some (([] : List Int), false))) = some (r1, r2) := H
     have A15 := Aside0.mk A150
     clear A150
     by_cases c16 : t177.toList = a0.toList
     ·
      rw [if_pos c16] at H
      have c16b0 : (t177.toList == a0.toList) = true := beq_iff_eq.mpr c16
      have c16b1 : (t177.toList != a0.toList) = false := bne_eq_false_iff_eq.mpr c16
      clear c16
      simp only [Option.some.injEq, Prod.mk.injEq] at H
      obtain ⟨rfl, rfl⟩ := H
      obtain ⟨Ao17, co17, eo17⟩ := Kd.R_slice HO_4.out
      subst eo17
      go_wp2_with (first | ((with_reducible refine gate_callee (f := 94) rfl ?_); refine goesL_ (some 31) rfl rfl Tryd.func94 (by kernel_rfl) rfl #[.slice Ao17 x4_1.length co17] rfl (by (try simp only [List.map_toArray, List.map_cons, List.map_nil]); first | done | rfl | (simp only [List.length_drop, List.length_take]; rfl)) ?_; (with_reducible refine (impl_ListText.calls _ _ x4_1 t177 _ ?side1 ?side2 ?side3 A15.out).mono ?_); (case side1 => repeat (first | exact (Kd.R_reads' HO_4.out).2.2 | (with_reducible refine Kd.C_alloc ?_ _) | (with_reducible refine Kd.C_drewN ?_ _) | (with_reducible refine Kd.C_drew ?_))); (case side2 => exact (Kd.R_reads' HO_4.out).2.1); (case side3 => exact wok_ HWOK_.out (by repeat (first | (with_reducible first | exact HB.out | apply below_alloc | apply pw_below_drewN | apply below_drew1) | exact HB.out))); rintro e w18 ⟨rfl, hb⟩; refine ⟨_, rfl, ?_⟩; have n0_ := Aside0.mk (Kd.R_below (by (with_reducible repeat (first | apply Kd.R_alloc | apply Kd.R_drewN | apply Kd.R_drew)); exact HO_4.out) hb); have n1_ := Aside0.mk (Kd.R_below (by (with_reducible repeat (first | apply Kd.R_alloc | apply Kd.R_drewN | apply Kd.R_drew)); exact HO_12.out) hb); have n2_ := Aside0.mk (below_step (by repeat (first | (with_reducible first | exact HB.out | apply below_alloc | apply pw_below_drewN | apply below_drew1) | exact HB.out)) hb); clear HO_4; clear HO_12; clear HB; have HO_4 := n0_; have HO_12 := n1_; have HB := n2_; clear n0_ n1_ n2_; (try clear hb); (try clear hb2); (try clear hk); (try clear hi)))
      go_ret2
      exact ⟨_, by first | rfl | (simp [errW_none, errW_some] <;> rfl) | (simp [*, errW_none, errW_some] <;> rfl), by (with_reducible repeat (first | apply Kd.R_alloc | apply Kd.R_drewN | apply Kd.R_drew)); exact HO_4.out, by repeat (first | (with_reducible first | exact HB.out | apply below_alloc | apply pw_below_drewN | apply below_drew1) | exact HB.out)⟩
     ·
      rw [if_neg c16] at H
      have c16b0 : (t177.toList == a0.toList) = false := beq_eq_false_iff_ne.mpr c16
      have c16b1 : (t177.toList != a0.toList) = true := bne_iff_ne.mpr c16
      simp only [Option.some.injEq, Prod.mk.injEq] at H
      obtain ⟨rfl, rfl⟩ := H
      obtain ⟨Ao19, co19, eo19⟩ := Kd.R_slice HO_4.out
      subst eo19
      go_wp2_with (first | ((with_reducible refine gate_callee (f := 94) rfl ?_); refine goesL_ (some 31) rfl rfl Tryd.func94 (by kernel_rfl) rfl #[.slice Ao19 x4_1.length co19] rfl (by (try simp only [List.map_toArray, List.map_cons, List.map_nil]); first | done | rfl | (simp only [List.length_drop, List.length_take]; rfl)) ?_; (with_reducible refine (impl_ListText.calls _ _ x4_1 t177 _ ?side1 ?side2 ?side3 A15.out).mono ?_); (case side1 => repeat (first | exact (Kd.R_reads' HO_4.out).2.2 | (with_reducible refine Kd.C_alloc ?_ _) | (with_reducible refine Kd.C_drewN ?_ _) | (with_reducible refine Kd.C_drew ?_))); (case side2 => exact (Kd.R_reads' HO_4.out).2.1); (case side3 => exact wok_ HWOK_.out (by repeat (first | (with_reducible first | exact HB.out | apply below_alloc | apply pw_below_drewN | apply below_drew1) | exact HB.out))); rintro e w20 ⟨rfl, hb⟩; refine ⟨_, rfl, ?_⟩; have n0_ := Aside0.mk (Kd.R_below (by (with_reducible repeat (first | apply Kd.R_alloc | apply Kd.R_drewN | apply Kd.R_drew)); exact HO_4.out) hb); have n1_ := Aside0.mk (Kd.R_below (by (with_reducible repeat (first | apply Kd.R_alloc | apply Kd.R_drewN | apply Kd.R_drew)); exact HO_12.out) hb); have n2_ := Aside0.mk (below_step (by repeat (first | (with_reducible first | exact HB.out | apply below_alloc | apply pw_below_drewN | apply below_drew1) | exact HB.out)) hb); clear HO_4; clear HO_12; clear HB; have HO_4 := n0_; have HO_12 := n1_; have HB := n2_; clear n0_ n1_ n2_; (try clear hb); (try clear hb2); (try clear hk); (try clear hi)))
      go_ret2
      exact ⟨_, by first | rfl | (simp [errW_none, errW_some] <;> rfl) | (simp [*, errW_none, errW_some] <;> rfl), by first | exact Kd.R_nil _ _ _ _ _ | exact Kd.N_nil _ _ _ _ _ | exact Kd.V_nil _ _ _ _ _ | exact Kd.Q_nil _ _ _ _ _ | exact Kd.S_nil _ _ _ _ _, by repeat (first | (with_reducible first | exact HB.out | apply below_alloc | apply pw_below_drewN | apply below_drew1) | exact HB.out)⟩

/-! ### impl_readNumbers: function 77 -/
def impl_readNumbers.f (k : Nat) (a0 : ByteArray) (a1 : Int) : Option (List Int × Bool) := (impl_ReadList.f k a0).bind fun bt178 => (if bt178.2 = true then (if (bt178.1.length : Int) = a1 then (some (bt178.1, true)) else (if 0 ≤ a1 then (if (a1 : Int).toNat ≤ 35184372088832 then (some ((List.replicate (a1 : Int).toNat 0), false)) else (none)) else (none))) else (if 0 ≤ a1 then (if (a1 : Int).toNat ≤ 35184372088832 then (some ((List.replicate (a1 : Int).toNat 0), false)) else (none)) else (none)))
theorem impl_readNumbers.mono : ∀ a0 a1 k, LeO (impl_readNumbers.f k a0 a1) (impl_readNumbers.f (k + 1) a0 a1) := by
 intro a0 a1 k
 unfold impl_readNumbers.f
 repeat' first
   | (with_reducible exact impl_ReadList.mono _ _)
   | (with_reducible exact LeO.refl _)
   | (with_reducible exact LeO.none _)
   | (with_reducible refine LeO.ite ?_ ?_)
   | (with_reducible refine LeO.bind ?_ (fun _ => ?_))
   | exact impl_ReadList.mono _ _
   | exact LeO.none _
   | refine LeO.ite ?_ ?_
   | refine LeO.bind ?_ (fun _ => ?_)
set_option maxHeartbeats 8000000 in
set_option maxRecDepth 100000 in
theorem impl_readNumbers.calls (k : Nat) (a0 : ByteArray) (a1 : Int) (r1 : List Int) (r2 : Bool) (w : World) (ht_ : WOK w) (h : impl_readNumbers.f k a0 a1 = some (r1, r2)) :
  Calls Tryd.prog 77 #[.string a0, .int .i64 a1] w fun e w' => ∃ v0_ : Value, e = .returned (.tuple #[v0_, .bool r2]) ∧ Kd.R (Kd.int .i64) 2 w' w.heap.size (fun _ => True) v0_ r1 ∧ Below w.heap.size w w' := by
 have HWOK_ := Aside0.mk ht_
 clear ht_
 have HB := Aside0.mk (Below.refl w.heap.size w)
 have H : ((impl_ReadList.f k a0).bind fun bt178 => (if bt178.2 = true then (if (bt178.1.length : Int) = a1 then (some (bt178.1, true)) else (if 0 ≤ a1 then (if (a1 : Int).toNat ≤ 35184372088832 then (some ((List.replicate (a1 : Int).toNat 0), false)) else (none)) else (none))) else (if 0 ≤ a1 then (if (a1 : Int).toNat ≤ 35184372088832 then (some ((List.replicate (a1 : Int).toNat 0), false)) else (none)) else (none)))) = some (r1, r2) := h
 clear h
 replace H := Option.bind_eq_some_iff.mp H
 obtain ⟨⟨t178, t179⟩, A30, H⟩ := H
 replace H : (if t179 = true then (if (t178.length : Int) = a1 then (some (t178, true)) else (if 0 ≤ a1 then (if (a1 : Int).toNat ≤ 35184372088832 then (some ((List.replicate (a1 : Int).toNat 0), false)) else (none)) else (none))) else (if 0 ≤ a1 then (if (a1 : Int).toNat ≤ 35184372088832 then (some ((List.replicate (a1 : Int).toNat 0), false)) else (none)) else (none))) = some (r1, r2) := H
 have A3 := Aside0.mk A30
 clear A30
 by_cases c4 : t179 = true
 ·
  subst c4
  have H1 : (if (t178.length : Int) = a1 then (some (t178, true)) else (if 0 ≤ a1 then (if (a1 : Int).toNat ≤ 35184372088832 then (some ((List.replicate (a1 : Int).toNat 0), false)) else (none)) else (none))) = some (r1, r2) := by rw [if_pos rfl] at H; exact H
  clear H
  have H := H1
  clear H1
  by_cases c5 : (t178.length : Int) = a1
  ·
   rw [if_pos c5] at H
   have c5b0 : ((t178.length : Int) == a1) = true := beq_iff_eq.mpr c5
   have c5b1 : ((t178.length : Int) != a1) = false := bne_eq_false_iff_eq.mpr c5
   clear c5
   simp only [Option.some.injEq, Prod.mk.injEq] at H
   obtain ⟨rfl, rfl⟩ := H
   go_enter Tryd.func77, Tryd.ntmps77
   go_wp2_with (first | ((with_reducible refine gate_callee (f := 78) rfl ?_); refine goesL_ (some 10) rfl rfl Tryd.func78 (by kernel_rfl) rfl #[.string a0] rfl (by (try simp only [List.map_toArray, List.map_cons, List.map_nil]); first | done | rfl | (simp only [List.length_drop, List.length_take]; rfl)) ?_; (with_reducible refine (impl_ReadList.calls k a0 t178 true _ ?side1 A3.out).mono ?_); (case side1 => exact wok_ HWOK_.out (by repeat (first | (with_reducible first | exact HB.out | apply below_alloc | apply pw_below_drewN | apply below_drew1) | exact HB.out))); rintro e w6 ⟨v180, rfl, ho0, hb⟩; refine ⟨_, rfl, ?_⟩; have n0_ := Aside0.mk (Kd.R_lower ho0 (below_size (by repeat (first | (with_reducible first | exact HB.out | apply below_alloc | apply pw_below_drewN | apply below_drew1) | exact HB.out)))); have n1_ := Aside0.mk (below_step (by repeat (first | (with_reducible first | exact HB.out | apply below_alloc | apply pw_below_drewN | apply below_drew1) | exact HB.out)) hb); clear HB; have HO181 := n0_; have HB := n1_; clear n0_ n1_; (try clear hb); (try clear hb2); (try clear hk); (try clear hi); (try clear ho0); obtain ⟨Ao7, co7, eo7⟩ := Kd.R_slice HO181.out; subst eo7))
   go_ret2
   exact ⟨_, by first | rfl | (simp [errW_none, errW_some] <;> rfl) | (simp [*, errW_none, errW_some] <;> rfl), by (with_reducible repeat (first | apply Kd.R_alloc | apply Kd.R_drewN | apply Kd.R_drew)); exact HO181.out, by repeat (first | (with_reducible first | exact HB.out | apply below_alloc | apply pw_below_drewN | apply below_drew1) | exact HB.out)⟩
  ·
   rw [if_neg c5] at H
   have c5b0 : ((t178.length : Int) == a1) = false := beq_eq_false_iff_ne.mpr c5
   have c5b1 : ((t178.length : Int) != a1) = true := bne_iff_ne.mpr c5
   by_cases c8 : 0 ≤ a1
   ·
    rw [if_pos c8] at H
    have c8b0 := eq_true c8
    have c8b1 : decide (0 ≤ a1) = true := decide_eq_true c8
    clear c8
    by_cases c9 : (a1 : Int).toNat ≤ 35184372088832
    ·
     rw [if_pos c9] at H
     have c9b0 := eq_true c9
     have c9b1 : decide ((a1 : Int).toNat ≤ 35184372088832) = true := decide_eq_true c9
     clear c9
     obtain ⟨y182, hy182⟩ : ∃ y_ : List Int, y_ = (List.replicate (a1 : Int).toNat 0) := ⟨_, rfl⟩
     replace H : (some (y182, false)) = some (r1, r2) := by first | (rw [hy182]; with_reducible exact H) | (have H2_ := (Option.bind_some _ _).symm.trans H; rw [hy182]; with_reducible exact H2_) | (have H2_ := (Option.bind_some _ _).symm.trans H; with_reducible exact H2_) | with_reducible exact H | (rw [hy182]; exact H) | exact H
     have Ny182 := Aside0.mk hy182
     clear hy182
     simp only [Option.some.injEq, Prod.mk.injEq] at H
     obtain ⟨rfl, rfl⟩ := H
     go_enter Tryd.func77, Tryd.ntmps77
     go_wp2_with (first | ((with_reducible refine gate_callee (f := 78) rfl ?_); refine goesL_ (some 10) rfl rfl Tryd.func78 (by kernel_rfl) rfl #[.string a0] rfl (by (try simp only [List.map_toArray, List.map_cons, List.map_nil]); first | done | rfl | (simp only [List.length_drop, List.length_take]; rfl)) ?_; (with_reducible refine (impl_ReadList.calls k a0 t178 true _ ?side1 A3.out).mono ?_); (case side1 => exact wok_ HWOK_.out (by repeat (first | (with_reducible first | exact HB.out | apply below_alloc | apply pw_below_drewN | apply below_drew1) | exact HB.out))); rintro e w10 ⟨v180, rfl, ho0, hb⟩; refine ⟨_, rfl, ?_⟩; have n0_ := Aside0.mk (Kd.R_lower ho0 (below_size (by repeat (first | (with_reducible first | exact HB.out | apply below_alloc | apply pw_below_drewN | apply below_drew1) | exact HB.out)))); have n1_ := Aside0.mk (below_step (by repeat (first | (with_reducible first | exact HB.out | apply below_alloc | apply pw_below_drewN | apply below_drew1) | exact HB.out)) hb); clear HB; have HO181 := n0_; have HB := n1_; clear n0_ n1_; (try clear hb); (try clear hb2); (try clear hk); (try clear hi); (try clear ho0); obtain ⟨Ao11, co11, eo11⟩ := Kd.R_slice HO181.out; subst eo11) | ((with_reducible refine gate_dst (N := 22) rfl ?_); (try (refine gate_guard (by rfl) ?_; dsimp only)); refine Kd.R_make (Kd.int .i64) _ 2 rfl (N := 22) rfl 39 _ _ rfl a1 rfl rfl Tryd.underlying39 (.int .i64 0) 8 info2 rfl (by decide) (by omega) 0 (ok := fun _ => True) (okp := fun _ => True) rfl (fun _ hk => hk) trivial (of_decide_eq_true (by first | (with_reducible assumption) | assumption)) (Nat.le_trans (Nat.mul_le_mul_right _ (of_decide_eq_true (by first | (with_reducible assumption) | assumption) : a1.toNat ≤ 35184372088832)) (by omega)) (Below.refl _ _) (Nat.le_refl _) ?_; intro v183 w12 ho13 hb hg_ hnew_; clear hg_ hnew_; (first | rw [← Ny182.out] at ho13 | (simp only [Int.reduceToNat] at ho13; rw [← Ny182.out] at ho13)); have n0_ := Aside0.mk (Kd.R_elder' (by (with_reducible repeat (first | apply Kd.R_alloc | apply Kd.R_drewN | apply Kd.R_drew)); exact HO181.out) (Kd.R_base ho13) hb); have n1_ := Aside0.mk (Kd.R_lower (Kd.R_new' ho13 (Kd.R_lt (by (with_reducible repeat (first | apply Kd.R_alloc | apply Kd.R_drewN | apply Kd.R_drew)); exact HO181.out))) (below_size (by repeat (first | (with_reducible first | exact HB.out | apply below_alloc | apply pw_below_drewN | apply below_drew1) | exact HB.out)))); have n2_ := Aside0.mk (below_step (by repeat (first | (with_reducible first | exact HB.out | apply below_alloc | apply pw_below_drewN | apply below_drew1) | exact HB.out)) hb); clear HO181; clear HB; have HO181 := n0_; have HO184 := n1_; have HB := n2_; clear n0_ n1_ n2_; clear hb ho13))
     go_ret2
     exact ⟨_, by first | rfl | (simp [errW_none, errW_some] <;> rfl) | (simp [*, errW_none, errW_some] <;> rfl), by (with_reducible repeat (first | apply Kd.R_alloc | apply Kd.R_drewN | apply Kd.R_drew)); exact Kd.R_mono HO184.out (fun _ hk => trivial), by repeat (first | (with_reducible first | exact HB.out | apply below_alloc | apply pw_below_drewN | apply below_drew1) | exact HB.out)⟩
    ·
     rw [if_neg c9] at H
     exact absurd H (by simp)
   ·
    rw [if_neg c8] at H
    exact absurd H (by simp)
 ·
  replace c4 := Bool.eq_false_iff.mpr c4
  subst c4
  have H1 : (if 0 ≤ a1 then (if (a1 : Int).toNat ≤ 35184372088832 then (some ((List.replicate (a1 : Int).toNat 0), false)) else (none)) else (none)) = some (r1, r2) := by rw [if_neg (show ¬ (false = true) by decide)] at H; exact H
  clear H
  have H := H1
  clear H1
  by_cases c14 : 0 ≤ a1
  ·
   rw [if_pos c14] at H
   have c14b0 := eq_true c14
   have c14b1 : decide (0 ≤ a1) = true := decide_eq_true c14
   clear c14
   by_cases c15 : (a1 : Int).toNat ≤ 35184372088832
   ·
    rw [if_pos c15] at H
    have c15b0 := eq_true c15
    have c15b1 : decide ((a1 : Int).toNat ≤ 35184372088832) = true := decide_eq_true c15
    clear c15
    obtain ⟨y185, hy185⟩ : ∃ y_ : List Int, y_ = (List.replicate (a1 : Int).toNat 0) := ⟨_, rfl⟩
    replace H : (some (y185, false)) = some (r1, r2) := by first | (rw [hy185]; with_reducible exact H) | (have H2_ := (Option.bind_some _ _).symm.trans H; rw [hy185]; with_reducible exact H2_) | (have H2_ := (Option.bind_some _ _).symm.trans H; with_reducible exact H2_) | with_reducible exact H | (rw [hy185]; exact H) | exact H
    have Ny185 := Aside0.mk hy185
    clear hy185
    simp only [Option.some.injEq, Prod.mk.injEq] at H
    obtain ⟨rfl, rfl⟩ := H
    go_enter Tryd.func77, Tryd.ntmps77
    go_wp2_with (first | ((with_reducible refine gate_callee (f := 78) rfl ?_); refine goesL_ (some 10) rfl rfl Tryd.func78 (by kernel_rfl) rfl #[.string a0] rfl (by (try simp only [List.map_toArray, List.map_cons, List.map_nil]); first | done | rfl | (simp only [List.length_drop, List.length_take]; rfl)) ?_; (with_reducible refine (impl_ReadList.calls k a0 t178 false _ ?side1 A3.out).mono ?_); (case side1 => exact wok_ HWOK_.out (by repeat (first | (with_reducible first | exact HB.out | apply below_alloc | apply pw_below_drewN | apply below_drew1) | exact HB.out))); rintro e w16 ⟨v180, rfl, ho0, hb⟩; refine ⟨_, rfl, ?_⟩; have n0_ := Aside0.mk (Kd.R_lower ho0 (below_size (by repeat (first | (with_reducible first | exact HB.out | apply below_alloc | apply pw_below_drewN | apply below_drew1) | exact HB.out)))); have n1_ := Aside0.mk (below_step (by repeat (first | (with_reducible first | exact HB.out | apply below_alloc | apply pw_below_drewN | apply below_drew1) | exact HB.out)) hb); clear HB; have HO181 := n0_; have HB := n1_; clear n0_ n1_; (try clear hb); (try clear hb2); (try clear hk); (try clear hi); (try clear ho0)) | ((with_reducible refine gate_dst (N := 22) rfl ?_); (try (refine gate_guard (by rfl) ?_; dsimp only)); refine Kd.R_make (Kd.int .i64) _ 2 rfl (N := 22) rfl 39 _ _ rfl a1 rfl rfl Tryd.underlying39 (.int .i64 0) 8 info2 rfl (by decide) (by omega) 0 (ok := fun _ => True) (okp := fun _ => True) rfl (fun _ hk => hk) trivial (of_decide_eq_true (by first | (with_reducible assumption) | assumption)) (Nat.le_trans (Nat.mul_le_mul_right _ (of_decide_eq_true (by first | (with_reducible assumption) | assumption) : a1.toNat ≤ 35184372088832)) (by omega)) (Below.refl _ _) (Nat.le_refl _) ?_; intro v186 w17 ho18 hb hg_ hnew_; clear hg_ hnew_; (first | rw [← Ny185.out] at ho18 | (simp only [Int.reduceToNat] at ho18; rw [← Ny185.out] at ho18)); have n0_ := Aside0.mk (Kd.R_elder' (by (with_reducible repeat (first | apply Kd.R_alloc | apply Kd.R_drewN | apply Kd.R_drew)); exact HO181.out) (Kd.R_base ho18) hb); have n1_ := Aside0.mk (Kd.R_lower (Kd.R_new' ho18 (Kd.R_lt (by (with_reducible repeat (first | apply Kd.R_alloc | apply Kd.R_drewN | apply Kd.R_drew)); exact HO181.out))) (below_size (by repeat (first | (with_reducible first | exact HB.out | apply below_alloc | apply pw_below_drewN | apply below_drew1) | exact HB.out)))); have n2_ := Aside0.mk (below_step (by repeat (first | (with_reducible first | exact HB.out | apply below_alloc | apply pw_below_drewN | apply below_drew1) | exact HB.out)) hb); clear HO181; clear HB; have HO181 := n0_; have HO187 := n1_; have HB := n2_; clear n0_ n1_ n2_; clear hb ho18))
    go_ret2
    exact ⟨_, by first | rfl | (simp [errW_none, errW_some] <;> rfl) | (simp [*, errW_none, errW_some] <;> rfl), by (with_reducible repeat (first | apply Kd.R_alloc | apply Kd.R_drewN | apply Kd.R_drew)); exact Kd.R_mono HO187.out (fun _ hk => trivial), by repeat (first | (with_reducible first | exact HB.out | apply below_alloc | apply pw_below_drewN | apply below_drew1) | exact HB.out)⟩
   ·
    rw [if_neg c15] at H
    exact absurd H (by simp)
  ·
   rw [if_neg c14] at H
   exact absurd H (by simp)

/-! ### impl_withId: function 106 -/
def impl_withId.f (a0 : ByteArray) (l1 : List Int) : Option (ByteArray) := if a0.size + 1 ≤ 9223372036854775807 then ((impl_ListText.f l1).bind fun t188 => (if (a0 ++ (⟨#[32]⟩ : ByteArray)).size + t188.size ≤ 9223372036854775807 then (some ((a0 ++ (⟨#[32]⟩ : ByteArray)) ++ t188)) else (none))) else (none)
set_option maxHeartbeats 8000000 in
set_option maxRecDepth 100000 in
theorem impl_withId.calls (a0 : ByteArray) (A1 : Option Addr) (c1 : Nat) (l1 : List Int) (r : ByteArray) (w : World) (hr1 : Kd.C (Kd.int .i64) w A1 l1.length l1) (hc1 : l1.length ≤ c1) (ht_ : WOK w) (h : impl_withId.f a0 l1 = some r) :
  Calls Tryd.prog 106 #[.string a0, .slice A1 l1.length c1] w fun e w' => e = .returned (.string r) ∧ Below w.heap.size w w' := by
 have HWOK_ := Aside0.mk ht_
 clear ht_
 have HR1 := Aside0.mk hr1
 have HC1 := Aside0.mk hc1
 clear hr1 hc1
 have HB := Aside0.mk (Below.refl w.heap.size w)
 have H : (if a0.size + 1 ≤ 9223372036854775807 then ((impl_ListText.f l1).bind fun t188 => (if (a0 ++ (⟨#[32]⟩ : ByteArray)).size + t188.size ≤ 9223372036854775807 then (some ((a0 ++ (⟨#[32]⟩ : ByteArray)) ++ t188)) else (none))) else (none)) = some r := h
 clear h
 by_cases c3 : a0.size + 1 ≤ 9223372036854775807
 ·
  rw [if_pos c3] at H
  have c3b0 := eq_true c3
  have c3b1 : decide (a0.size + 1 ≤ 9223372036854775807) = true := decide_eq_true c3
  try have c3b2 : (9223372036854775807 < a0.size + 1) = False := eq_false (Nat.not_lt.2 c3)
  replace H := Option.bind_eq_some_iff.mp H
  obtain ⟨t188, A40, H⟩ := H
  replace H : (if (a0 ++ (⟨#[32]⟩ : ByteArray)).size + t188.size ≤ 9223372036854775807 then (some ((a0 ++ (⟨#[32]⟩ : ByteArray)) ++ t188)) else (none)) = some r := H
  have A4 := Aside0.mk A40
  clear A40
  by_cases c5 : (a0 ++ (⟨#[32]⟩ : ByteArray)).size + t188.size ≤ 9223372036854775807
  ·
   rw [if_pos c5] at H
   have c5b0 := eq_true c5
   have c5b1 : decide ((a0 ++ (⟨#[32]⟩ : ByteArray)).size + t188.size ≤ 9223372036854775807) = true := decide_eq_true c5
   try have c5b2 : (9223372036854775807 < (a0 ++ (⟨#[32]⟩ : ByteArray)).size + t188.size) = False := eq_false (Nat.not_lt.2 c5)
   have c5e : (a0 ++ (⟨#[32]⟩ : ByteArray)).size + t188.size = (a0.size + 1) + t188.size := (by simp only [ByteArray.size_append]; rfl)
   have c5b6 : (9223372036854775807 < (a0.size + 1) + t188.size) = False := (by rw [← c5e]; exact c5b2)
   have c5b7 : decide ((a0.size + 1) + t188.size ≤ 9223372036854775807) = true := (by rw [← c5e]; exact c5b1)
   have c5b8 : ((a0.size + 1) + t188.size ≤ 9223372036854775807) = True := (by rw [← c5e]; exact eq_true (of_decide_eq_true c5b1))
   clear c5e
   obtain rfl := Option.some.inj H
   go_enter Tryd.func106, Tryd.ntmps106
   go_wp2_with (first | ((with_reducible refine gate_callee (f := 94) rfl ?_); refine goesL_ (some 8) rfl rfl Tryd.func94 (by kernel_rfl) rfl #[.slice A1 l1.length c1] rfl (by (try simp only [List.map_toArray, List.map_cons, List.map_nil]); first | done | rfl | (simp only [List.length_drop, List.length_take]; rfl)) ?_; (with_reducible refine (impl_ListText.calls _ _ l1 t188 _ ?side1 ?side2 ?side3 A4.out).mono ?_); (case side1 => repeat (first | exact HR1.out | (with_reducible refine Kd.C_alloc ?_ _) | (with_reducible refine Kd.C_drewN ?_ _) | (with_reducible refine Kd.C_drew ?_))); (case side2 => exact HC1.out); (case side3 => exact wok_ HWOK_.out (by repeat (first | (with_reducible first | exact HB.out | apply below_alloc | apply pw_below_drewN | apply below_drew1) | exact HB.out))); rintro e w6 ⟨rfl, hb⟩; refine ⟨_, rfl, ?_⟩; have n0_ := Aside0.mk (below_step (by repeat (first | (with_reducible first | exact HB.out | apply below_alloc | apply pw_below_drewN | apply below_drew1) | exact HB.out)) hb); clear HB; have HB := n0_; clear n0_; (try clear hb); (try clear hb2); (try clear hk); (try clear hi)))
   go_ret
   exact ⟨by first | rfl | (simp [errW_none, errW_some] <;> rfl) | (simp [*, errW_none, errW_some] <;> rfl), by repeat (first | (with_reducible first | exact HB.out | apply below_alloc | apply pw_below_drewN | apply below_drew1) | exact HB.out)⟩
  ·
   rw [if_neg c5] at H
   exact absurd H (by simp)
 ·
  rw [if_neg c3] at H
  exact absurd H (by simp)

end Go.Proofs.YtgkmfgkkmahmoaaDoor.PFnExactReadBuilding
