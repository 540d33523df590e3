-- PRINTED by print.py (a twelfth state) out of the translation. Not trusted: Lean checks it.
import Derived.Test.YtffmkjnjopflnaaPFnRepairsx0
import Derived.Test.YtffmkjnjopflnaaPFnRepairsx1
import Derived.Test.YtffmkjnjopflnaaPFnRepairsx2
import Derived.Test.YtffmkjnjopflnaaPFnRepairsx4
import Derived.Test.YtffmkjnjopflnaaPFnRepairsx5
import Derived.Test.YtffmkjnjopflnaaPFnRepairsx6
namespace Go.Proofs.Ytffmkjnjopflnaa.PFnRepairs
open Go.RowKit Go.Proofs.YtffmkjnjopflnaaW.PrintWords Go.Proofs.YtffmkjnjopflnaaW.PrintLast Go.Proofs.YtffmkjnjopflnaaW.PrintMore
attribute [local go_sem] max2_int min2_int max_two min_two max_three min_three max_four min_four   -- for this text's walks alone
set_option linter.unusedVariables false
set_option linter.unusedSimpArgs false

/-! ### slices_Clone_int64_int64: function 159 -/
def slices_Clone_int64_int64.f (l0 : List Int) : Option (List Int) := if l0.length * 8 ≤ 140737488355328 then some l0 else none
set_option maxHeartbeats 2000000 in
theorem slices_Clone_int64_int64.calls (A0 : Option Addr) (c0 : Nat) (l0 : List Int) (r : List Int) (w : World) (hr0 : Kd.C (Kd.int .i64) w A0 l0.length l0) (hc0 : l0.length ≤ c0) (h : slices_Clone_int64_int64.f l0 = some r) :
  Calls Try.prog 159 #[.slice A0 l0.length c0] w fun e w' => ∃ v0_ : Value, e = .returned (v0_) ∧ Kd.R (Kd.int .i64) 2 w' w.heap.size (fun _ => True) v0_ r ∧ Below w.heap.size w w' := by
 unfold slices_Clone_int64_int64.f at h
 split at h
 ·
  rename_i hlen
  obtain rfl := Option.some.inj h
  have HR := Aside0.mk hr0
  clear h hr0 hc0
  have q22 : ∀ (w : World) (a : Option Addr) (n c n' c' : Nat), (binOp .eql 35 (.slice a n c) (.slice none n' c')).run Try.prog w = .ok (.bool a.isNone) w := fun w a n c n' c' => Lib.run_eql_slice_nil w _ _ a n c n' c' Try.underlying35
  cases A0 with
  | none =>
   have hl0 : l0 = [] := by
    cases l0 with
    | nil => rfl
    | cons x xs =>
     obtain ⟨ad, e, _⟩ := HR.out.2.2 (by simp)
     cases e
   subst hl0
   go_enter Try.func159, Try.ntmps159
   go_wp2
   go_ret
   exact ⟨_, rfl, Kd.R_nil _ _ _ _ _, Below.refl _ _⟩
  | some ad =>
   go_enter Try.func159, Try.ntmps159
   go_wp2_with (at_builtin; refine Kd.R_append_rows (Kd.int .i64) (w0 := w) w.heap.size rfl (.tmp 5) (.tmp 6) 35 2 (.int .i64 0) 8 rfl Try.underlying35 info2 rfl (by decide) (by omega) _ [] l0 _ _ _ (fun _ => True) (fun _ => False) rfl rfl ?aO ?aR (fun _ _ h => h) (fun _ h => h.elim) ?aF ?aB ?aS ?aL ?_)
   case aO => exact ⟨fun _ _ => trivial, [], World.ownsRow_made w #[] 0 (Nat.le_refl _) (Nat.zero_le _) (by simp), Reps.none _ _⟩
   case aR => exact Kd.C_alloc HR.out _
   case aF => exact fun _ _ => trivial
   case aB => exact (Below.refl _ w).alloc (Nat.le_refl _) _
   case aS => simp
   case aL => simpa using hlen
   intro v1 w1 hR hB hg hat
   go_wp2
   go_ret
   exact ⟨v1, rfl, by simpa using hR, hB⟩
 ·
  cases h

/-! ### impl_BestOrder: function 26 -/
theorem cut64 (A : Option Addr) (n c j : Nat) (hm : j ≤ n) (hc : n ≤ c) : ∀ W : World, (Instr.slice 35 (.slice A n c) none (some (.int .i64 (j : Int))) none).run Try.prog W = .ok (.slice A j c) W := by
 obtain ⟨i, hi⟩ : ∃ i, Try.prog.info? 2 = some i := by
  cases h : Try.prog.info? 2 with
  | none => have h2 := info2; rw [h] at h2; cases h2
  | some i => exact ⟨i, rfl⟩
 intro W
 have h := cut_to 35 2 .i64 Try.underlying35 hi A n c (j : Int) (by omega) (by omega) hc W
 rwa [Int.toNat_natCast] at h

/-- The search of impl, by rounds: entered (none), or at the loop's head with a counter. -/
def srI : Nat → List S43 → Int → Bool → Option Nat → Int → List Int → Int → List Int → Option (Int × List Int × Int)
 | 0, _, _, _, _, _, _, _, _ => none
 | k + 1, l, g, c, none, bud, best, least, ord =>
  if ord.length = l.length then (impl_gangHeat.f k l ord g).bind fun h => if least < 0 ∨ h < least then (slices_Clone_int64_int64.f ord).bind fun o => some (bud, o, h) else some (bud, best, least)
  else srI k l g c (some 0) bud best least ord
 | k + 1, l, g, c, some i, bud, best, least, ord =>
  if i < l.length then (slices_Contains_int64_int64.f k ord (i : Int)).bind fun t => if t = true then srI k l g c (some (i + 1)) bud best least ord
   else if c = true ∧ wrap64 (bud - 1) < 0 then some (wrap64 (bud - 1), best, least)
   else if ord.length < 1000 then (srI k l g c none (if c = true then wrap64 (bud - 1) else bud) best least (ord ++ [(i : Int)])).bind fun st => if st.1 < 0 then some st else srI k l g c (some (i + 1)) st.1 st.2.1 st.2.2 ord
   else none
  else some (bud, best, least)
theorem srI.mono : ∀ k l g c i bud best least ord, LeO (srI k l g c i bud best least ord) (srI (k + 1) l g c i bud best least ord) := by
 intro k
 induction k with
 | zero => intro l g c i bud best least ord; cases i <;> exact LeO.none _
 | succ k ih =>
  intro l g c i bud best least ord
  cases i <;> unfold srI <;>
  repeat' first
  | (with_reducible exact ih _ _ _ _ _ _ _ _)
  | (with_reducible exact impl_gangHeat.mono _ _ _ _)
  | (with_reducible exact slices_Contains_int64_int64.mono _ _ _)
  | (with_reducible exact LeO.refl _)
  | (with_reducible exact LeO.none _)
  | (with_reducible refine LeO.ite ?_ ?_)
  | (with_reducible refine LeO.bind ?_ (fun _ => ?_))
structure SxI (w0 w : World) (B : Nat) (A0 : Option Addr) (n c0 : Nat) (g : Int) (c : Bool) (bud : Int) (vo vb : Value) (least : Int) (ord best : List Int) : Prop where
 blk : w.heap[B]? = some (.cells #[.slice A0 n c0, .int .i64 g, .bool c, .int .i64 bud, vo, vb, .int .i64 least] 127 (0, 0))
 o : Kd.R (Kd.int .i64) 2 w w0.heap.size (fun k_ => k_ ≠ B) vo ord
 b : Kd.R (Kd.int .i64) 2 w w0.heap.size (fun k_ => k_ ≠ B ∧ some k_ ≠ vo.ownBlock) vb best
 bel : Below w0.heap.size w0 w
theorem SxI.below {w0 w w1 : World} {B A0 n c0 g c bud vo vb least ord best} (h : SxI w0 w B A0 n c0 g c bud vo vb least ord best) (hb : Below w.heap.size w w1) : SxI w0 w1 B A0 n c0 g c bud vo vb least ord best :=
 ⟨blk_below h.blk hb, Kd.R_below h.o hb, Kd.R_below h.b hb, h.bel.trans (hb.mono h.bel.size)⟩
theorem SxI.cells {w0 w : World} {B A0 n c0 g c bud vo vb least ord best} (h : SxI w0 w B A0 n c0 g c bud vo vb least ord best) :
  w.cell? ⟨B, 0, none⟩ = some (.slice A0 n c0) ∧ w.cell? ⟨B, 1, none⟩ = some (.int .i64 g) ∧ w.cell? ⟨B, 2, none⟩ = some (.bool c) ∧ w.cell? ⟨B, 3, none⟩ = some (.int .i64 bud) ∧ w.cell? ⟨B, 4, none⟩ = some vo ∧ w.cell? ⟨B, 5, none⟩ = some vb ∧ w.cell? ⟨B, 6, none⟩ = some (.int .i64 least) :=
 ⟨(blk_cell h.blk 0).trans rfl, (blk_cell h.blk 1).trans rfl, (blk_cell h.blk 2).trans rfl, (blk_cell h.blk 3).trans rfl, (blk_cell h.blk 4).trans rfl, (blk_cell h.blk 5).trans rfl, (blk_cell h.blk 6).trans rfl⟩
theorem SxI.bud_ {w0 w w1 : World} {B A0 n c0 g c bud vo vb least ord best} (h : SxI w0 w B A0 n c0 g c bud vo vb least ord best) (hB : w0.heap.size ≤ B) (b : Int) (e : w1 = w.setCell ⟨B, 3, none⟩ (.int .i64 b)) : SxI w0 w1 B A0 n c0 g c b vo vb least ord best := by
 subst e
 exact ⟨blk_put h.blk 3 _ rfl, Kd.R_far (p := ⟨B, 3, none⟩) h.o (fun _ hk => hk) _, Kd.R_far (p := ⟨B, 3, none⟩) h.b (fun _ hk => hk.1) _, below_set h.bel hB⟩
theorem SxI.grow {w0 w w1 w2 : World} {B A0 n c0 g c bud vo vb least ord best} (h : SxI w0 w B A0 n c0 g c bud vo vb least ord best) (hB : w0.heap.size ≤ B) {v : Value} {ord' : List Int} (hr : Kd.R (Kd.int .i64) 2 w1 w0.heap.size (fun k_ => k_ ≠ B) v ord') (hb : Below w0.heap.size w0 w1) (hg : w.grownBy w1 vo.ownBlock) (hat : v.ownBlock = vo.ownBlock ∨ ∃ b, v.ownBlock = some b ∧ w.heap.size ≤ b) (e : w2 = w1.setCell ⟨B, 4, none⟩ v) :
  SxI w0 w2 B A0 n c0 g c bud v vb least ord' best := by
 subst e
 have h1 := blk_grown h.blk hg (fun e_ => h.o.1 B e_.symm rfl)
 exact ⟨blk_put h1 4 _ rfl, Kd.R_far (p := ⟨B, 4, none⟩) hr (fun _ hk => hk) _, Kd.R_far (p := ⟨B, 4, none⟩) (Kd.R_after h.b hg hat) (fun _ hk => hk.1) _, below_set hb hB⟩
theorem SxI.cut {w0 w w1 : World} {B A0 n c0 g c bud vb least best A m co} {ord : List Int} {x : Int} (h : SxI w0 w B A0 n c0 g c bud (.slice A m co) vb least (ord ++ [x]) best) (hB : w0.heap.size ≤ B) (e : w1 = w.setCell ⟨B, 4, none⟩ (.slice A ord.length co)) :
  SxI w0 w1 B A0 n c0 g c bud (.slice A ord.length co) vb least ord best := by
 subst e
 have h2 := Kd.R_take (m := ord.length) h.o (by simp)
 rw [List.take_left] at h2
 have h3 : Kd.R (Kd.int .i64) 2 w w0.heap.size (fun k_ => k_ ≠ B ∧ some k_ ≠ (Value.slice A ord.length co).ownBlock) vb best := Kd.R_mono h.b (fun k hk => ⟨hk.1, by cases A <;> exact hk.2⟩)
 exact ⟨blk_put h.blk 4 _ rfl, Kd.R_far (p := ⟨B, 4, none⟩) h2 (fun _ hk => hk) _, Kd.R_far (p := ⟨B, 4, none⟩) h3 (fun _ hk => hk.1) _, below_set h.bel hB⟩
theorem SxI.best_ {w0 w w1 w2 : World} {B A0 n c0 g c bud vo vb least ord best} (h : SxI w0 w B A0 n c0 g c bud vo vb least ord best) (hB : w0.heap.size ≤ B) (hb : Below w.heap.size w w1) {v : Value} {o : List Int} (hr : Kd.R (Kd.int .i64) 2 w1 w.heap.size (fun _ => True) v o) (x : Int) (e : w2 = (w1.setCell ⟨B, 5, none⟩ v).setCell ⟨B, 6, none⟩ (.int .i64 x)) :
  SxI w0 w2 B A0 n c0 g c bud vo v x ord o := by
 subst e
 have h1 := h.below hb
 have h2 := Kd.R_lower (Kd.R_newR hr h.o) h.bel.size
 have h3 : Kd.R (Kd.int .i64) 2 w1 w0.heap.size (fun k_ => k_ ≠ B ∧ some k_ ≠ vo.ownBlock) v o := Kd.R_mono (Kd.R_newB (Kd.R_newR hr h.o) h.blk |> fun z => Kd.R_lower z h.bel.size) (fun k hk => ⟨hk.2, hk.1.2⟩)
 exact ⟨blk_put (blk_put h1.blk 5 _ rfl) 6 _ rfl, Kd.R_far (p := ⟨B, 6, none⟩) (Kd.R_far (p := ⟨B, 5, none⟩) h1.o (fun _ hk => hk) _) (fun _ hk => hk) _, Kd.R_far (p := ⟨B, 6, none⟩) (Kd.R_far (p := ⟨B, 5, none⟩) h3 (fun _ hk => hk.1) _) (fun _ hk => hk.1) _, below_set (below_set h1.bel hB) hB⟩
def SxR (w0 w : World) (B : Nat) (A0 : Option Addr) (n c0 : Nat) (g : Int) (c : Bool) (r : Int × List Int × Int) (ord : List Int) : Prop := ∃ vo vb, SxI w0 w B A0 n c0 g c r.1 vo vb r.2.2 ord r.2.1
set_option maxHeartbeats 2400000 in
set_option maxRecDepth 100000 in
theorem srI_leaf (k : Nat) (w0 w : World) (B : Nat) (A0 : Option Addr) (c0 : Nat) (l : List S43) (g : Int) (c : Bool) (bud : Int) (vo vb : Value) (least : Int) (ord best : List Int) (r : Int × List Int × Int) (hB : w0.heap.size ≤ B) (hl : Kd.C k43 w0 A0 l.length l) (hc0 : l.length ≤ c0)
  (hs : SxI w0 w B A0 l.length c0 g c bud vo vb least ord best) (he : ord.length = l.length) (h : srI (k + 1) l g c none bud best least ord = some r) :
  Calls Try.prog 84 #[.pointer (some ⟨B, 0, none⟩)] w fun e w' => e = .returned (.tuple #[]) ∧ SxR w0 w' B A0 l.length c0 g c r ord := by
 simp only [srI, he, if_true] at h
 obtain ⟨t, ht, h⟩ := Option.bind_eq_some_iff.mp h
 obtain ⟨Ao, co, rfl⟩ := Kd.R_slice hs.o
 have hco := (Kd.R_reads' hs.o).2.1
 have hro := (Kd.R_reads' hs.o).2.2
 have HC := fun (W : World) (hb : Below w.heap.size w W) => impl_gangHeat.calls k A0 c0 l Ao co ord g t W (Kd.C_below hl (hs.bel.trans (hb.mono hs.bel.size))) hc0 (Kd.C_below hro hb) hco ht
 have HS := Aside0.mk hs
 have HG := Aside0.mk HC
 have HO := Aside0.mk hro
 have HCO := Aside0.mk hco
 have HE := Aside0.mk he
 obtain ⟨hx0, hx1, hx2, hx3, hx4, hx5, hx6⟩ := hs.cells
 rw [he] at hx4 HG HCO HO
 clear hs HC hl ht hro hco hc0 he hx2 hx3 hx5
 generalize l.length = n at *
 by_cases hlt : least < 0 ∨ t < least
 ·
  rw [if_pos hlt] at h
  obtain ⟨o, ho, h2⟩ := Option.bind_eq_some_iff.mp h
  obtain rfl := Option.some.inj h2
  have HL := fun (W : World) (hb : Below w.heap.size w W) => slices_Clone_int64_int64.calls Ao co ord o W (by rw [HE.out]; exact Kd.C_below HO.out hb) (by rw [HE.out]; exact HCO.out) ho
  rw [HE.out] at HL
  have HCL := Aside0.mk HL
  clear HL h h2 ho
  have hcases : decide (least < 0) = true ∨ (decide (least < 0) = false ∧ decide (t < least) = true) := by
   by_cases h0 : least < 0
   ·
    exact .inl (decide_eq_true h0)
   ·
    exact .inr ⟨decide_eq_false h0, decide_eq_true (hlt.resolve_left h0)⟩
  clear hlt
  go_enter Try.func84, Try.ntmps84
  go_wp2
  go_quiet (fail)
  go_wp2
  rw [drewN_self w]; generalize hq_ : World.drewN w _ = w1
  have hb1 : Below w.heap.size w w1 := hq_ ▸ pw_below_drewN (Below.refl _ _) _
  have HS1 := Aside0.mk (HS.out.below hb1)
  have HB1 := Aside0.mk hb1
  clear hq_ hb1 hx0 hx1 hx4 hx6
  obtain ⟨hx0, hx1, hx2, hx3, hx4, hx5, hx6⟩ := HS1.out.cells
  rw [HE.out] at hx4
  go_still_tail 12, (by kernel_rfl)
  change wpList _ _ _ _ _ w1.drew
  rcases hcases with hd1 | ⟨hd1, hd2⟩
  all_goals
   go_wp2_with (first | (go_at_call 90; refine (HG.out _ (below_drew1 HB1.out)).mono ?_; rintro e w2 ⟨rfl, hb⟩; have HB2 := Aside0.mk ((below_drew1 (Below.refl w1.heap.size w1)).trans hb); have HS2 := Aside0.mk (HS1.out.below HB2.out); clear hb hx0 hx1 hx2 hx3 hx4 hx5 hx6; obtain ⟨hx0, hx1, hx2, hx3, hx4, hx5, hx6⟩ := HS2.out.cells; rw [HE.out] at hx4) | (go_at_call 159; refine (HCL.out w2 (HB1.out.trans (HB2.out.mono HB1.out.size))).mono ?_; rintro e w3 ⟨v0, rfl, hr, hb⟩; obtain ⟨Ab, cb, rfl⟩ := Kd.R_slice hr; have HR3 := Aside0.mk hr; have HB3 := Aside0.mk hb; have BK3 := Aside0.mk (blk_below HS2.out.blk hb); have hy5 : w3.cell? ⟨B, 5, none⟩ = some vb := (blk_cell BK3.out 5).trans rfl; have hf5 := blk_frozen BK3.out 5; have hf6 := blk_frozen BK3.out 6; have hy6 : w3.cell? ⟨B, 6, none⟩ = some (.int .i64 least) := (blk_cell BK3.out 6).trans rfl; clear hr hb hx0 hx1 hx2 hx3 hx4 hx5 hx6))
   refine bodyPost_ret (results_none rfl _ _ _) rfl ?_
   exact ⟨rfl, _, _, HS2.out.best_ hB HB3.out HR3.out t rfl⟩
 ·
  rw [if_neg hlt] at h
  obtain rfl := Option.some.inj h
  have hd1 : decide (least < 0) = false := decide_eq_false (fun z => hlt (.inl z))
  have hd2 : decide (t < least) = false := decide_eq_false (fun z => hlt (.inr z))
  clear hlt h
  go_enter Try.func84, Try.ntmps84
  go_wp2
  go_quiet (fail)
  go_wp2
  rw [drewN_self w]; generalize hq_ : World.drewN w _ = w1
  have hb1 : Below w.heap.size w w1 := hq_ ▸ pw_below_drewN (Below.refl _ _) _
  have HS1 := Aside0.mk (HS.out.below hb1)
  have HB1 := Aside0.mk hb1
  clear hq_ hb1 hx0 hx1 hx4 hx6
  obtain ⟨hx0, hx1, hx2, hx3, hx4, hx5, hx6⟩ := HS1.out.cells
  rw [HE.out] at hx4
  go_still_tail 12, (by kernel_rfl)
  change wpList _ _ _ _ _ w1.drew
  go_wp2_with (go_at_call 90; refine (HG.out _ (below_drew1 HB1.out)).mono ?_; rintro e w2 ⟨rfl, hb⟩; have HB2 := Aside0.mk ((below_drew1 (Below.refl w1.heap.size w1)).trans hb); have HS2 := Aside0.mk (HS1.out.below HB2.out); clear hb hx0 hx1 hx2 hx3 hx4 hx5 hx6; obtain ⟨hx0, hx1, hx2, hx3, hx4, hx5, hx6⟩ := HS2.out.cells; rw [HE.out] at hx4)
  refine bodyPost_ret (results_none rfl _ _ _) rfl ?_
  exact ⟨rfl, _, _, by have h2 := HS2.out; exact h2⟩
set_option maxHeartbeats 2400000 in
set_option maxRecDepth 100000 in
theorem srI_loop (w0 : World) (B : Nat) (A0 : Option Addr) (n c0 : Nat) (l : List S43) (g : Int) (c : Bool) (m : Nat) (hn : l.length = n) (hmax : n ≤ 9223372036854775807) (hB : w0.heap.size ≤ B) 
  (IH : ∀ m2, m2 < m → ∀ (w : World) bud vo vb least ord best r, SxI w0 w B A0 n c0 g c bud vo vb least ord best → srI m2 l g c none bud best least ord = some r → Calls Try.prog 84 #[.pointer (some ⟨B, 0, none⟩)] w fun e w' => e = .returned (.tuple #[]) ∧ SxR w0 w' B A0 n c0 g c r ord)
  (w : World) (bud : Int) (vo vb : Value) (least : Int) (ord best : List Int) (r : Int × List Int × Int) (hs : SxI w0 w B A0 n c0 g c bud vo vb least ord best) (hne : ord.length ≠ n) (h : srI m l g c (some 0) bud best least ord = some r) :
  Calls Try.prog 84 #[.pointer (some ⟨B, 0, none⟩)] w fun e w' => e = .returned (.tuple #[]) ∧ SxR w0 w' B A0 n c0 g c r ord := by
 have HI := Aside0.mk IH
 have HN := Aside0.mk hn
 have H0 := Aside0.mk h
 have HS := Aside0.mk hs
 obtain ⟨Ao, co, rfl⟩ := Kd.R_slice hs.o
 obtain ⟨hx0, hx1, hx2, hx3, hx4, hx5, hx6⟩ := hs.cells
 have hq0 : ¬ (ord.length : Int) = (n : Int) := by omega
 have hq1 : ((ord.length : Int) == (n : Int)) = false := by simpa using hq0
 have hq2 : (ord.length == n) = false := by simpa using hne
 clear IH hn h hs hne hq0 hx1 hx2 hx3 hx5 hx6
 go_enter Try.func84, Try.ntmps84
 go_wp2
 go_quiet (fail)
 go_wp2
 rw [drewN_self w]; generalize hq_ : World.drewN w _ = w1
 have HS1 := Aside0.mk (HS.out.below (hq_ ▸ pw_below_drewN (Below.refl _ _) _))
 clear hq_ HS hq1 hq2 hx0 hx4
 go_loopg [58] m (fun gg s58 wr => ∃ (i : Nat) (bud : Int) (best : List Int) (least : Int) (vo vb : Value), s58 = .int .i64 (i : Int) ∧ Aside0 (SxI w0 wr B A0 n c0 g c bud vo vb least ord best) ∧ Aside0 (srI gg l g c (some i) bud best least ord = some r) ∧ Aside0 (gg ≤ m))
 case atStart => exact ⟨0, _, _, _, _, _, rfl, HS1, H0, ⟨Nat.le_refl _⟩⟩
 case round =>
  clear HS1 H0
  obtain ⟨i, bud, best, least, vo, vb, rfl, HS, HA, HK⟩ := hrel
  cases gk with
  | zero => exact absurd HA.out (by simp [srI])
  | succ k1 =>
   have H := HA.out
   clear HA
   simp only [srI, HN.out] at H
   obtain ⟨Ao, co, rfl⟩ := Kd.R_slice HS.out.o
   obtain ⟨hx0, hx1, hx2, hx3, hx4, hx5, hx6⟩ := HS.out.cells
   by_cases hlt : i < n
   ·
    rw [if_pos hlt] at H
    obtain ⟨t, ht, H⟩ := Option.bind_eq_some_iff.mp H
    have HCN := Aside0.mk (fun (W : World) (hb : Below wr.heap.size wr W) => slices_Contains_int64_int64.calls k1 Ao co ord (i : Int) t W (Kd.C_below (Kd.R_reads' HS.out.o).2.2 hb) (Kd.R_reads' HS.out.o).2.1 ht)
    clear ht
    have hltz : decide ((i : Int) < (n : Int)) = true := decide_eq_true (by omega)
    have hltz2 : decide (i < n) = true := decide_eq_true hlt
    have hnb : (n : Int) ≤ 9223372036854775807 := by omega
    have hi0 : 0 ≤ (i : Int) := by omega
    cases t with
    | true =>
     simp only [if_true] at H
     have H' := Aside0.mk H
     clear H
     go_wp2_with (first | (go_at_call 160; refine (HCN.out wr (Below.refl _ _)).mono ?_; rintro e w2 ⟨rfl, hd⟩; have HS2 := Aside0.mk (HS.out.below (Drawn0.below hd)); clear hd; clear hx0 hx1 hx2 hx3 hx4 hx5 hx6; obtain ⟨hx0, hx1, hx2, hx3, hx4, hx5, hx6⟩ := HS2.out.cells; have hfb3 := blk_frozen HS2.out.blk 3))
     go_roundg k1
     case measure => omega
     case rel => exact ⟨i + 1, _, _, _, _, _, by go_num, HS2, H', ⟨by have := HK.out; omega⟩⟩
    | false =>
     simp only [Bool.false_eq_true, if_false] at H
     by_cases hcb : c = true ∧ wrap64 (bud - 1) < 0
     ·
      rw [if_pos hcb] at H
      obtain rfl := Option.some.inj H
      obtain ⟨rfl, hb0⟩ := hcb
      have hd1 : decide (wrap64 (bud - 1) < 0) = true := decide_eq_true hb0
      clear H hb0
      go_wp2_with (first | (go_at_call 160; refine (HCN.out wr (Below.refl _ _)).mono ?_; rintro e w2 ⟨rfl, hd⟩; have HS2 := Aside0.mk (HS.out.below (Drawn0.below hd)); clear hd; clear hx0 hx1 hx2 hx3 hx4 hx5 hx6; obtain ⟨hx0, hx1, hx2, hx3, hx4, hx5, hx6⟩ := HS2.out.cells; have hfb3 := blk_frozen HS2.out.blk 3) | ((with_reducible refine gate_store (t := 2) (p := 77) rfl ?_); refine store_event (t := 2) (p := 77) (v := ?vo_77) (w1 := (w2.setCell ⟨B, 3, none⟩ (.int .i64 (wrap64 (bud - 1))))) ?hg ?ho ?hn ?hr ?_; (case ho => rfl); (case hg => rfl); (case hn => rfl); (case hr => first | (go_simp; done) | (go_simp; rfl)); intro w3 hw; have HS3 := Aside0.mk (HS2.out.bud_ hB _ hw); clear hw; clear hx0 hx1 hx2 hx3 hx4 hx5 hx6; obtain ⟨hx0, hx1, hx2, hx3, hx4, hx5, hx6⟩ := HS3.out.cells; skip))
      refine bodyPost_ret (results_none rfl _ _ _) rfl ?_
      exact ⟨rfl, _, _, by have h2 := HS3.out; exact h2⟩
     ·
      rw [if_neg hcb] at H
      by_cases hol : ord.length < 1000
      ·
       rw [if_pos hol] at H
       obtain ⟨st, hrec, H⟩ := Option.bind_eq_some_iff.mp H
       have HREC := Aside0.mk hrec
       have HL := Aside0.mk hol
       have HLN := Aside0.mk (show (ord ++ [(i : Int)]).length = ord.length + 1 by simp)
       have H' := Aside0.mk H
       clear H hrec hol
       cases c with
       | true =>
        have hd1 : decide (wrap64 (bud - 1) < 0) = false := decide_eq_false (fun z => hcb ⟨rfl, z⟩)
        clear hcb
        simp only [if_true] at HREC
        go_wp2_with (first | (go_at_call 160; refine (HCN.out wr (Below.refl _ _)).mono ?_; rintro e w2 ⟨rfl, hd⟩; have HS2 := Aside0.mk (HS.out.below (Drawn0.below hd)); clear hd; clear hx0 hx1 hx2 hx3 hx4 hx5 hx6; obtain ⟨hx0, hx1, hx2, hx3, hx4, hx5, hx6⟩ := HS2.out.cells; have hfb3 := blk_frozen HS2.out.blk 3) | ((with_reducible refine gate_store (t := 2) (p := 77) rfl ?_); refine store_event (t := 2) (p := 77) (v := ?vo_77) (w1 := (w2.setCell ⟨B, 3, none⟩ (.int .i64 (wrap64 (bud - 1))))) ?hg ?ho ?hn ?hr ?_; (case ho => rfl); (case hg => rfl); (case hn => rfl); (case hr => first | (go_simp; done) | (go_simp; rfl)); intro w3 hw; have HS3 := Aside0.mk (HS2.out.bud_ hB _ hw); clear hw; clear hx0 hx1 hx2 hx3 hx4 hx5 hx6; obtain ⟨hx0, hx1, hx2, hx3, hx4, hx5, hx6⟩ := HS3.out.cells; skip) | ((with_reducible refine gate_builtin (b := .append) (xs := #[.tmp 87, .tmp 89]) rfl ?_); (try (refine gate_guard (by rfl) ?_; dsimp only)); at_builtin; refine Kd.R_append (Kd.int .i64) (w0 := w0) w0.heap.size rfl (.tmp 87) (.tmp 89) 35 2 (.int .i64 0) 8 rfl Try.underlying35 info2 rfl (by decide) (by omega) (.slice Ao ord.length co) ord (i : Int) [.int .i64 (i : Int)] (fun k_ => k_ ≠ B) (fun _ => False) rfl rfl rfl (fun _ hk => hk.elim) ?aF ?aO ?aB ?aS ?aL ?_; (case aF => intro k_ hk e_; subst e_; exact absurd (blk_lt HS3.out.blk) (Nat.not_lt.2 hk)); (case aO => exact HS3.out.o); (case aB => exact HS3.out.bel); (case aS => exact HS3.out.bel.size); (case aL => have := HL.out; omega); intro v6 w6 ho hb6 hg6 hat; obtain ⟨A6, c6, e6⟩ := Kd.R_slice ho; rw [HLN.out] at e6; subst e6; have BK6 := Aside0.mk (blk_grown HS3.out.blk hg6 (fun e_ => HS3.out.o.1 B e_.symm rfl)); have HO6 := Aside0.mk ho; have HB6 := Aside0.mk hb6; have HG6 := Aside0.mk hg6; have HAT := Aside0.mk hat; clear ho hb6 hg6 hat hx0 hx1 hx2 hx3 hx4 hx5 hx6; have hy4 : w6.cell? ⟨B, 4, none⟩ = some (.slice Ao ord.length co) := (blk_cell BK6.out 4).trans rfl; have hf4 := blk_frozen BK6.out 4) | ((with_reducible refine gate_store (t := 35) (p := 92) rfl ?_); refine store_event (t := 35) (p := 92) (v := ?vo_92) (w1 := (w6.setCell ⟨B, 4, none⟩ (.slice A6 (ord.length + 1) c6))) ?hg ?ho ?hn ?hr ?_; (case ho => rfl); (case hg => rfl); (case hn => rfl); (case hr => first | (go_simp; done) | (go_simp; rfl)); intro w7 hw; have HS7 := Aside0.mk (HS3.out.grow hB HO6.out HB6.out HG6.out HAT.out hw); clear hw hy4 hf4) | (go_at_call 84; refine (HI.out k1 (by have := HK.out; omega) w7 _ _ _ _ _ _ st HS7.out HREC.out).mono ?_; rintro e w8 ⟨rfl, vo8, vb8, hs8⟩; obtain ⟨A8, c8, e8⟩ := Kd.R_slice hs8.o; rw [HLN.out] at e8; subst e8; have HS8 := Aside0.mk hs8; have hc8 := (Kd.R_reads' hs8.o).2.1; clear hs8))
        skip
        obtain ⟨rb, rbest, rleast⟩ := st
        obtain ⟨hx0, hx1, hx2, hx3, hx4, hx5, hx6⟩ := HS8.out.cells
        have hcut := cut64 A8 (ord.length + 1) c8 ord.length (Nat.le_succ _) hc8
        have hw3 : IntKind.i64.wrap (ord.length : Int) = (ord.length : Int) := by have := HL.out; rw [IntKind.wrap_i64]; omega
        have HSQ := Aside0.mk (HS8.out.below (below_drew1 (Below.refl _ _)))
        by_cases hrb : rb < 0
        ·
         have hd3 : decide (rb < 0) = true := decide_eq_true hrb
         have hr := H'.out
         simp only [hrb, if_true] at hr
         obtain rfl := Option.some.inj hr
         clear hr hrb H'
         go_still_tail 14, (by kernel_rfl)
         change wpList _ _ _ _ _ w8.drew
         generalize w8.drew = w9 at HSQ ⊢
         have HS9 := HSQ
         clear hx0 hx1 hx2 hx3 hx4 hx5 hx6
         obtain ⟨hx0, hx1, hx2, hx3, hx4, hx5, hx6⟩ := HS9.out.cells
         have hfb4 := blk_frozen HS9.out.blk 4
         go_wp2_with ((with_reducible refine gate_store (t := 35) (p := 108) rfl ?_); refine store_event (t := 35) (p := 108) (v := ?vo_108) (w1 := (w9.setCell ⟨B, 4, none⟩ (.slice A8 ord.length c8))) ?hg ?ho ?hn ?hr ?_; (case ho => rfl); (case hg => rfl); (case hn => rfl); (case hr => first | (go_simp; done) | (go_simp; rfl)); intro w10 hw; have HS10 := Aside0.mk (HS9.out.cut hB hw); clear hw; clear hx0 hx1 hx2 hx3 hx4 hx5 hx6; obtain ⟨hx0, hx1, hx2, hx3, hx4, hx5, hx6⟩ := HS10.out.cells; skip)
         refine bodyPost_ret (results_none rfl _ _ _) rfl ?_
         exact ⟨rfl, _, _, by have h2 := HS10.out; exact h2⟩
        ·
         have hd3 : decide (rb < 0) = false := decide_eq_false hrb
         have hr := H'.out
         simp only [hrb, if_false] at hr
         have HR := Aside0.mk hr
         clear hr hrb H'
         go_still_tail 14, (by kernel_rfl)
         change wpList _ _ _ _ _ w8.drew
         generalize w8.drew = w9 at HSQ ⊢
         have HS9 := HSQ
         clear hx0 hx1 hx2 hx3 hx4 hx5 hx6
         obtain ⟨hx0, hx1, hx2, hx3, hx4, hx5, hx6⟩ := HS9.out.cells
         have hfb4 := blk_frozen HS9.out.blk 4
         go_wp2_with ((with_reducible refine gate_store (t := 35) (p := 108) rfl ?_); refine store_event (t := 35) (p := 108) (v := ?vo_108) (w1 := (w9.setCell ⟨B, 4, none⟩ (.slice A8 ord.length c8))) ?hg ?ho ?hn ?hr ?_; (case ho => rfl); (case hg => rfl); (case hn => rfl); (case hr => first | (go_simp; done) | (go_simp; rfl)); intro w10 hw; have HS10 := Aside0.mk (HS9.out.cut hB hw); clear hw; clear hx0 hx1 hx2 hx3 hx4 hx5 hx6; obtain ⟨hx0, hx1, hx2, hx3, hx4, hx5, hx6⟩ := HS10.out.cells; skip)
         go_roundg k1
         case measure => omega
         case rel => exact ⟨i + 1, _, _, _, _, _, by go_num, HS10, HR, ⟨by have := HK.out; omega⟩⟩
       | false =>
        clear hcb
        simp only [Bool.false_eq_true, if_false] at HREC
        go_wp2_with (first | (go_at_call 160; refine (HCN.out wr (Below.refl _ _)).mono ?_; rintro e w3 ⟨rfl, hd⟩; have HS3 := Aside0.mk (HS.out.below (Drawn0.below hd)); clear hd; clear hx0 hx1 hx2 hx3 hx4 hx5 hx6; obtain ⟨hx0, hx1, hx2, hx3, hx4, hx5, hx6⟩ := HS3.out.cells; have hfb3 := blk_frozen HS3.out.blk 3) | ((with_reducible refine gate_builtin (b := .append) (xs := #[.tmp 87, .tmp 89]) rfl ?_); (try (refine gate_guard (by rfl) ?_; dsimp only)); at_builtin; refine Kd.R_append (Kd.int .i64) (w0 := w0) w0.heap.size rfl (.tmp 87) (.tmp 89) 35 2 (.int .i64 0) 8 rfl Try.underlying35 info2 rfl (by decide) (by omega) (.slice Ao ord.length co) ord (i : Int) [.int .i64 (i : Int)] (fun k_ => k_ ≠ B) (fun _ => False) rfl rfl rfl (fun _ hk => hk.elim) ?aF ?aO ?aB ?aS ?aL ?_; (case aF => intro k_ hk e_; subst e_; exact absurd (blk_lt HS3.out.blk) (Nat.not_lt.2 hk)); (case aO => exact HS3.out.o); (case aB => exact HS3.out.bel); (case aS => exact HS3.out.bel.size); (case aL => have := HL.out; omega); intro v6 w6 ho hb6 hg6 hat; obtain ⟨A6, c6, e6⟩ := Kd.R_slice ho; rw [HLN.out] at e6; subst e6; have BK6 := Aside0.mk (blk_grown HS3.out.blk hg6 (fun e_ => HS3.out.o.1 B e_.symm rfl)); have HO6 := Aside0.mk ho; have HB6 := Aside0.mk hb6; have HG6 := Aside0.mk hg6; have HAT := Aside0.mk hat; clear ho hb6 hg6 hat hx0 hx1 hx2 hx3 hx4 hx5 hx6; have hy4 : w6.cell? ⟨B, 4, none⟩ = some (.slice Ao ord.length co) := (blk_cell BK6.out 4).trans rfl; have hf4 := blk_frozen BK6.out 4) | ((with_reducible refine gate_store (t := 35) (p := 92) rfl ?_); refine store_event (t := 35) (p := 92) (v := ?vo_92) (w1 := (w6.setCell ⟨B, 4, none⟩ (.slice A6 (ord.length + 1) c6))) ?hg ?ho ?hn ?hr ?_; (case ho => rfl); (case hg => rfl); (case hn => rfl); (case hr => first | (go_simp; done) | (go_simp; rfl)); intro w7 hw; have HS7 := Aside0.mk (HS3.out.grow hB HO6.out HB6.out HG6.out HAT.out hw); clear hw hy4 hf4) | (go_at_call 84; refine (HI.out k1 (by have := HK.out; omega) w7 _ _ _ _ _ _ st HS7.out HREC.out).mono ?_; rintro e w8 ⟨rfl, vo8, vb8, hs8⟩; obtain ⟨A8, c8, e8⟩ := Kd.R_slice hs8.o; rw [HLN.out] at e8; subst e8; have HS8 := Aside0.mk hs8; have hc8 := (Kd.R_reads' hs8.o).2.1; clear hs8))
        skip
        obtain ⟨rb, rbest, rleast⟩ := st
        obtain ⟨hx0, hx1, hx2, hx3, hx4, hx5, hx6⟩ := HS8.out.cells
        have hcut := cut64 A8 (ord.length + 1) c8 ord.length (Nat.le_succ _) hc8
        have hw3 : IntKind.i64.wrap (ord.length : Int) = (ord.length : Int) := by have := HL.out; rw [IntKind.wrap_i64]; omega
        have HSQ := Aside0.mk (HS8.out.below (below_drew1 (Below.refl _ _)))
        by_cases hrb : rb < 0
        ·
         have hd3 : decide (rb < 0) = true := decide_eq_true hrb
         have hr := H'.out
         simp only [hrb, if_true] at hr
         obtain rfl := Option.some.inj hr
         clear hr hrb H'
         go_still_tail 14, (by kernel_rfl)
         change wpList _ _ _ _ _ w8.drew
         generalize w8.drew = w9 at HSQ ⊢
         have HS9 := HSQ
         clear hx0 hx1 hx2 hx3 hx4 hx5 hx6
         obtain ⟨hx0, hx1, hx2, hx3, hx4, hx5, hx6⟩ := HS9.out.cells
         have hfb4 := blk_frozen HS9.out.blk 4
         go_wp2_with ((with_reducible refine gate_store (t := 35) (p := 108) rfl ?_); refine store_event (t := 35) (p := 108) (v := ?vo_108) (w1 := (w9.setCell ⟨B, 4, none⟩ (.slice A8 ord.length c8))) ?hg ?ho ?hn ?hr ?_; (case ho => rfl); (case hg => rfl); (case hn => rfl); (case hr => first | (go_simp; done) | (go_simp; rfl)); intro w10 hw; have HS10 := Aside0.mk (HS9.out.cut hB hw); clear hw; clear hx0 hx1 hx2 hx3 hx4 hx5 hx6; obtain ⟨hx0, hx1, hx2, hx3, hx4, hx5, hx6⟩ := HS10.out.cells; skip)
         refine bodyPost_ret (results_none rfl _ _ _) rfl ?_
         exact ⟨rfl, _, _, by have h2 := HS10.out; exact h2⟩
        ·
         have hd3 : decide (rb < 0) = false := decide_eq_false hrb
         have hr := H'.out
         simp only [hrb, if_false] at hr
         have HR := Aside0.mk hr
         clear hr hrb H'
         go_still_tail 14, (by kernel_rfl)
         change wpList _ _ _ _ _ w8.drew
         generalize w8.drew = w9 at HSQ ⊢
         have HS9 := HSQ
         clear hx0 hx1 hx2 hx3 hx4 hx5 hx6
         obtain ⟨hx0, hx1, hx2, hx3, hx4, hx5, hx6⟩ := HS9.out.cells
         have hfb4 := blk_frozen HS9.out.blk 4
         go_wp2_with ((with_reducible refine gate_store (t := 35) (p := 108) rfl ?_); refine store_event (t := 35) (p := 108) (v := ?vo_108) (w1 := (w9.setCell ⟨B, 4, none⟩ (.slice A8 ord.length c8))) ?hg ?ho ?hn ?hr ?_; (case ho => rfl); (case hg => rfl); (case hn => rfl); (case hr => first | (go_simp; done) | (go_simp; rfl)); intro w10 hw; have HS10 := Aside0.mk (HS9.out.cut hB hw); clear hw; clear hx0 hx1 hx2 hx3 hx4 hx5 hx6; obtain ⟨hx0, hx1, hx2, hx3, hx4, hx5, hx6⟩ := HS10.out.cells; skip)
         go_roundg k1
         case measure => omega
         case rel => exact ⟨i + 1, _, _, _, _, _, by go_num, HS10, HR, ⟨by have := HK.out; omega⟩⟩
      ·
       rw [if_neg hol] at H
       cases H
   ·
    rw [if_neg hlt] at H
    obtain rfl := Option.some.inj H
    have hltz : decide ((i : Int) < (n : Int)) = false := decide_eq_false (by omega)
    have hltz2 : decide (i < n) = false := decide_eq_false hlt
    clear H hlt
    go_wp2
    refine bodyPost_end (results_none rfl _ _ _) rfl ?_
    exact ⟨rfl, _, _, by have h2 := HS.out; exact h2⟩

theorem srI_calls (w0 : World) (B : Nat) (A0 : Option Addr) (n c0 : Nat) (l : List S43) (g : Int) (c : Bool) (hn : l.length = n) (hB : w0.heap.size ≤ B) (hl : Kd.C k43 w0 A0 n l) (hc0 : n ≤ c0) (k : Nat) :
  ∀ m, m ≤ k → ∀ (w : World) bud vo vb least ord best r, SxI w0 w B A0 n c0 g c bud vo vb least ord best → srI m l g c none bud best least ord = some r → Calls Try.prog 84 #[.pointer (some ⟨B, 0, none⟩)] w fun e w' => e = .returned (.tuple #[]) ∧ SxR w0 w' B A0 n c0 g c r ord := by
 subst hn
 induction k with
 | zero =>
  intro m hm w bud vo vb least ord best r hs h
  obtain rfl : m = 0 := by omega
  exact absurd h (by simp [srI])
 | succ k ih =>
  intro m hm w bud vo vb least ord best r hs h
  cases m with
  | zero => exact absurd h (by simp [srI])
  | succ m =>
   by_cases he : ord.length = l.length
   ·
    exact srI_leaf m w0 w B A0 c0 l g c bud vo vb least ord best r hB hl hc0 hs he h
   ·
    simp only [srI, if_neg he] at h
    exact srI_loop w0 B A0 l.length c0 l g c m rfl (Kd.C_max hl) hB (fun m2 h2 => ih m2 (by omega)) w bud vo vb least ord best r hs he h


def impl_BestOrder.f (k : Nat) (l0 : List S43) : Option (List Int × Int × Int) := (impl_ValidRepairs.f k l0).bind fun t => if t = true then ((srI k l0 1 false none 0 [] (-1) []).bind fun st => some (st.2.1, st.2.2, 0)) else some ([], 0, 1)
theorem impl_BestOrder.mono : ∀ a0 k, LeO (impl_BestOrder.f k a0) (impl_BestOrder.f (k + 1) a0) := by
 intro a0 k
 unfold impl_BestOrder.f
 repeat' first
 | (with_reducible exact srI.mono _ _ _ _ _ _ _ _ _)
 | (with_reducible exact impl_ValidRepairs.mono _ _)
 | (with_reducible exact LeO.refl _)
 | (with_reducible exact LeO.none _)
 | (with_reducible refine LeO.ite ?_ ?_)
 | (with_reducible refine LeO.bind ?_ (fun _ => ?_))
set_option maxHeartbeats 4000000 in
set_option maxRecDepth 100000 in
theorem impl_BestOrder.calls (k : Nat) (A0 : Option Addr) (c0 : Nat) (l0 : List S43) (r1 : List Int) (r2 : Int) (r3 : Int) (w : World) (hr0 : Kd.C k43 w A0 l0.length l0) (hc0 : l0.length ≤ c0) (h : impl_BestOrder.f k l0 = some (r1, r2, r3)) :
  Calls Try.prog 26 #[.slice A0 l0.length c0] w fun e w' => ∃ v0_ : Value, e = .returned (.tuple #[v0_, .int .i64 r2, .int .i64 r3]) ∧ Kd.R (Kd.int .i64) 2 w' w.heap.size (fun _ => True) v0_ r1 ∧ Below w.heap.size w w' := by
 unfold impl_BestOrder.f at h
 obtain ⟨n, hn⟩ : ∃ n, l0.length = n := ⟨_, rfl⟩
 have HN := Aside0.mk hn
 have HR0 := Aside0.mk hr0
 have HC0 := Aside0.mk hc0
 rw [hn]
 clear hr0 hc0 hn
 obtain ⟨t, ht, h⟩ := Option.bind_eq_some_iff.mp h
 have HT := Aside0.mk ht
 clear ht
 cases t with
 | false =>
  simp only [Bool.false_eq_true, if_false, Option.some.injEq, Prod.mk.injEq] at h
  obtain ⟨rfl, rfl, rfl⟩ := h
  have HVC := fun W (hr : Kd.C k43 W A0 l0.length l0) => impl_ValidRepairs.calls k A0 c0 l0 false W hr HC0.out HT.out
  rw [HN.out] at HVC HR0
  have HV_ := Aside0.mk HVC
  clear HVC
  go_enter Try.func26, Try.ntmps26
  go_wp2_with (go_at_call 83; refine (HV_.out _ HR0.out).mono ?_; rintro e w1 ⟨rfl, hb⟩; have B1 := Aside0.mk hb; clear hb)
  go_ret3
  exact ⟨_, rfl, Kd.R_nil _ _ _ _ _, B1.out⟩
 | true =>
  simp only [if_true] at h
  obtain ⟨st, hst, h⟩ := Option.bind_eq_some_iff.mp h
  simp only [Option.some.injEq, Prod.mk.injEq] at h
  obtain ⟨rfl, rfl, rfl⟩ := h
  have HST := Aside0.mk hst
  have HVC := fun W (hr : Kd.C k43 W A0 l0.length l0) => impl_ValidRepairs.calls k A0 c0 l0 true W hr HC0.out HT.out
  rw [HN.out] at HVC HR0 HC0
  have HV_ := Aside0.mk HVC
  clear HVC hst
  go_enter Try.func26, Try.ntmps26
  go_wp2_with (first | (go_at_call 83; refine (HV_.out _ HR0.out).mono ?_; rintro e w1 ⟨rfl, hb⟩; have B1 := Aside0.mk hb; clear hb) | ((with_reducible refine gate_dst (N := 5) rfl ?_); refine box_event ?hg (N := 5) ?hd (cs := #[.slice none 0 0, .int .i64 0, .bool false, .int .i64 0, .slice none 0 0, .slice none 0 0, .int .i64 0]) (t := 127) ?hr ?_; (case hd => rfl); (case hg => rfl); (case hr => first | (go_simp; done) | (go_simp; rfl)); intro B hgB w5 hbox hb; have BX5 := Aside0.mk hbox; have B5 := Aside0.mk (B1.out.trans (hb.mono B1.out.size)); have BG := Aside0.mk (show w.heap.size ≤ B by rw [hgB]; exact B1.out.size); have hcz_0 : w5.cell? ⟨B, 0, none⟩ = some (.slice none 0 0) := (blk_cell hbox 0).trans rfl; have hfz_0 := blk_frozen hbox 0; have hcz_1 : w5.cell? ⟨B, 1, none⟩ = some (.int .i64 0) := (blk_cell hbox 1).trans rfl; have hfz_1 := blk_frozen hbox 1; have hcz_2 : w5.cell? ⟨B, 2, none⟩ = some (.bool false) := (blk_cell hbox 2).trans rfl; have hfz_2 := blk_frozen hbox 2; have hcz_3 : w5.cell? ⟨B, 3, none⟩ = some (.int .i64 0) := (blk_cell hbox 3).trans rfl; have hfz_3 := blk_frozen hbox 3; have hcz_4 : w5.cell? ⟨B, 4, none⟩ = some (.slice none 0 0) := (blk_cell hbox 4).trans rfl; have hfz_4 := blk_frozen hbox 4; have hcz_5 : w5.cell? ⟨B, 5, none⟩ = some (.slice none 0 0) := (blk_cell hbox 5).trans rfl; have hfz_5 := blk_frozen hbox 5; have hcz_6 : w5.cell? ⟨B, 6, none⟩ = some (.int .i64 0) := (blk_cell hbox 6).trans rfl; have hfz_6 := blk_frozen hbox 6; clear hgB hbox hb) | ((with_reducible refine gate_store (t := 127) (p := 5) rfl ?_); refine store_event (t := 127) (p := 5) (v := ?vo_w7) (w1 := (((((((w5.setCell ⟨B, 0, none⟩ (.slice A0 n c0)).setCell ⟨B, 1, none⟩ (.int .i64 1)).setCell ⟨B, 2, none⟩ (.bool false)).setCell ⟨B, 3, none⟩ (.int .i64 0)).setCell ⟨B, 4, none⟩ (.slice none 0 0)).setCell ⟨B, 5, none⟩ (.slice none 0 0)).setCell ⟨B, 6, none⟩ (.int .i64 (-1)))) ?hg ?ho ?hn ?hr ?_; (case ho => rfl); (case hg => rfl); (case hn => rfl); (case hr => first | (go_simp; done) | (go_simp; rfl)); intro w7 hw; have HS7 := Aside0.mk (show SxI w w7 B A0 n c0 1 false 0 (.slice none 0 0) (.slice none 0 0) (-1) [] [] from ⟨by rw [hw]; exact (blk_put (blk_put (blk_put (blk_put (blk_put (blk_put (blk_put BX5.out 0 (.slice A0 n c0) rfl) 1 (.int .i64 1) rfl) 2 (.bool false) rfl) 3 (.int .i64 0) rfl) 4 (.slice none 0 0) rfl) 5 (.slice none 0 0) rfl) 6 (.int .i64 (-1)) rfl), Kd.R_nil _ _ _ _ _, Kd.R_nil _ _ _ _ _, by rw [hw]; exact (below_set (below_set (below_set (below_set (below_set (below_set (below_set B5.out BG.out) BG.out) BG.out) BG.out) BG.out) BG.out) BG.out)⟩); clear hw hcz_0 hfz_0 hcz_1 hfz_1 hcz_2 hfz_2 hcz_3 hfz_3 hcz_4 hfz_4 hcz_5 hfz_5 hcz_6 hfz_6) | (go_at_call 84; refine (srI_calls w B A0 n c0 l0 1 false HN.out BG.out HR0.out HC0.out k k (Nat.le_refl _) w7 _ _ _ _ _ _ _ HS7.out HST.out).mono ?_; rintro e w8 ⟨rfl, vo8, vb8, hs8⟩; obtain ⟨A8, c8, rfl⟩ := Kd.R_slice hs8.b; have HS8 := Aside0.mk hs8; obtain ⟨_, _, _, hx3, _, hx5, hx6⟩ := hs8.cells; clear hs8))
  go_quiet (fail)
  try go_wp2
  go_ret3
  refine ⟨_, rfl, Kd.R_drewN (Kd.R_mono HS8.out.b (fun _ _ => trivial)) _, pw_below_drewN HS8.out.bel _⟩

/-! ### spec_l20DrawGangs: function 85 -/
def spec_l20DrawGangs.f (s0_0 : List Int) (s0_1 : Int) (s0_2 : Int) : Option (Int × Int × Int) := (spec_l00Src_among.f s0_0 s0_1 s0_2 (([1, 2, 3, 2, 0, 4] : List Int))).bind fun bt332 => (some (bt332.1, bt332.2.1, bt332.2.2))
set_option maxHeartbeats 8000000 in
set_option maxRecDepth 100000 in
theorem spec_l20DrawGangs.calls (g : Nat) (s0_0 : List Int) (s0_1 : Int) (s0_2 : Int) (r1 : Int) (r2 : Int) (r3 : Int) (w0 w : World) (hI : IsS210 w0 w g s0_0 s0_1 s0_2) (hB : Below w0.heap.size w0 w) (h : spec_l20DrawGangs.f s0_0 s0_1 s0_2 = some (r1, r2, r3)) :
  Calls Try.prog 85 #[.pointer (some ⟨g, 0, none⟩)] w fun e w' => e = .returned (.int .i64 r1) ∧ IsS210 w0 w' g s0_0 r2 r3 ∧ Below w0.heap.size w0 w' ∧ KeepBut w w' g none := by
 have HI0 := Aside0.mk hI
 have HK := Aside0.mk (KeepBut.refl w g none)
 have HL := Aside0.mk hB.size
 clear hI
 have HW0 := Aside0.mk hB.size
 have HB := Aside0.mk hB
 clear hB
 have H : ((spec_l00Src_among.f s0_0 s0_1 s0_2 (([1, 2, 3, 2, 0, 4] : List Int))).bind fun bt332 => (some (bt332.1, bt332.2.1, bt332.2.2))) = some (r1, r2, r3) := h
 clear h
 obtain ⟨y329, hy329⟩ : ∃ y_ : List Int, y_ = (([1, 2, 3, 2, 0, 4] : List Int)) := ⟨_, rfl⟩
 replace H : ((spec_l00Src_among.f s0_0 s0_1 s0_2 y329).bind fun bt332 => (some (bt332.1, bt332.2.1, bt332.2.2))) = some (r1, r2, r3) := by first | (rw [hy329]; with_reducible exact H) | (have H2_ := (Option.bind_some _ _).symm.trans H; rw [hy329]; with_reducible exact H2_) | (have H2_ := (Option.bind_some _ _).symm.trans H; with_reducible exact H2_) | with_reducible exact H | (rw [hy329]; exact H) | exact H
 have Ny329 := Aside0.mk hy329
 clear hy329
 replace H := Option.bind_eq_some_iff.mp H
 obtain ⟨⟨t332, t333, t334⟩, A20, H⟩ := H
 replace H : (some (t332, t333, t334)) = some (r1, r2, r3) := H
 have A2 := Aside0.mk A20
 clear A20
 simp only [Option.some.injEq, Prod.mk.injEq] at H
 obtain ⟨rfl, rfl, rfl⟩ := H
 go_enter Try.func85, Try.ntmps85
 go_wp2_with (first | ((with_reducible refine gate_dst (N := 4) rfl ?_); refine Kd.R_lit (Kd.int .i64) _ 2 ?hg (N := 4) ?hd (xs := ([1, 2, 3, 2, 0, 4] : List Int)) (inner := [.int .i64 1, .int .i64 2, .int .i64 3, .int .i64 2, .int .i64 0, .int .i64 4]) (ok := fun _ => True) (okp := fun _ => True) ?hr ?hp (fun _ hk => hk) trivial (Below.refl _ _) (Nat.le_refl _) (by simp) ?_; (case hd => rfl); (case hg => rfl); (case hr => first | (go_simp; done) | (go_simp; rfl)); (case hp => exact (Reps.one (show Kd.M (Kd.int .i64) _ _ _ 1 [.int .i64 1] from rfl) (Reps.one (show Kd.M (Kd.int .i64) _ _ _ 2 [.int .i64 2] from rfl) (Reps.one (show Kd.M (Kd.int .i64) _ _ _ 3 [.int .i64 3] from rfl) (Reps.one (show Kd.M (Kd.int .i64) _ _ _ 2 [.int .i64 2] from rfl) (Reps.one (show Kd.M (Kd.int .i64) _ _ _ 0 [.int .i64 0] from rfl) (Reps.one (show Kd.M (Kd.int .i64) _ _ _ 4 [.int .i64 4] from rfl) (Reps.none _ _)))))))); intro v330 w3 ho4 hb hg_ hnew_; clear hg_ hnew_; (first | rw [← Ny329.out] at ho4 | (simp only [Int.reduceToNat] at ho4; rw [← Ny329.out] at ho4)); have n0_ := Aside0.mk (Kd.R_lower ho4 (keep_size (w := w) (g := g) (row := none) (by repeat (first | (with_reducible first | exact HK.out | apply KeepBut.set_ | apply keep_drewN | apply keep_drew | apply keep_alloc) | exact HK.out)))); have n1_ := Aside0.mk (IsS210.below (by repeat (first | (with_reducible first | exact HI0.out | apply IsS210.alloc | apply IsS210.drewN | apply IsS210.drew | apply IsS210.set_1 | apply IsS210.set_2) | exact HI0.out)) hb); have n2_ := Aside0.mk (KeepBut.trans (by repeat (first | (with_reducible first | exact HK.out | apply KeepBut.set_ | apply keep_drewN | apply keep_drew | apply keep_alloc) | exact HK.out)) (KeepBut.of_below hb g none) (.inl rfl)); have n3_ := Aside0.mk (below_step (by repeat (first | (with_reducible first | exact HB.out | apply below_alloc | apply pw_below_drewN | apply below_drew1 | refine below_set ?_ (IsS210.ge HI0.out)) | exact HB.out)) hb); clear HI0; clear HK; clear HB; have HO331 := n0_; have HI0 := n1_; have HK := n2_; have HB := n3_; clear n0_ n1_ n2_ n3_; clear hb ho4; obtain ⟨Ao5, co5, eo5⟩ := Kd.R_slice HO331.out; subst eo5) | ((with_reducible refine gate_callee (f := 86) rfl ?_); refine goesL_ (some 5) rfl rfl Try.func86 (by kernel_rfl) rfl #[.pointer (some ⟨g, 0, none⟩), .slice Ao5 y329.length co5] rfl (by (try simp only [List.map_toArray, List.map_cons, List.map_nil]); first | done | rfl | (simp only [List.length_drop, List.length_take]; rfl)) ?_; (with_reducible refine (spec_l00Src_among.calls g s0_0 s0_1 s0_2 _ _ y329 t332 t333 t334 w0 _ ?side1 ?side2 ?side3 ?side4 ?side5 A2.out).mono ?_); (case side1 => repeat (first | (with_reducible first | exact HI0.out | apply IsS210.alloc | apply IsS210.drewN | apply IsS210.drew | apply IsS210.set_1 | apply IsS210.set_2) | exact HI0.out)); (case side2 => repeat (first | (with_reducible first | exact HB.out | apply below_alloc | apply pw_below_drewN | apply below_drew1 | refine below_set ?_ (IsS210.ge HI0.out)) | exact HB.out)); (case side3 => repeat (first | exact (Kd.R_reads' HO331.out).2.2 | (with_reducible refine Kd.C_alloc ?_ _) | (with_reducible refine Kd.C_drewN ?_ _) | (with_reducible refine Kd.C_drew ?_))); (case side4 => exact (Kd.R_reads' HO331.out).2.1); (case side5 => exact far_slice (IsS210.own_ne HI0.out HO331.out (by decide))); rintro e w6 ⟨rfl, hi, hb, hk⟩; refine ⟨_, rfl, ?_⟩; have n0_ := Aside0.mk (Kd.R_mono (Kd.R_keep (IsS210.apart (show IsS210 w0 _ g s0_0 s0_1 s0_2 from by repeat (first | (with_reducible first | exact HI0.out | apply IsS210.alloc | apply IsS210.drewN | apply IsS210.drew | apply IsS210.set_1 | apply IsS210.set_2) | exact HI0.out)) (by (with_reducible repeat (first | apply Kd.R_alloc | apply Kd.R_drewN | apply Kd.R_drew)); exact HO331.out) (by decide)) hk (fun _ h => h.2)) (fun _ h => h.1)); have n1_ := Aside0.mk (KeepBut.trans (by repeat (first | (with_reducible first | exact HK.out | apply KeepBut.set_ | apply keep_drewN | apply keep_drew | apply keep_alloc) | exact HK.out)) hk (.inl rfl)); have n2_ := Aside0.mk (hb); have n3_ := Aside0.mk (hi); clear HO331; clear HK; clear HB; clear HI0; have HO331 := n0_; have HK := n1_; have HB := n2_; have HI0 := n3_; clear n0_ n1_ n2_ n3_; (try clear hb); (try clear hb2); (try clear hk); (try clear hi)))
 go_ret
 exact ⟨by first | rfl | (simp [errW_none, errW_some] <;> rfl) | (simp [*, errW_none, errW_some] <;> rfl), by (try simp only [Int.add_zero]); repeat (first | (with_reducible first | exact HI0.out | apply IsS210.alloc | apply IsS210.drewN | apply IsS210.drew | apply IsS210.set_1 | apply IsS210.set_2) | exact HI0.out), by repeat (first | (with_reducible first | exact HB.out | apply below_alloc | apply pw_below_drewN | apply below_drew1 | refine below_set ?_ (IsS210.ge HI0.out)) | exact HB.out), by repeat (first | (with_reducible first | exact HK.out | apply KeepBut.set_ | apply keep_drewN | apply keep_drew | apply keep_alloc) | exact HK.out)⟩

/-! ### spec_DrawBestGangs: function 27 -/
def spec_DrawBestGangs.f (k : Nat) (l0 : List Int) : Option ((List (S43)) × Int × Int) := (spec_l00From.f l0).bind fun bt335 => ((spec_l20Draw.f k bt335.1 bt335.2.1 bt335.2.2).bind fun bt339 => ((spec_l20DrawGangs.f bt335.1 bt339.2.1 bt339.2.2).bind fun bt344 => ((spec_l00Src_among.f bt335.1 bt344.2.1 bt344.2.2 (([1, 20, 100, 400, 2000, 0, 20001] : List Int))).bind fun bt350 => (some (bt339.1, bt344.1, bt350.1)))))
theorem spec_DrawBestGangs.mono : ∀ a0 k, LeO (spec_DrawBestGangs.f k a0) (spec_DrawBestGangs.f (k + 1) a0) := by
 intro a0 k
 unfold spec_DrawBestGangs.f
 repeat' first
   | (with_reducible exact spec_l20Draw.mono _ _ _ _)
   | (with_reducible exact LeO.refl _)
   | (with_reducible exact LeO.none _)
   | (with_reducible refine LeO.ite ?_ ?_)
   | (with_reducible refine LeO.bind ?_ (fun _ => ?_))
   | exact spec_l20Draw.mono _ _ _ _
   | exact LeO.none _
   | refine LeO.ite ?_ ?_
   | refine LeO.bind ?_ (fun _ => ?_)
set_option maxHeartbeats 8000000 in
set_option maxRecDepth 100000 in
theorem spec_DrawBestGangs.calls (k : Nat) (A0 : Option Addr) (c0 : Nat) (l0 : List Int) (r1 : List (S43)) (r2 : Int) (r3 : Int) (w : World) (hr0 : Kd.C (Kd.int .u8) w A0 l0.length l0) (hc0 : l0.length ≤ c0) (h : spec_DrawBestGangs.f k l0 = some (r1, r2, r3)) :
  Calls Try.prog 27 #[.slice A0 l0.length c0] w fun e w' => ∃ v0_ : Value, e = .returned (.tuple #[v0_, .int .i64 r2, .int .i64 r3]) ∧ Kd.R k43 43 w' w.heap.size (fun _ => True) v0_ r1 ∧ Below w.heap.size w w' := by
 have HR0 := Aside0.mk hr0
 have HC0 := Aside0.mk hc0
 clear hr0 hc0
 have HB := Aside0.mk (Below.refl w.heap.size w)
 have H : ((spec_l00From.f l0).bind fun bt335 => ((spec_l20Draw.f k bt335.1 bt335.2.1 bt335.2.2).bind fun bt339 => ((spec_l20DrawGangs.f bt335.1 bt339.2.1 bt339.2.2).bind fun bt344 => ((spec_l00Src_among.f bt335.1 bt344.2.1 bt344.2.2 (([1, 20, 100, 400, 2000, 0, 20001] : List Int))).bind fun bt350 => (some (bt339.1, bt344.1, bt350.1)))))) = some (r1, r2, r3) := h
 clear h
 replace H := Option.bind_eq_some_iff.mp H
 obtain ⟨⟨t335, t336, t337⟩, A20, H⟩ := H
 replace H : ((spec_l20Draw.f k t335 t336 t337).bind fun bt339 => ((spec_l20DrawGangs.f t335 bt339.2.1 bt339.2.2).bind fun bt344 => ((spec_l00Src_among.f t335 bt344.2.1 bt344.2.2 (([1, 20, 100, 400, 2000, 0, 20001] : List Int))).bind fun bt350 => (some (bt339.1, bt344.1, bt350.1))))) = some (r1, r2, r3) := H
 have A2 := Aside0.mk A20
 clear A20
 replace H := Option.bind_eq_some_iff.mp H
 obtain ⟨⟨t339, t342, t343⟩, A30, H⟩ := H
 replace H : ((spec_l20DrawGangs.f t335 t342 t343).bind fun bt344 => ((spec_l00Src_among.f t335 bt344.2.1 bt344.2.2 (([1, 20, 100, 400, 2000, 0, 20001] : List Int))).bind fun bt350 => (some (t339, bt344.1, bt350.1)))) = some (r1, r2, r3) := H
 have A3 := Aside0.mk A30
 clear A30
 replace H := Option.bind_eq_some_iff.mp H
 obtain ⟨⟨t344, t345, t346⟩, A40, H⟩ := H
 replace H : ((spec_l00Src_among.f t335 t345 t346 (([1, 20, 100, 400, 2000, 0, 20001] : List Int))).bind fun bt350 => (some (t339, t344, bt350.1))) = some (r1, r2, r3) := H
 have A4 := Aside0.mk A40
 clear A40
 obtain ⟨y347, hy347⟩ : ∃ y_ : List Int, y_ = (([1, 20, 100, 400, 2000, 0, 20001] : List Int)) := ⟨_, rfl⟩
 replace H : ((spec_l00Src_among.f t335 t345 t346 y347).bind fun bt350 => (some (t339, t344, bt350.1))) = some (r1, r2, r3) := by first | (rw [hy347]; with_reducible exact H) | (have H2_ := (Option.bind_some _ _).symm.trans H; rw [hy347]; with_reducible exact H2_) | (have H2_ := (Option.bind_some _ _).symm.trans H; with_reducible exact H2_) | with_reducible exact H | (rw [hy347]; exact H) | exact H
 have Ny347 := Aside0.mk hy347
 clear hy347
 replace H := Option.bind_eq_some_iff.mp H
 obtain ⟨⟨t350, t351, t352⟩, A50, H⟩ := H
 replace H : (some (t339, t344, t350)) = some (r1, r2, r3) := H
 have A5 := Aside0.mk A50
 clear A50
 simp only [Option.some.injEq, Prod.mk.injEq] at H
 obtain ⟨rfl, rfl, rfl⟩ := H
 go_enter Try.func27, Try.ntmps27
 go_wp2_with (first | ((with_reducible refine gate_callee (f := 79) rfl ?_); refine goesL_ (some 9) rfl rfl Try.func79 (by kernel_rfl) rfl #[.slice A0 l0.length c0] rfl (by (try simp only [List.map_toArray, List.map_cons, List.map_nil]); first | done | rfl | (simp only [List.length_drop, List.length_take]; rfl)) ?_; (with_reducible refine (spec_l00From.calls _ _ l0 t335 t336 t337 w _ ?side1 ?side2 ?side3 A2.out).mono ?_); (case side1 => repeat (first | (with_reducible first | exact HB.out | apply below_alloc | apply pw_below_drewN | apply below_drew1) | exact HB.out)); (case side2 => exact HR0.out); (case side3 => exact HC0.out); rintro e w6 ⟨g338, rfl, hi, hb, hb2⟩; refine ⟨_, rfl, ?_⟩; have n0_ := Aside0.mk (hb); have n1_ := Aside0.mk (hi); clear HB; have HB := n0_; have HI338 := n1_; clear n0_ n1_; (try clear hb); (try clear hb2); (try clear hk); (try clear hi)) | ((with_reducible refine gate_callee (f := 80) rfl ?_); refine goesL_ (some 11) rfl rfl Try.func80 (by kernel_rfl) rfl #[.pointer (some ⟨g338, 0, none⟩)] rfl (by (try simp only [List.map_toArray, List.map_cons, List.map_nil]); first | done | rfl | (simp only [List.length_drop, List.length_take]; rfl)) ?_; (with_reducible refine (spec_l20Draw.calls k g338 t335 t336 t337 t339 t342 t343 w _ ?side1 ?side2 A3.out).mono ?_); (case side1 => repeat (first | (with_reducible first | exact HI338.out | apply IsS210.alloc | apply IsS210.drewN | apply IsS210.drew | apply IsS210.set_1 | apply IsS210.set_2) | exact HI338.out)); (case side2 => repeat (first | (with_reducible first | exact HB.out | apply below_alloc | apply pw_below_drewN | apply below_drew1 | refine below_set ?_ (IsS210.ge HI338.out)) | exact HB.out)); rintro e w7 ⟨v340, rfl, ho0, hi, hb, hk⟩; refine ⟨_, rfl, ?_⟩; have n0_ := Aside0.mk (Kd.R_lower ho0 (below_size (by repeat (first | (with_reducible first | exact HB.out | apply below_alloc | apply pw_below_drewN | apply below_drew1 | refine below_set ?_ (IsS210.ge HI338.out)) | exact HB.out)))); have n1_ := Aside0.mk (hb); have n2_ := Aside0.mk (hi); clear HB; clear HI338; have HO341 := n0_; have HB := n1_; have HI338 := n2_; clear n0_ n1_ n2_; (try clear hb); (try clear hb2); (try clear hk); (try clear hi); (try clear ho0)) | ((with_reducible refine gate_callee (f := 85) rfl ?_); refine goesL_ (some 13) rfl rfl Try.func85 (by kernel_rfl) rfl #[.pointer (some ⟨g338, 0, none⟩)] rfl (by (try simp only [List.map_toArray, List.map_cons, List.map_nil]); first | done | rfl | (simp only [List.length_drop, List.length_take]; rfl)) ?_; (with_reducible refine (spec_l20DrawGangs.calls g338 t335 t342 t343 t344 t345 t346 w _ ?side1 ?side2 A4.out).mono ?_); (case side1 => repeat (first | (with_reducible first | exact HI338.out | apply IsS210.alloc | apply IsS210.drewN | apply IsS210.drew | apply IsS210.set_1 | apply IsS210.set_2) | exact HI338.out)); (case side2 => repeat (first | (with_reducible first | exact HB.out | apply below_alloc | apply pw_below_drewN | apply below_drew1 | refine below_set ?_ (IsS210.ge HI338.out)) | exact HB.out)); rintro e w8 ⟨rfl, hi, hb, hk⟩; refine ⟨_, rfl, ?_⟩; have n0_ := Aside0.mk (Kd.R_mono (Kd.R_keep (IsS210.apart (show IsS210 w _ g338 t335 t342 t343 from by repeat (first | (with_reducible first | exact HI338.out | apply IsS210.alloc | apply IsS210.drewN | apply IsS210.drew | apply IsS210.set_1 | apply IsS210.set_2) | exact HI338.out)) (by (with_reducible repeat (first | apply Kd.R_alloc | apply Kd.R_drewN | apply Kd.R_drew)); exact HO341.out) (by decide)) hk (fun _ h => h.2)) (fun _ h => h.1)); have n1_ := Aside0.mk (hb); have n2_ := Aside0.mk (hi); clear HO341; clear HB; clear HI338; have HO341 := n0_; have HB := n1_; have HI338 := n2_; clear n0_ n1_ n2_; (try clear hb); (try clear hb2); (try clear hk); (try clear hi)) | ((with_reducible refine gate_dst (N := 17) rfl ?_); refine Kd.R_lit (Kd.int .i64) _ 2 ?hg (N := 17) ?hd (xs := ([1, 20, 100, 400, 2000, 0, 20001] : List Int)) (inner := [.int .i64 1, .int .i64 20, .int .i64 100, .int .i64 400, .int .i64 2000, .int .i64 0, .int .i64 20001]) (ok := fun _ => True) (okp := fun _ => True) ?hr ?hp (fun _ hk => hk) trivial (Below.refl _ _) (Nat.le_refl _) (by simp) ?_; (case hd => rfl); (case hg => rfl); (case hr => first | (go_simp; done) | (go_simp; rfl)); (case hp => exact (Reps.one (show Kd.M (Kd.int .i64) _ _ _ 1 [.int .i64 1] from rfl) (Reps.one (show Kd.M (Kd.int .i64) _ _ _ 20 [.int .i64 20] from rfl) (Reps.one (show Kd.M (Kd.int .i64) _ _ _ 100 [.int .i64 100] from rfl) (Reps.one (show Kd.M (Kd.int .i64) _ _ _ 400 [.int .i64 400] from rfl) (Reps.one (show Kd.M (Kd.int .i64) _ _ _ 2000 [.int .i64 2000] from rfl) (Reps.one (show Kd.M (Kd.int .i64) _ _ _ 0 [.int .i64 0] from rfl) (Reps.one (show Kd.M (Kd.int .i64) _ _ _ 20001 [.int .i64 20001] from rfl) (Reps.none _ _))))))))); intro v348 w9 ho10 hb hg_ hnew_; clear hg_ hnew_; (first | rw [← Ny347.out] at ho10 | (simp only [Int.reduceToNat] at ho10; rw [← Ny347.out] at ho10)); have n0_ := Aside0.mk (Kd.R_below (by (with_reducible repeat (first | apply Kd.R_alloc | apply Kd.R_drewN | apply Kd.R_drew)); exact HO341.out) hb); have n1_ := Aside0.mk (Kd.R_lower ho10 (below_size (by repeat (first | (with_reducible first | exact HB.out | apply below_alloc | apply pw_below_drewN | apply below_drew1 | refine below_set ?_ (IsS210.ge HI338.out)) | exact HB.out)))); have n2_ := Aside0.mk (IsS210.below (by repeat (first | (with_reducible first | exact HI338.out | apply IsS210.alloc | apply IsS210.drewN | apply IsS210.drew | apply IsS210.set_1 | apply IsS210.set_2) | exact HI338.out)) hb); have n3_ := Aside0.mk (below_step (by repeat (first | (with_reducible first | exact HB.out | apply below_alloc | apply pw_below_drewN | apply below_drew1 | refine below_set ?_ (IsS210.ge HI338.out)) | exact HB.out)) hb); clear HO341; clear HI338; clear HB; have HO341 := n0_; have HO349 := n1_; have HI338 := n2_; have HB := n3_; clear n0_ n1_ n2_ n3_; clear hb ho10; obtain ⟨Ao11, co11, eo11⟩ := Kd.R_slice HO349.out; subst eo11) | ((with_reducible refine gate_callee (f := 86) rfl ?_); refine goesL_ (some 18) rfl rfl Try.func86 (by kernel_rfl) rfl #[.pointer (some ⟨g338, 0, none⟩), .slice Ao11 y347.length co11] rfl (by (try simp only [List.map_toArray, List.map_cons, List.map_nil]); first | done | rfl | (simp only [List.length_drop, List.length_take]; rfl)) ?_; (with_reducible refine (spec_l00Src_among.calls g338 t335 t345 t346 _ _ y347 t350 t351 t352 w _ ?side1 ?side2 ?side3 ?side4 ?side5 A5.out).mono ?_); (case side1 => repeat (first | (with_reducible first | exact HI338.out | apply IsS210.alloc | apply IsS210.drewN | apply IsS210.drew | apply IsS210.set_1 | apply IsS210.set_2) | exact HI338.out)); (case side2 => repeat (first | (with_reducible first | exact HB.out | apply below_alloc | apply pw_below_drewN | apply below_drew1 | refine below_set ?_ (IsS210.ge HI338.out)) | exact HB.out)); (case side3 => repeat (first | exact (Kd.R_reads' HO349.out).2.2 | (with_reducible refine Kd.C_alloc ?_ _) | (with_reducible refine Kd.C_drewN ?_ _) | (with_reducible refine Kd.C_drew ?_))); (case side4 => exact (Kd.R_reads' HO349.out).2.1); (case side5 => exact far_slice (IsS210.own_ne HI338.out HO349.out (by decide))); rintro e w12 ⟨rfl, hi, hb, hk⟩; refine ⟨_, rfl, ?_⟩; have n0_ := Aside0.mk (Kd.R_mono (Kd.R_keep (IsS210.apart (show IsS210 w _ g338 t335 t345 t346 from by repeat (first | (with_reducible first | exact HI338.out | apply IsS210.alloc | apply IsS210.drewN | apply IsS210.drew | apply IsS210.set_1 | apply IsS210.set_2) | exact HI338.out)) (by (with_reducible repeat (first | apply Kd.R_alloc | apply Kd.R_drewN | apply Kd.R_drew)); exact HO341.out) (by decide)) hk (fun _ h => h.2)) (fun _ h => h.1)); have n1_ := Aside0.mk (Kd.R_mono (Kd.R_keep (IsS210.apart (show IsS210 w _ g338 t335 t345 t346 from by repeat (first | (with_reducible first | exact HI338.out | apply IsS210.alloc | apply IsS210.drewN | apply IsS210.drew | apply IsS210.set_1 | apply IsS210.set_2) | exact HI338.out)) (by (with_reducible repeat (first | apply Kd.R_alloc | apply Kd.R_drewN | apply Kd.R_drew)); exact HO349.out) (by decide)) hk (fun _ h => h.2)) (fun _ h => h.1)); have n2_ := Aside0.mk (hb); have n3_ := Aside0.mk (hi); clear HO341; clear HO349; clear HB; clear HI338; have HO341 := n0_; have HO349 := n1_; have HB := n2_; have HI338 := n3_; clear n0_ n1_ n2_ n3_; (try clear hb); (try clear hb2); (try clear hk); (try clear hi)))
 go_ret3
 exact ⟨_, by first | rfl | (simp [errW_none, errW_some] <;> rfl) | (simp [*, errW_none, errW_some] <;> rfl), by (with_reducible repeat (first | apply Kd.R_alloc | apply Kd.R_drewN | apply Kd.R_drew)); exact HO341.out, by repeat (first | (with_reducible first | exact HB.out | apply below_alloc | apply pw_below_drewN | apply below_drew1 | refine below_set ?_ (IsS210.ge HI338.out)) | exact HB.out)⟩

/-! ### impl_budgetValid: function 88 -/
def impl_budgetValid.f (a0 : Int) : Option (Bool) := (impl_within.f a0 1 20000).bind fun t353 => (some t353)
set_option maxHeartbeats 8000000 in
set_option maxRecDepth 100000 in
theorem impl_budgetValid.calls (a0 : Int) (r : Bool) (w : World) (h : impl_budgetValid.f a0 = some r) :
  Calls Try.prog 88 #[.int .i64 a0] w fun e w' => e = .returned (.bool r) ∧ Drawn0 w w' := by
 have H : ((impl_within.f a0 1 20000).bind fun t353 => (some t353)) = some r := h
 clear h
 replace H := Option.bind_eq_some_iff.mp H
 obtain ⟨t353, A20, H⟩ := H
 replace H : (some t353) = some r := H
 have A2 := Aside0.mk A20
 clear A20
 obtain rfl := Option.some.inj H
 go_enter Try.func88, Try.ntmps88
 go_wp2_with (first | ((with_reducible refine gate_callee (f := 76) rfl ?_); refine goesL_ (some 4) rfl rfl Try.func76 (by kernel_rfl) rfl #[.int .i64 a0, .int .i64 1, .int .i64 20000] rfl (by (try simp only [List.map_toArray, List.map_cons, List.map_nil]); first | done | rfl | (simp only [List.length_drop, List.length_take]; rfl)) ?_; (with_reducible refine (impl_within.calls a0 1 20000 t353 _ A2.out).mono ?_); rintro e w' ⟨rfl, ⟨nd, rfl⟩⟩; refine ⟨_, rfl, ?_⟩))
 go_ret
 exact ⟨by first | rfl | (simp; done) | (simp [*]; done), by repeat (first | exact Drawn0.refl _ | apply Drawn0.step)⟩

/-! ### impl_BestGangs: function 28 -/
def impl_BestGangs.f (k : Nat) (l0 : List S43) (a1 a2 : Int) : Option (List Int × Int × Int) := (impl_ValidRepairs.f k l0).bind fun t => if t = true then ((impl_gangsOk.f a1).bind fun u => if u = true then ((impl_budgetValid.f a2).bind fun v => if v = true then ((srI k l0 a1 true none a2 [] (-1) []).bind fun st => if st.1 < 0 then some ([], 0, 5) else some (st.2.1, st.2.2, 0)) else some ([], 0, 2)) else some ([], 0, 2)) else some ([], 0, 1)
theorem impl_BestGangs.mono : ∀ a0 a1 a2 k, LeO (impl_BestGangs.f k a0 a1 a2) (impl_BestGangs.f (k + 1) a0 a1 a2) := by
 intro a0 a1 a2 k
 unfold impl_BestGangs.f
 repeat' first
 | (with_reducible exact srI.mono _ _ _ _ _ _ _ _ _)
 | (with_reducible exact impl_ValidRepairs.mono _ _)
 | (with_reducible exact LeO.refl _)
 | (with_reducible exact LeO.none _)
 | (with_reducible refine LeO.ite ?_ ?_)
 | (with_reducible refine LeO.bind ?_ (fun _ => ?_))
set_option maxHeartbeats 4000000 in
set_option maxRecDepth 100000 in
theorem impl_BestGangs.calls (k : Nat) (A0 : Option Addr) (c0 : Nat) (l0 : List S43) (a1 a2 : Int) (r1 : List Int) (r2 : Int) (r3 : Int) (w : World) (hr0 : Kd.C k43 w A0 l0.length l0) (hc0 : l0.length ≤ c0) (h : impl_BestGangs.f k l0 a1 a2 = some (r1, r2, r3)) :
  Calls Try.prog 28 #[.slice A0 l0.length c0, .int .i64 a1, .int .i64 a2] w fun e w' => ∃ v0_ : Value, e = .returned (.tuple #[v0_, .int .i64 r2, .int .i64 r3]) ∧ Kd.R (Kd.int .i64) 2 w' w.heap.size (fun _ => True) v0_ r1 ∧ Below w.heap.size w w' := by
 unfold impl_BestGangs.f at h
 obtain ⟨n, hn⟩ : ∃ n, l0.length = n := ⟨_, rfl⟩
 have HN := Aside0.mk hn
 have HR0 := Aside0.mk hr0
 have HC0 := Aside0.mk hc0
 rw [hn]
 clear hr0 hc0 hn
 obtain ⟨t, ht, h⟩ := Option.bind_eq_some_iff.mp h
 have HT := Aside0.mk ht
 clear ht
 cases t with
 | false =>
  simp only [Bool.false_eq_true, if_false, Option.some.injEq, Prod.mk.injEq] at h
  obtain ⟨rfl, rfl, rfl⟩ := h
  have HVC := fun W (hr : Kd.C k43 W A0 l0.length l0) => impl_ValidRepairs.calls k A0 c0 l0 false W hr HC0.out HT.out
  rw [HN.out] at HVC HR0 HC0
  have HV_ := Aside0.mk HVC
  clear HVC
  go_enter Try.func28, Try.ntmps28
  go_wp2_with (go_at_call 83; refine (HV_.out _ HR0.out).mono ?_; rintro e w1 ⟨rfl, hb⟩; have B1 := Aside0.mk hb; clear hb)
  go_ret3
  exact ⟨_, rfl, Kd.R_nil _ _ _ _ _, B1.out⟩
 | true =>
  simp only [if_true] at h
  have HVC := fun W (hr : Kd.C k43 W A0 l0.length l0) => impl_ValidRepairs.calls k A0 c0 l0 true W hr HC0.out HT.out
  rw [HN.out] at HVC HR0 HC0
  have HV_ := Aside0.mk HVC
  clear HVC
  obtain ⟨u, hu, h⟩ := Option.bind_eq_some_iff.mp h
  have HU := Aside0.mk hu
  clear hu
  cases u with
  | false =>
   simp only [Bool.false_eq_true, if_false, Option.some.injEq, Prod.mk.injEq] at h
   obtain ⟨rfl, rfl, rfl⟩ := h
   go_enter Try.func28, Try.ntmps28
   go_wp2_with (first | (go_at_call 83; refine (HV_.out _ HR0.out).mono ?_; rintro e w1 ⟨rfl, hb⟩; have B1 := Aside0.mk hb; clear hb) | (go_at_call 87; refine (impl_gangsOk.calls a1 false _ HU.out).mono ?_; rintro e w2 ⟨rfl, hd⟩; have B2 := Aside0.mk (B1.out.trans ((Drawn0.below hd).mono B1.out.size)); clear hd))
   go_ret3
   exact ⟨_, rfl, Kd.R_nil _ _ _ _ _, B2.out⟩
  | true =>
   simp only [if_true] at h
   obtain ⟨v, hv, h⟩ := Option.bind_eq_some_iff.mp h
   have HV := Aside0.mk hv
   clear hv
   cases v with
   | false =>
    simp only [Bool.false_eq_true, if_false, Option.some.injEq, Prod.mk.injEq] at h
    obtain ⟨rfl, rfl, rfl⟩ := h
    go_enter Try.func28, Try.ntmps28
    go_wp2_with (first | (go_at_call 83; refine (HV_.out _ HR0.out).mono ?_; rintro e w1 ⟨rfl, hb⟩; have B1 := Aside0.mk hb; clear hb) | (go_at_call 87; refine (impl_gangsOk.calls a1 true _ HU.out).mono ?_; rintro e w2 ⟨rfl, hd⟩; have B2 := Aside0.mk (B1.out.trans ((Drawn0.below hd).mono B1.out.size)); clear hd) | (go_at_call 88; refine (impl_budgetValid.calls a2 false _ HV.out).mono ?_; rintro e w3 ⟨rfl, hd⟩; have B3 := Aside0.mk (B2.out.trans ((Drawn0.below hd).mono B2.out.size)); clear hd))
    go_ret3
    exact ⟨_, rfl, Kd.R_nil _ _ _ _ _, B3.out⟩
   | true =>
    simp only [if_true] at h
    obtain ⟨st, hst, h⟩ := Option.bind_eq_some_iff.mp h
    have HST := Aside0.mk hst
    clear hst
    by_cases hsb : st.1 < 0
    ·
     rw [if_pos hsb] at h
     simp only [Option.some.injEq, Prod.mk.injEq] at h
     obtain ⟨rfl, rfl, rfl⟩ := h
     obtain ⟨s1, s2⟩ := st
     have hd1 : decide (s1 < 0) = true := decide_eq_true hsb
     clear hsb
     go_enter Try.func28, Try.ntmps28
     go_wp2_with (first | (go_at_call 83; refine (HV_.out _ HR0.out).mono ?_; rintro e w1 ⟨rfl, hb⟩; have B1 := Aside0.mk hb; clear hb) | (go_at_call 87; refine (impl_gangsOk.calls a1 true _ HU.out).mono ?_; rintro e w2 ⟨rfl, hd⟩; have B2 := Aside0.mk (B1.out.trans ((Drawn0.below hd).mono B1.out.size)); clear hd) | (go_at_call 88; refine (impl_budgetValid.calls a2 true _ HV.out).mono ?_; rintro e w3 ⟨rfl, hd⟩; have B3 := Aside0.mk (B2.out.trans ((Drawn0.below hd).mono B2.out.size)); clear hd) | ((with_reducible refine gate_dst (N := 9) rfl ?_); refine box_event ?hg (N := 9) ?hd (cs := #[.slice none 0 0, .int .i64 0, .bool false, .int .i64 0, .slice none 0 0, .slice none 0 0, .int .i64 0]) (t := 127) ?hr ?_; (case hd => rfl); (case hg => rfl); (case hr => first | (go_simp; done) | (go_simp; rfl)); intro B hgB w5 hbox hb; have BX5 := Aside0.mk hbox; have B5 := Aside0.mk (B3.out.trans (hb.mono B3.out.size)); have BG := Aside0.mk (show w.heap.size ≤ B by rw [hgB]; exact B3.out.size); have hcz_0 : w5.cell? ⟨B, 0, none⟩ = some (.slice none 0 0) := (blk_cell hbox 0).trans rfl; have hfz_0 := blk_frozen hbox 0; have hcz_1 : w5.cell? ⟨B, 1, none⟩ = some (.int .i64 0) := (blk_cell hbox 1).trans rfl; have hfz_1 := blk_frozen hbox 1; have hcz_2 : w5.cell? ⟨B, 2, none⟩ = some (.bool false) := (blk_cell hbox 2).trans rfl; have hfz_2 := blk_frozen hbox 2; have hcz_3 : w5.cell? ⟨B, 3, none⟩ = some (.int .i64 0) := (blk_cell hbox 3).trans rfl; have hfz_3 := blk_frozen hbox 3; have hcz_4 : w5.cell? ⟨B, 4, none⟩ = some (.slice none 0 0) := (blk_cell hbox 4).trans rfl; have hfz_4 := blk_frozen hbox 4; have hcz_5 : w5.cell? ⟨B, 5, none⟩ = some (.slice none 0 0) := (blk_cell hbox 5).trans rfl; have hfz_5 := blk_frozen hbox 5; have hcz_6 : w5.cell? ⟨B, 6, none⟩ = some (.int .i64 0) := (blk_cell hbox 6).trans rfl; have hfz_6 := blk_frozen hbox 6; clear hgB hbox hb) | ((with_reducible refine gate_store (t := 127) (p := 9) rfl ?_); refine store_event (t := 127) (p := 9) (v := ?vo_w7) (w1 := (((((((w5.setCell ⟨B, 0, none⟩ (.slice A0 n c0)).setCell ⟨B, 1, none⟩ (.int .i64 a1)).setCell ⟨B, 2, none⟩ (.bool true)).setCell ⟨B, 3, none⟩ (.int .i64 a2)).setCell ⟨B, 4, none⟩ (.slice none 0 0)).setCell ⟨B, 5, none⟩ (.slice none 0 0)).setCell ⟨B, 6, none⟩ (.int .i64 (-1)))) ?hg ?ho ?hn ?hr ?_; (case ho => rfl); (case hg => rfl); (case hn => rfl); (case hr => first | (go_simp; done) | (go_simp; rfl)); intro w7 hw; have HS7 := Aside0.mk (show SxI w w7 B A0 n c0 a1 true a2 (.slice none 0 0) (.slice none 0 0) (-1) [] [] from ⟨by rw [hw]; exact (blk_put (blk_put (blk_put (blk_put (blk_put (blk_put (blk_put BX5.out 0 (.slice A0 n c0) rfl) 1 (.int .i64 a1) rfl) 2 (.bool true) rfl) 3 (.int .i64 a2) rfl) 4 (.slice none 0 0) rfl) 5 (.slice none 0 0) rfl) 6 (.int .i64 (-1)) rfl), Kd.R_nil _ _ _ _ _, Kd.R_nil _ _ _ _ _, by rw [hw]; exact (below_set (below_set (below_set (below_set (below_set (below_set (below_set B5.out BG.out) BG.out) BG.out) BG.out) BG.out) BG.out) BG.out)⟩); clear hw hcz_0 hfz_0 hcz_1 hfz_1 hcz_2 hfz_2 hcz_3 hfz_3 hcz_4 hfz_4 hcz_5 hfz_5 hcz_6 hfz_6) | (go_at_call 84; refine (srI_calls w B A0 n c0 l0 a1 true HN.out BG.out HR0.out HC0.out k k (Nat.le_refl _) w7 _ _ _ _ _ _ _ HS7.out HST.out).mono ?_; rintro e w8 ⟨rfl, vo8, vb8, hs8⟩; obtain ⟨A8, c8, rfl⟩ := Kd.R_slice hs8.b; have HS8 := Aside0.mk hs8; obtain ⟨_, _, _, hx3, _, hx5, hx6⟩ := hs8.cells; clear hs8))
     go_ret3
     exact ⟨_, rfl, Kd.R_nil _ _ _ _ _, HS8.out.bel⟩
    ·
     rw [if_neg hsb] at h
     simp only [Option.some.injEq, Prod.mk.injEq] at h
     obtain ⟨rfl, rfl, rfl⟩ := h
     obtain ⟨s1, s2⟩ := st
     have hd1 : decide (s1 < 0) = false := decide_eq_false hsb
     clear hsb
     go_enter Try.func28, Try.ntmps28
     go_wp2_with (first | (go_at_call 83; refine (HV_.out _ HR0.out).mono ?_; rintro e w1 ⟨rfl, hb⟩; have B1 := Aside0.mk hb; clear hb) | (go_at_call 87; refine (impl_gangsOk.calls a1 true _ HU.out).mono ?_; rintro e w2 ⟨rfl, hd⟩; have B2 := Aside0.mk (B1.out.trans ((Drawn0.below hd).mono B1.out.size)); clear hd) | (go_at_call 88; refine (impl_budgetValid.calls a2 true _ HV.out).mono ?_; rintro e w3 ⟨rfl, hd⟩; have B3 := Aside0.mk (B2.out.trans ((Drawn0.below hd).mono B2.out.size)); clear hd) | ((with_reducible refine gate_dst (N := 9) rfl ?_); refine box_event ?hg (N := 9) ?hd (cs := #[.slice none 0 0, .int .i64 0, .bool false, .int .i64 0, .slice none 0 0, .slice none 0 0, .int .i64 0]) (t := 127) ?hr ?_; (case hd => rfl); (case hg => rfl); (case hr => first | (go_simp; done) | (go_simp; rfl)); intro B hgB w5 hbox hb; have BX5 := Aside0.mk hbox; have B5 := Aside0.mk (B3.out.trans (hb.mono B3.out.size)); have BG := Aside0.mk (show w.heap.size ≤ B by rw [hgB]; exact B3.out.size); have hcz_0 : w5.cell? ⟨B, 0, none⟩ = some (.slice none 0 0) := (blk_cell hbox 0).trans rfl; have hfz_0 := blk_frozen hbox 0; have hcz_1 : w5.cell? ⟨B, 1, none⟩ = some (.int .i64 0) := (blk_cell hbox 1).trans rfl; have hfz_1 := blk_frozen hbox 1; have hcz_2 : w5.cell? ⟨B, 2, none⟩ = some (.bool false) := (blk_cell hbox 2).trans rfl; have hfz_2 := blk_frozen hbox 2; have hcz_3 : w5.cell? ⟨B, 3, none⟩ = some (.int .i64 0) := (blk_cell hbox 3).trans rfl; have hfz_3 := blk_frozen hbox 3; have hcz_4 : w5.cell? ⟨B, 4, none⟩ = some (.slice none 0 0) := (blk_cell hbox 4).trans rfl; have hfz_4 := blk_frozen hbox 4; have hcz_5 : w5.cell? ⟨B, 5, none⟩ = some (.slice none 0 0) := (blk_cell hbox 5).trans rfl; have hfz_5 := blk_frozen hbox 5; have hcz_6 : w5.cell? ⟨B, 6, none⟩ = some (.int .i64 0) := (blk_cell hbox 6).trans rfl; have hfz_6 := blk_frozen hbox 6; clear hgB hbox hb) | ((with_reducible refine gate_store (t := 127) (p := 9) rfl ?_); refine store_event (t := 127) (p := 9) (v := ?vo_w7) (w1 := (((((((w5.setCell ⟨B, 0, none⟩ (.slice A0 n c0)).setCell ⟨B, 1, none⟩ (.int .i64 a1)).setCell ⟨B, 2, none⟩ (.bool true)).setCell ⟨B, 3, none⟩ (.int .i64 a2)).setCell ⟨B, 4, none⟩ (.slice none 0 0)).setCell ⟨B, 5, none⟩ (.slice none 0 0)).setCell ⟨B, 6, none⟩ (.int .i64 (-1)))) ?hg ?ho ?hn ?hr ?_; (case ho => rfl); (case hg => rfl); (case hn => rfl); (case hr => first | (go_simp; done) | (go_simp; rfl)); intro w7 hw; have HS7 := Aside0.mk (show SxI w w7 B A0 n c0 a1 true a2 (.slice none 0 0) (.slice none 0 0) (-1) [] [] from ⟨by rw [hw]; exact (blk_put (blk_put (blk_put (blk_put (blk_put (blk_put (blk_put BX5.out 0 (.slice A0 n c0) rfl) 1 (.int .i64 a1) rfl) 2 (.bool true) rfl) 3 (.int .i64 a2) rfl) 4 (.slice none 0 0) rfl) 5 (.slice none 0 0) rfl) 6 (.int .i64 (-1)) rfl), Kd.R_nil _ _ _ _ _, Kd.R_nil _ _ _ _ _, by rw [hw]; exact (below_set (below_set (below_set (below_set (below_set (below_set (below_set B5.out BG.out) BG.out) BG.out) BG.out) BG.out) BG.out) BG.out)⟩); clear hw hcz_0 hfz_0 hcz_1 hfz_1 hcz_2 hfz_2 hcz_3 hfz_3 hcz_4 hfz_4 hcz_5 hfz_5 hcz_6 hfz_6) | (go_at_call 84; refine (srI_calls w B A0 n c0 l0 a1 true HN.out BG.out HR0.out HC0.out k k (Nat.le_refl _) w7 _ _ _ _ _ _ _ HS7.out HST.out).mono ?_; rintro e w8 ⟨rfl, vo8, vb8, hs8⟩; obtain ⟨A8, c8, rfl⟩ := Kd.R_slice hs8.b; have HS8 := Aside0.mk hs8; obtain ⟨_, _, _, hx3, _, hx5, hx6⟩ := hs8.cells; clear hs8))
     go_quiet (fail)
     try go_wp2
     go_ret3
     refine ⟨_, rfl, Kd.R_drewN (Kd.R_mono HS8.out.b (fun _ _ => trivial)) _, pw_below_drewN HS8.out.bel _⟩

end Go.Proofs.Ytffmkjnjopflnaa.PFnRepairs
