-- PRINTED by print.py (a twelfth state) out of the translation. Not trusted: Lean checks it.
import Derived.Test.YtebkgebibammiaaPFnExactIsWithinx0
import Derived.Test.YtebkgebibammiaaPFnExactIsWithinx12
import Derived.Test.YtebkgebibammiaaPFnExactIsWithinx13
namespace Go.Proofs.Ytebkgebibammiaa.PFnExactIsWithin
open Go.RowKit Go.Proofs.YtebkgebibammiaaW.PrintWords Go.Proofs.YtebkgebibammiaaW.PrintLast Go.Proofs.YtebkgebibammiaaW.PrintMore
attribute [local go_sem] max2_int min2_int max_two min_two max_three min_three max_four min_four   -- for this text's walks alone
set_option linter.unusedVariables false
set_option linter.unusedSimpArgs false

/-! ### impl_isPlan: function 94 -/
/-- How four units have been: on or off, and for so many hours. -/
def rsC (rs : List (Bool × Int)) : Array Value := #[.bool (rs.getD 0 (false, 0)).1, .int .i64 (rs.getD 0 (false, 0)).2, .bool (rs.getD 1 (false, 0)).1, .int .i64 (rs.getD 1 (false, 0)).2, .bool (rs.getD 2 (false, 0)).1, .int .i64 (rs.getD 2 (false, 0)).2, .bool (rs.getD 3 (false, 0)).1, .int .i64 (rs.getD 3 (false, 0)).2]
def rsV (rs : List (Bool × Int)) : Value := .agg (rsC rs)
theorem rs_size : (Try.prog.info? 138).map (·.size) = some 8 := by kernel_rfl
def rs0 : List (Bool × Int) := [(false, 3), (false, 3), (false, 3), (false, 3)]
def rsF (k : Nat) : List (Bool × Int) := List.replicate k (false, 3) ++ List.replicate (4 - k) (false, 0)
theorem rsC_put (rs : List (Bool × Int)) (hl : rs.length = 4) (i : Nat) (hi : i < 4) (b : Bool) (h : Int) :
  ((rsC rs).setIfInBounds (i * 2) (.bool b)).setIfInBounds (i * 2 + 1) (.int .i64 h) = rsC (rs.set i (b, h)) := by
 obtain ⟨a, b', c, d, rfl⟩ : ∃ a b c d, rs = [a, b, c, d] := by
  match rs, hl with
  | [a, b, c, d], _ => exact ⟨a, b, c, d, rfl⟩
 have : i = 0 ∨ i = 1 ∨ i = 2 ∨ i = 3 := by omega
 rcases this with rfl | rfl | rfl | rfl <;> rfl
theorem rsC_puth (rs : List (Bool × Int)) (hl : rs.length = 4) (i : Nat) (hi : i < 4) (h : Int) :
  (rsC rs).setIfInBounds (i * 2 + 1) (.int .i64 h) = rsC (rs.set i ((rs.getD i (false, 0)).1, h)) := by
 obtain ⟨a, b', c, d, rfl⟩ : ∃ a b c d, rs = [a, b, c, d] := by
  match rs, hl with
  | [a, b, c, d], _ => exact ⟨a, b, c, d, rfl⟩
 have : i = 0 ∨ i = 1 ∨ i = 2 ∨ i = 3 := by omega
 rcases this with rfl | rfl | rfl | rfl <;> rfl
theorem rsC_at (rs : List (Bool × Int)) (i : Nat) (hi : i < 4) : (rsC rs)[i * 2]? = some (.bool (rs.getD i (false, 0)).1) ∧ (rsC rs)[i * 2 + 1]? = some (.int .i64 (rs.getD i (false, 0)).2) := by
 have : i = 0 ∨ i = 1 ∨ i = 2 ∨ i = 3 := by omega
 rcases this with rfl | rfl | rfl | rfl <;> exact ⟨rfl, rfl⟩
theorem rsF_len (k : Nat) (hk : k ≤ 4) : (rsF k).length = 4 := by
 simp [rsF]; omega
theorem rsF_set (k : Nat) (hk : k < 4) : (rsF k).set k (((rsF k).getD k (false, 0)).1, 3) = rsF (k + 1) := by
 have : k = 0 ∨ k = 1 ∨ k = 2 ∨ k = 3 := by omega
 rcases this with rfl | rfl | rfl | rfl <;> rfl
theorem rsC_one (rs : List (Bool × Int)) : (rsC rs).all (·.oneCell') = true := by simp [rsC, Value.oneCell']
theorem below_row {w0 w : World} (h : Below w0.heap.size w0 w) {g : Nat} (hg : w0.heap.size ≤ g) (cs : Array Value) : Below w0.heap.size w0 (w.setRow g cs) :=
 h.trans ⟨rfl, rfl, rfl, by simp [World.setRow], fun k hk => setRow_other w g k cs (by omega)⟩
set_option maxHeartbeats 2400000 in
set_option maxRecDepth 100000 in
theorem firstRuns_ (w : World) : Calls Try.prog 126 #[] w fun e w' => e = .returned (rsV rs0) ∧ Below w.heap.size w w' := by
 have hu := Try.underlying138
 go_enter Try.func126, Try.ntmps126
 go_wp2
 go_loopg [3] 4 (fun gg s3 wr => ∃ k : Nat, k ≤ 4 ∧ 4 - k ≤ gg ∧ s3 = .int .i64 (k : Int) ∧ Aside0 (wr.heap[w.heap.size]? = some (.cells (rsC (rsF 0)) 138 (0, 0))) ∧ Aside0 (wr.heap[w.heap.size + 1]? = some (.cells (rsC (rsF k)) 138 (0, 0))) ∧ Aside0 (Below w.heap.size w wr))
 case atStart =>
  refine ⟨0, by omega, by omega, rfl, ⟨?_⟩, ⟨?_⟩, ⟨below_alloc (below_alloc (Below.refl _ _) _) _⟩⟩
  ·
   exact blk_alloc (blk_new _ _) _
  ·
   have h := blk_new (w.alloc (.cells (rsC (rsF 0)) 138 (0, 0))) (.cells (rsC (rsF 0)) 138 (0, 0))
   rw [World.size_alloc] at h
   exact h
 case round =>
  obtain ⟨k, hk, hg, rfl, B0, B1, BW⟩ := hrel
  by_cases hlt : k < 4
  ·
   have hk0 : 0 ≤ (k : Int) := by omega
   have hk1 : (k : Int) < 4 := by omega
   have hx : wr.cell? ⟨w.heap.size + 1, k * 2 + 1, none⟩ = some (.int .i64 ((rsF k).getD k (false, 0)).2) := (blk_cell B1.out _).trans (rsC_at _ k hlt).2
   have hf := blk_frozen B1.out (k * 2 + 1)
   go_wp2
   go_roundg (4 - (k + 1))
   case measure => omega
   case rel =>
    refine ⟨k + 1, by omega, by omega, by go_num, ⟨blk_far B0.out (by show w.heap.size ≠ w.heap.size + 1; omega) _⟩, ⟨blk_put B1.out _ _ ?_⟩, ⟨below_set BW.out (by omega)⟩⟩
    rw [rsC_puth _ (rsF_len k hk) k hlt, rsF_set k hlt]
  ·
   obtain rfl : k = 4 := by omega
   have hfe : rsF 4 = rs0 := rfl
   rw [hfe] at B1
   have hl0 : w.heap.size < wr.heap.size := blk_lt B0.out
   have hf0 := blk_frozen B0.out
   have hy := blk_cell B0.out
   go_wp2_with (first | ((with_reducible refine gate_dst (N := 10) rfl ?_); refine wpList_load_row rfl 138 (.tmp 1) rfl (w.heap.size + 1) rfl 138 (rsC rs0) (0, 0) _ B1.out hu rfl rs_size ?_) | ((with_reducible refine gate_store (t := 138) (p := 0) rfl ?_); refine wpList_store_row rfl 138 (.tmp 0) (.tmp 10) rfl w.heap.size (rsC rs0) rfl rfl 138 _ B0.out rs_size rfl (rsC_one rs0) ?_))
   refine bodyPost_ret (results_cell_row rfl _ _ w.heap.size 138 (rsC rs0) (0, 0) _ rfl (setRow_heap _ _ _ _ _ _ B0.out) hu rfl rs_size) rfl ?_
   exact ⟨rfl, below_row BW.out (Nat.le_refl _) _⟩

/-- The runs after an hour, unit by unit: the runs, the starts' cost, whether it may follow. -/
def nx (l : List S77) (on : List Bool) : Nat → Nat → List (Bool × Int) → Int → List (Bool × Int) × Int × Bool
 | 0, _, rs, s => (rs, s, true)
 | m + 1, i, rs, s =>
  if (rs.getD i (false, 0)).1 = rdOf false on (i : Int) then nx l on m (i + 1) (rs.set i ((rs.getD i (false, 0)).1, mn (wrap64 ((rs.getD i (false, 0)).2 + 1)) 3)) s
  else if (rs.getD i (false, 0)).1 = true ∧ (rs.getD i (false, 0)).2 < (rd_T77 l (i : Int)).f5 ∨ (rs.getD i (false, 0)).1 = false ∧ (rs.getD i (false, 0)).2 < (rd_T77 l (i : Int)).f6 then (rs, 0, false)
  else nx l on m (i + 1) (rs.set i (rdOf false on (i : Int), 1)) (if rdOf false on (i : Int) = true then wrap64 (s + (rd_T77 l (i : Int)).f4) else s)
theorem nx_len (l : List S77) (on : List Bool) : ∀ m i rs s, (nx l on m i rs s).1.length = rs.length
 | 0, _, _, _ => rfl
 | m + 1, i, rs, s => by
  rw [nx]
  split
  ·
   rw [nx_len l on m, List.length_set]
  ·
   split
   ·
    rfl
   ·
    rw [nx_len l on m, List.length_set]
theorem blk_far2 {w w' : World} {g G : Nat} {t : TypeId} {cs : Array Value} (h : w.heap[g]? = some (.cells cs t (0, 0))) (hne : g ≠ G) {i j : Nat} {u v : Value} (e : w' = (w.setCell ⟨G, i, none⟩ u).setCell ⟨G, j, none⟩ v) : w'.heap[g]? = some (.cells cs t (0, 0)) := by
 subst e
 exact blk_far (blk_far h hne _) hne _
structure NxS (w W : World) (rs : List (Bool × Int)) : Prop where
 len : rs.length = 4
 b0 : W.heap[w.heap.size]? = some (.cells (rsC rs) 138 (0, 0))
 b1 : ∃ cs, W.heap[w.heap.size + 1]? = some (.cells (rsC cs) 138 (0, 0))
 bel : Below w.heap.size w W
theorem NxS.below {w W W' : World} {rs : List (Bool × Int)} (h : NxS w W rs) (hb : Below W.heap.size W W') : NxS w W' rs :=
 ⟨h.len, blk_below h.b0 hb, h.b1.imp fun _ z => blk_below z hb, h.bel.trans (hb.mono h.bel.size)⟩
theorem NxS.puth {w W W' : World} {rs : List (Bool × Int)} (h : NxS w W rs) {i : Nat} (hi : i < 4) (v : Int) (e : W' = W.setCell ⟨w.heap.size, i * 2 + 1, none⟩ (.int .i64 v)) : NxS w W' (rs.set i ((rs.getD i (false, 0)).1, v)) := by
 subst e
 exact ⟨by rw [List.length_set]; exact h.len, blk_put h.b0 _ _ (rsC_puth rs h.len i hi v), h.b1.imp fun _ z => blk_far z (by show w.heap.size + 1 ≠ w.heap.size; omega) _, below_set h.bel (Nat.le_refl _)⟩
theorem NxS.put {w W W' : World} {rs : List (Bool × Int)} (h : NxS w W rs) {i : Nat} (hi : i < 4) (b : Bool) (v : Int) (e : W' = (W.setCell ⟨w.heap.size, i * 2, none⟩ (.bool b)).setCell ⟨w.heap.size, i * 2 + 1, none⟩ (.int .i64 v)) : NxS w W' (rs.set i (b, v)) := by
 subst e
 exact ⟨by rw [List.length_set]; exact h.len, blk_put (blk_set h.b0 _ _) _ _ (rsC_put rs h.len i hi b v), h.b1.imp fun _ z => blk_far (blk_far z (by show w.heap.size + 1 ≠ w.heap.size; omega) _) (by show w.heap.size + 1 ≠ w.heap.size; omega) _, below_set (below_set h.bel (Nat.le_refl _)) (Nat.le_refl _)⟩
set_option maxHeartbeats 8000000 in
set_option maxRecDepth 100000 in
theorem next_ (A0 : Option Addr) (c0 : Nat) (l : List S77) (A1 : Option Addr) (c1 : Nat) (on : List Bool) (rs : List (Bool × Int)) (w : World) (hrl : rs.length = 4) (hr0 : Kd.C k77 w A0 l.length l) (hl4 : l.length ≤ 4) (hr1 : Kd.C Kd.bool w A1 on.length on) (hol : on.length = l.length) :
  Calls Try.prog 127 #[rsV rs, .slice A0 l.length c0, .slice A1 on.length c1] w fun e w' => e = .returned (.tuple #[rsV (nx l on l.length 0 rs 0).1, .int .i64 (nx l on l.length 0 rs 0).2.1, .bool (nx l on l.length 0 rs 0).2.2]) ∧ Below w.heap.size w w' := by
 have hu := Try.underlying138
 have HR0 := Aside0.mk hr0
 have HR1 := Aside0.mk hr1
 have HRL := Aside0.mk hrl
 rw [hol] at HR1 ⊢
 obtain ⟨n, hn⟩ : ∃ n, l.length = n := ⟨_, rfl⟩
 rw [hn] at HR0 HR1 hl4 ⊢
 clear hr0 hr1 hol hrl hn
 obtain ⟨r, hr⟩ : ∃ r, nx l on n 0 rs 0 = r := ⟨_, rfl⟩
 rw [hr]
 have HA0 := Aside0.mk hr
 clear hr
 show Calls Try.prog 127 #[.agg #[.bool (rs.getD 0 (false, 0)).1, .int .i64 (rs.getD 0 (false, 0)).2, .bool (rs.getD 1 (false, 0)).1, .int .i64 (rs.getD 1 (false, 0)).2, .bool (rs.getD 2 (false, 0)).1, .int .i64 (rs.getD 2 (false, 0)).2, .bool (rs.getD 3 (false, 0)).1, .int .i64 (rs.getD 3 (false, 0)).2], _, _] w _
 go_enter Try.func127, Try.ntmps127
 go_wp2
 go_loopg [9, 15] n (fun gg s9 s15 wr => ∃ (i : Nat) (rs : List (Bool × Int)) (s : Int), i ≤ n ∧ n - i ≤ gg ∧ s15 = .int .i64 (i : Int) ∧ s9 = .int .i64 s ∧ Aside0 (NxS w wr rs) ∧ Aside0 (nx l on (n - i) i rs s = r))
 case atStart =>
  refine ⟨0, rs, 0, by omega, by omega, rfl, rfl, ⟨HRL.out, ?_, ⟨rsF 0, ?_⟩, below_alloc (below_alloc (Below.refl _ _) _) _⟩, HA0⟩
  ·
   exact blk_alloc (blk_new _ _) _
  ·
   have h := blk_new (w.alloc (.cells (rsC rs) 138 (0, 0))) (.cells (rsC (rsF 0)) 138 (0, 0))
   rw [World.size_alloc] at h
   exact h
 case round =>
  clear HA0 HRL
  obtain ⟨i, rs, s, hi, hg, rfl, rfl, SR, HA⟩ := hrel
  by_cases hlt : i < n
  ·
   have hltz : decide ((i : Int) < (n : Int)) = true := decide_eq_true (by omega)
   have hltz2 : decide (i < n) = true := decide_eq_true hlt
   have hi4 : (i : Int) < 4 := by omega
   have hi4n : i < 4 := by omega
   have hi0 : 0 ≤ (i : Int) := by omega
   have hin : (i : Int) < (n : Int) := by omega
   have H := HA.out
   rw [show n - i = (n - (i + 1)) + 1 by omega, nx] at H
   have hat := rsC_at rs i (by omega)
   obtain ⟨ad, rfl, hu0, hu1, hu2, hu3, hu4, hu5, hu6⟩ := at_T77 (Kd.C_below HR0.out SR.out.bel) (i : Int) (by omega) hin
   obtain ⟨ad2, rfl, hw0⟩ := Kd.at_bool HR1.out (i : Int) (by omega) hin
   rw [Int.toNat_natCast] at hu0 hu1 hu2 hu3 hu4 hu5 hu6 hw0
   generalize (rd_T77 l (i : Int)).f0 = x0 at *
   generalize (rd_T77 l (i : Int)).f1 = x1 at *
   generalize (rd_T77 l (i : Int)).f2 = x2 at *
   generalize (rd_T77 l (i : Int)).f3 = x3 at *
   generalize (rd_T77 l (i : Int)).f4 = x4 at *
   generalize (rd_T77 l (i : Int)).f5 = x5 at *
   generalize (rd_T77 l (i : Int)).f6 = x6 at *
   generalize rdOf false on (i : Int) = b at *
   obtain ⟨x, hx⟩ : ∃ x, rs.getD i (false, 0) = x := ⟨_, rfl⟩
   rw [hx] at hat H
   obtain ⟨xb, xh⟩ := x
   have HX := Aside0.mk hx
   have HW0 := Aside0.mk hw0
   have HAT0 := Aside0.mk hat.1
   have HAT1 := Aside0.mk hat.2
   clear hx HA hlt hat hw0
   go_wp2_with (first | ((with_reducible refine gate_dst (N := 11) rfl ?_); refine box_event ?hg (N := 11) ?hd (cs := #[.string (⟨#[]⟩ : ByteArray), .int .i64 0, .int .i64 0, .int .i64 0, .int .i64 0, .int .i64 0, .int .i64 0]) (t := 77) ?hr ?_; (case hd => rfl); (case hg => rfl); (case hr => first | (go_simp; done) | (go_simp; rfl)); intro g hgg w5 hbox hb; have HB5 := Aside0.mk hb; have BK5 := Aside0.mk hbox; have HG5 := Aside0.mk (show wr.heap.size ≤ g by rw [hgg]; exact Nat.le_refl _); have hcz_0 : w5.cell? ⟨g, 0, none⟩ = some (.string (⟨#[]⟩ : ByteArray)) := (blk_cell hbox 0).trans rfl; have hfz_0 := blk_frozen hbox 0; have hcz_1 : w5.cell? ⟨g, 1, none⟩ = some (.int .i64 0) := (blk_cell hbox 1).trans rfl; have hfz_1 := blk_frozen hbox 1; have hcz_2 : w5.cell? ⟨g, 2, none⟩ = some (.int .i64 0) := (blk_cell hbox 2).trans rfl; have hfz_2 := blk_frozen hbox 2; have hcz_3 : w5.cell? ⟨g, 3, none⟩ = some (.int .i64 0) := (blk_cell hbox 3).trans rfl; have hfz_3 := blk_frozen hbox 3; have hcz_4 : w5.cell? ⟨g, 4, none⟩ = some (.int .i64 0) := (blk_cell hbox 4).trans rfl; have hfz_4 := blk_frozen hbox 4; have hcz_5 : w5.cell? ⟨g, 5, none⟩ = some (.int .i64 0) := (blk_cell hbox 5).trans rfl; have hfz_5 := blk_frozen hbox 5; have hcz_6 : w5.cell? ⟨g, 6, none⟩ = some (.int .i64 0) := (blk_cell hbox 6).trans rfl; have hfz_6 := blk_frozen hbox 6; clear hgg hbox hb) | ((with_reducible refine gate_store (t := 77) (p := 11) rfl ?_); refine store_event (t := 77) (p := 11) (v := ?vo_w7) (w1 := (((((((w5.setCell ⟨g, 0, none⟩ (.string x0)).setCell ⟨g, 1, none⟩ (.int .i64 x1)).setCell ⟨g, 2, none⟩ (.int .i64 x2)).setCell ⟨g, 3, none⟩ (.int .i64 x3)).setCell ⟨g, 4, none⟩ (.int .i64 x4)).setCell ⟨g, 5, none⟩ (.int .i64 x5)).setCell ⟨g, 6, none⟩ (.int .i64 x6))) ?hg ?ho ?hn ?hr ?_; (case ho => rfl); (case hg => rfl); (case hn => rfl); (case hr => first | (go_simp; done) | (go_simp; rfl)); intro w7 hw; have BK7 := Aside0.mk (show w7.heap[g]? = some (.cells #[.string x0, .int .i64 x1, .int .i64 x2, .int .i64 x3, .int .i64 x4, .int .i64 x5, .int .i64 x6] 77 (0, 0)) by rw [hw]; exact (blk_put (blk_put (blk_put (blk_put (blk_put (blk_put (blk_put BK5.out 0 (.string x0) rfl) 1 (.int .i64 x1) rfl) 2 (.int .i64 x2) rfl) 3 (.int .i64 x3) rfl) 4 (.int .i64 x4) rfl) 5 (.int .i64 x5) rfl) 6 (.int .i64 x6) rfl)); have S7 := Aside0.mk (SR.out.below (show Below wr.heap.size wr w7 by rw [hw]; exact (below_set (below_set (below_set (below_set (below_set (below_set (below_set HB5.out HG5.out) HG5.out) HG5.out) HG5.out) HG5.out) HG5.out) HG5.out))); clear hw hcz_0 hfz_0 hcz_1 hfz_1 hcz_2 hfz_2 hcz_3 hfz_3 hcz_4 hfz_4 hcz_5 hfz_5 hcz_6 hfz_6 hu0 hu1 hu2 hu3 hu4 hu5 hu6; have hy0 : w7.cell? ⟨w.heap.size, i * 2, none⟩ = some (.bool xb) := (blk_cell S7.out.b0 _).trans HAT0.out; have hy1 : w7.cell? ⟨w.heap.size, i * 2 + 1, none⟩ = some (.int .i64 xh) := (blk_cell S7.out.b0 _).trans HAT1.out; have hv0 : w7.cell? (ad2.add i) = some (.bool b) := ((S7.out.bel).cell (World.block_lt_of_cell? _ _ HW0.out)).trans HW0.out; have hg4 : w7.cell? ⟨g, 4, none⟩ = some (.int .i64 x4) := (blk_cell BK7.out 4).trans rfl; have hg5 : w7.cell? ⟨g, 5, none⟩ = some (.int .i64 x5) := (blk_cell BK7.out 5).trans rfl; have hg6 : w7.cell? ⟨g, 6, none⟩ = some (.int .i64 x6) := (blk_cell BK7.out 6).trans rfl))
   have HGW := Aside0.mk (show w.heap.size + 1 < g by have h1 := HG5.out; obtain ⟨cs1, hB1⟩ := SR.out.b1; have h2 := blk_lt hB1; omega)
   have HGN := Aside0.mk (show g ≠ w.heap.size by have := HGW.out; omega)
   cases xb with
   | true =>
    cases b with
    | true =>
     simp only [if_true] at H
     have H' := Aside0.mk H
     clear H
     go_quiet (fail)
     rw [drewN_self w7]; generalize hq_ : World.drewN w7 _ = w8
     have BD_ := Aside0.mk (show Below w7.heap.size w7 w8 from hq_ ▸ pw_below_drewN (Below.refl _ _) _)
     have S8 := Aside0.mk (S7.out.below BD_.out)
     have BK8 := Aside0.mk (blk_below BK7.out BD_.out)
     clear hq_ BD_ hy0 hy1 hv0 hg4 hg5 hg6
     have hy0 : w8.cell? ⟨w.heap.size, i * 2, none⟩ = some (.bool true) := (blk_cell S8.out.b0 _).trans HAT0.out
     have hy1 : w8.cell? ⟨w.heap.size, i * 2 + 1, none⟩ = some (.int .i64 xh) := (blk_cell S8.out.b0 _).trans HAT1.out
     have hv0 : w8.cell? (ad2.add i) = some (.bool true) := ((S8.out.bel).cell (World.block_lt_of_cell? _ _ HW0.out)).trans HW0.out
     have hg4 : w8.cell? ⟨g, 4, none⟩ = some (.int .i64 x4) := (blk_cell BK8.out 4).trans rfl
     have hg5 : w8.cell? ⟨g, 5, none⟩ = some (.int .i64 x5) := (blk_cell BK8.out 5).trans rfl
     have hg6 : w8.cell? ⟨g, 6, none⟩ = some (.int .i64 x6) := (blk_cell BK8.out 6).trans rfl
     have hfz : w8.frozen? ⟨w.heap.size, i * 2 + 1, none⟩ = false := blk_frozen S8.out.b0 _
     go_wp2_with ((with_reducible refine gate_store (t := 2) (p := 39) rfl ?_); refine store_event (t := 2) (p := 39) (v := ?vo_39) (w1 := (w8.setCell ⟨w.heap.size, i * 2 + 1, none⟩ (.int .i64 (mn (wrap64 (xh + 1)) 3)))) ?hg ?ho ?hn ?hr ?_; (case ho => rfl); (case hg => rfl); (case hn => rfl); (case hr => first | (go_simp; done) | (go_simp; rfl)); intro w9 hw; have S9 := Aside0.mk (S8.out.puth hi4n _ hw); clear hw; rw [HX.out] at S9)
     all_goals
      go_roundg (n - (i + 1))
      case measure => omega
      case rel => exact ⟨i + 1, _, _, by omega, by omega, by go_num, rfl, S9, H'⟩
    | false =>
     simp only [Bool.true_eq_false, Bool.false_eq_true, if_false, true_and, false_and, or_false, false_or] at H
     by_cases hlo : xh < x5
     ·
      rw [if_pos hlo] at H
      have hd1 : decide (xh < x5) = true := decide_eq_true hlo
      clear hlo
      subst H
      go_quiet (fail)
      rw [drewN_self w7]; generalize hq_ : World.drewN w7 _ = w8
      have BD_ := Aside0.mk (show Below w7.heap.size w7 w8 from hq_ ▸ pw_below_drewN (Below.refl _ _) _)
      have S8 := Aside0.mk (S7.out.below BD_.out)
      have BK8 := Aside0.mk (blk_below BK7.out BD_.out)
      clear hq_ BD_ hy0 hy1 hv0 hg4 hg5 hg6
      have hy0 : w8.cell? ⟨w.heap.size, i * 2, none⟩ = some (.bool true) := (blk_cell S8.out.b0 _).trans HAT0.out
      have hy1 : w8.cell? ⟨w.heap.size, i * 2 + 1, none⟩ = some (.int .i64 xh) := (blk_cell S8.out.b0 _).trans HAT1.out
      have hv0 : w8.cell? (ad2.add i) = some (.bool false) := ((S8.out.bel).cell (World.block_lt_of_cell? _ _ HW0.out)).trans HW0.out
      have hg4 : w8.cell? ⟨g, 4, none⟩ = some (.int .i64 x4) := (blk_cell BK8.out 4).trans rfl
      have hg5 : w8.cell? ⟨g, 5, none⟩ = some (.int .i64 x5) := (blk_cell BK8.out 5).trans rfl
      have hg6 : w8.cell? ⟨g, 6, none⟩ = some (.int .i64 x6) := (blk_cell BK8.out 6).trans rfl
      go_wp2
      go_quiet (fail)
      rw [drewN_self w8]; generalize hq_ : World.drewN w8 _ = w9
      have BD_ := Aside0.mk (show Below w8.heap.size w8 w9 from hq_ ▸ pw_below_drewN (Below.refl _ _) _)
      have S9 := Aside0.mk (S8.out.below BD_.out)
      have BK9 := Aside0.mk (blk_below BK8.out BD_.out)
      clear hq_ BD_ hy0 hy1 hv0 hg4 hg5 hg6
      have hy0 : w9.cell? ⟨w.heap.size, i * 2, none⟩ = some (.bool true) := (blk_cell S9.out.b0 _).trans HAT0.out
      have hy1 : w9.cell? ⟨w.heap.size, i * 2 + 1, none⟩ = some (.int .i64 xh) := (blk_cell S9.out.b0 _).trans HAT1.out
      have hv0 : w9.cell? (ad2.add i) = some (.bool false) := ((S9.out.bel).cell (World.block_lt_of_cell? _ _ HW0.out)).trans HW0.out
      have hg4 : w9.cell? ⟨g, 4, none⟩ = some (.int .i64 x4) := (blk_cell BK9.out 4).trans rfl
      have hg5 : w9.cell? ⟨g, 5, none⟩ = some (.int .i64 x5) := (blk_cell BK9.out 5).trans rfl
      have hg6 : w9.cell? ⟨g, 6, none⟩ = some (.int .i64 x6) := (blk_cell BK9.out 6).trans rfl
      obtain ⟨cs1, hB1⟩ := S9.out.b1
      have HB1 := Aside0.mk hB1
      clear hB1
      go_wp2_with (first | ((with_reducible refine gate_dst (N := 69) rfl ?_); refine wpList_load_row rfl 138 (.tmp 3) rfl w.heap.size rfl 138 (rsC rs) (0, 0) _ S9.out.b0 hu rfl rs_size ?_) | ((with_reducible refine gate_store (t := 138) (p := 6) rfl ?_); refine wpList_store_row rfl 138 (.tmp 6) (.tmp 69) rfl (w.heap.size + 1) (rsC rs) rfl rfl 138 _ HB1.out rs_size rfl (rsC_one rs) ?_))
      refine bodyPost_ret (results_ctt rfl _ _ (w.heap.size + 1) 138 (rsC rs) (0, 0) _ rfl (setRow_heap _ _ _ _ _ _ HB1.out) hu rfl rs_size) rfl ?_
      exact ⟨rfl, below_row S9.out.bel (by omega) _⟩
     ·
      rw [if_neg hlo] at H
      have hd1 : decide (xh < x5) = false := decide_eq_false hlo
      clear hlo
      have H' := Aside0.mk H
      clear H
      go_quiet (fail)
      rw [drewN_self w7]; generalize hq_ : World.drewN w7 _ = w8
      have BD_ := Aside0.mk (show Below w7.heap.size w7 w8 from hq_ ▸ pw_below_drewN (Below.refl _ _) _)
      have S8 := Aside0.mk (S7.out.below BD_.out)
      have BK8 := Aside0.mk (blk_below BK7.out BD_.out)
      clear hq_ BD_ hy0 hy1 hv0 hg4 hg5 hg6
      have hy0 : w8.cell? ⟨w.heap.size, i * 2, none⟩ = some (.bool true) := (blk_cell S8.out.b0 _).trans HAT0.out
      have hy1 : w8.cell? ⟨w.heap.size, i * 2 + 1, none⟩ = some (.int .i64 xh) := (blk_cell S8.out.b0 _).trans HAT1.out
      have hv0 : w8.cell? (ad2.add i) = some (.bool false) := ((S8.out.bel).cell (World.block_lt_of_cell? _ _ HW0.out)).trans HW0.out
      have hg4 : w8.cell? ⟨g, 4, none⟩ = some (.int .i64 x4) := (blk_cell BK8.out 4).trans rfl
      have hg5 : w8.cell? ⟨g, 5, none⟩ = some (.int .i64 x5) := (blk_cell BK8.out 5).trans rfl
      have hg6 : w8.cell? ⟨g, 6, none⟩ = some (.int .i64 x6) := (blk_cell BK8.out 6).trans rfl
      go_wp2
      go_quiet (fail)
      rw [drewN_self w8]; generalize hq_ : World.drewN w8 _ = w9
      have BD_ := Aside0.mk (show Below w8.heap.size w8 w9 from hq_ ▸ pw_below_drewN (Below.refl _ _) _)
      have S9 := Aside0.mk (S8.out.below BD_.out)
      have BK9 := Aside0.mk (blk_below BK8.out BD_.out)
      clear hq_ BD_ hy0 hy1 hv0 hg4 hg5 hg6
      have hy0 : w9.cell? ⟨w.heap.size, i * 2, none⟩ = some (.bool true) := (blk_cell S9.out.b0 _).trans HAT0.out
      have hy1 : w9.cell? ⟨w.heap.size, i * 2 + 1, none⟩ = some (.int .i64 xh) := (blk_cell S9.out.b0 _).trans HAT1.out
      have hv0 : w9.cell? (ad2.add i) = some (.bool false) := ((S9.out.bel).cell (World.block_lt_of_cell? _ _ HW0.out)).trans HW0.out
      have hg4 : w9.cell? ⟨g, 4, none⟩ = some (.int .i64 x4) := (blk_cell BK9.out 4).trans rfl
      have hg5 : w9.cell? ⟨g, 5, none⟩ = some (.int .i64 x5) := (blk_cell BK9.out 5).trans rfl
      have hg6 : w9.cell? ⟨g, 6, none⟩ = some (.int .i64 x6) := (blk_cell BK9.out 6).trans rfl
      have hfz0 : w9.frozen? ⟨w.heap.size, i * 2, none⟩ = false := blk_frozen S9.out.b0 _
      have hfz1 : w9.frozen? ⟨w.heap.size, i * 2 + 1, none⟩ = false := blk_frozen S9.out.b0 _
      go_wp2_with ((with_reducible refine gate_store (t := 136) (p := 76) rfl ?_); refine store_event (t := 136) (p := 76) (v := ?vo_76) (w1 := ((w9.setCell ⟨w.heap.size, i * 2, none⟩ (.bool false)).setCell ⟨w.heap.size, i * 2 + 1, none⟩ (.int .i64 1))) ?hg ?ho ?hn ?hr ?_; (case ho => rfl); (case hg => rfl); (case hn => rfl); (case hr => first | (go_simp; done) | (go_simp; rfl)); intro w10 hw; have S10 := Aside0.mk (S9.out.put hi4n false 1 hw); have hv0_ : w10.cell? (ad2.add i) = some (.bool false) := ((S10.out.bel).cell (World.block_lt_of_cell? _ _ HW0.out)).trans HW0.out; have BK10 := Aside0.mk (blk_far2 BK9.out HGN.out hw); have hg4_ : w10.cell? ⟨g, 4, none⟩ = some (.int .i64 x4) := (blk_cell BK10.out 4).trans rfl; clear hw hy0 hy1 hv0 hg4 hg5 hg6 hfz0 hfz1)
      all_goals
       go_roundg (n - (i + 1))
       case measure => omega
       case rel => exact ⟨i + 1, _, _, by omega, by omega, by go_num, rfl, S10, H'⟩
   | false =>
    cases b with
    | true =>
     simp only [Bool.true_eq_false, Bool.false_eq_true, if_false, true_and, false_and, or_false, false_or] at H
     by_cases hlo : xh < x6
     ·
      rw [if_pos hlo] at H
      have hd1 : decide (xh < x6) = true := decide_eq_true hlo
      clear hlo
      subst H
      go_quiet (fail)
      rw [drewN_self w7]; generalize hq_ : World.drewN w7 _ = w8
      have BD_ := Aside0.mk (show Below w7.heap.size w7 w8 from hq_ ▸ pw_below_drewN (Below.refl _ _) _)
      have S8 := Aside0.mk (S7.out.below BD_.out)
      have BK8 := Aside0.mk (blk_below BK7.out BD_.out)
      clear hq_ BD_ hy0 hy1 hv0 hg4 hg5 hg6
      have hy0 : w8.cell? ⟨w.heap.size, i * 2, none⟩ = some (.bool false) := (blk_cell S8.out.b0 _).trans HAT0.out
      have hy1 : w8.cell? ⟨w.heap.size, i * 2 + 1, none⟩ = some (.int .i64 xh) := (blk_cell S8.out.b0 _).trans HAT1.out
      have hv0 : w8.cell? (ad2.add i) = some (.bool true) := ((S8.out.bel).cell (World.block_lt_of_cell? _ _ HW0.out)).trans HW0.out
      have hg4 : w8.cell? ⟨g, 4, none⟩ = some (.int .i64 x4) := (blk_cell BK8.out 4).trans rfl
      have hg5 : w8.cell? ⟨g, 5, none⟩ = some (.int .i64 x5) := (blk_cell BK8.out 5).trans rfl
      have hg6 : w8.cell? ⟨g, 6, none⟩ = some (.int .i64 x6) := (blk_cell BK8.out 6).trans rfl
      go_wp2
      go_quiet (fail)
      rw [drewN_self w8]; generalize hq_ : World.drewN w8 _ = w9
      have BD_ := Aside0.mk (show Below w8.heap.size w8 w9 from hq_ ▸ pw_below_drewN (Below.refl _ _) _)
      have S9 := Aside0.mk (S8.out.below BD_.out)
      have BK9 := Aside0.mk (blk_below BK8.out BD_.out)
      clear hq_ BD_ hy0 hy1 hv0 hg4 hg5 hg6
      have hy0 : w9.cell? ⟨w.heap.size, i * 2, none⟩ = some (.bool false) := (blk_cell S9.out.b0 _).trans HAT0.out
      have hy1 : w9.cell? ⟨w.heap.size, i * 2 + 1, none⟩ = some (.int .i64 xh) := (blk_cell S9.out.b0 _).trans HAT1.out
      have hv0 : w9.cell? (ad2.add i) = some (.bool true) := ((S9.out.bel).cell (World.block_lt_of_cell? _ _ HW0.out)).trans HW0.out
      have hg4 : w9.cell? ⟨g, 4, none⟩ = some (.int .i64 x4) := (blk_cell BK9.out 4).trans rfl
      have hg5 : w9.cell? ⟨g, 5, none⟩ = some (.int .i64 x5) := (blk_cell BK9.out 5).trans rfl
      have hg6 : w9.cell? ⟨g, 6, none⟩ = some (.int .i64 x6) := (blk_cell BK9.out 6).trans rfl
      obtain ⟨cs1, hB1⟩ := S9.out.b1
      have HB1 := Aside0.mk hB1
      clear hB1
      go_wp2_with (first | ((with_reducible refine gate_dst (N := 69) rfl ?_); refine wpList_load_row rfl 138 (.tmp 3) rfl w.heap.size rfl 138 (rsC rs) (0, 0) _ S9.out.b0 hu rfl rs_size ?_) | ((with_reducible refine gate_store (t := 138) (p := 6) rfl ?_); refine wpList_store_row rfl 138 (.tmp 6) (.tmp 69) rfl (w.heap.size + 1) (rsC rs) rfl rfl 138 _ HB1.out rs_size rfl (rsC_one rs) ?_))
      refine bodyPost_ret (results_ctt rfl _ _ (w.heap.size + 1) 138 (rsC rs) (0, 0) _ rfl (setRow_heap _ _ _ _ _ _ HB1.out) hu rfl rs_size) rfl ?_
      exact ⟨rfl, below_row S9.out.bel (by omega) _⟩
     ·
      rw [if_neg hlo] at H
      have hd1 : decide (xh < x6) = false := decide_eq_false hlo
      clear hlo
      have H' := Aside0.mk H
      clear H
      go_quiet (fail)
      rw [drewN_self w7]; generalize hq_ : World.drewN w7 _ = w8
      have BD_ := Aside0.mk (show Below w7.heap.size w7 w8 from hq_ ▸ pw_below_drewN (Below.refl _ _) _)
      have S8 := Aside0.mk (S7.out.below BD_.out)
      have BK8 := Aside0.mk (blk_below BK7.out BD_.out)
      clear hq_ BD_ hy0 hy1 hv0 hg4 hg5 hg6
      have hy0 : w8.cell? ⟨w.heap.size, i * 2, none⟩ = some (.bool false) := (blk_cell S8.out.b0 _).trans HAT0.out
      have hy1 : w8.cell? ⟨w.heap.size, i * 2 + 1, none⟩ = some (.int .i64 xh) := (blk_cell S8.out.b0 _).trans HAT1.out
      have hv0 : w8.cell? (ad2.add i) = some (.bool true) := ((S8.out.bel).cell (World.block_lt_of_cell? _ _ HW0.out)).trans HW0.out
      have hg4 : w8.cell? ⟨g, 4, none⟩ = some (.int .i64 x4) := (blk_cell BK8.out 4).trans rfl
      have hg5 : w8.cell? ⟨g, 5, none⟩ = some (.int .i64 x5) := (blk_cell BK8.out 5).trans rfl
      have hg6 : w8.cell? ⟨g, 6, none⟩ = some (.int .i64 x6) := (blk_cell BK8.out 6).trans rfl
      go_wp2
      go_quiet (fail)
      rw [drewN_self w8]; generalize hq_ : World.drewN w8 _ = w9
      have BD_ := Aside0.mk (show Below w8.heap.size w8 w9 from hq_ ▸ pw_below_drewN (Below.refl _ _) _)
      have S9 := Aside0.mk (S8.out.below BD_.out)
      have BK9 := Aside0.mk (blk_below BK8.out BD_.out)
      clear hq_ BD_ hy0 hy1 hv0 hg4 hg5 hg6
      have hy0 : w9.cell? ⟨w.heap.size, i * 2, none⟩ = some (.bool false) := (blk_cell S9.out.b0 _).trans HAT0.out
      have hy1 : w9.cell? ⟨w.heap.size, i * 2 + 1, none⟩ = some (.int .i64 xh) := (blk_cell S9.out.b0 _).trans HAT1.out
      have hv0 : w9.cell? (ad2.add i) = some (.bool true) := ((S9.out.bel).cell (World.block_lt_of_cell? _ _ HW0.out)).trans HW0.out
      have hg4 : w9.cell? ⟨g, 4, none⟩ = some (.int .i64 x4) := (blk_cell BK9.out 4).trans rfl
      have hg5 : w9.cell? ⟨g, 5, none⟩ = some (.int .i64 x5) := (blk_cell BK9.out 5).trans rfl
      have hg6 : w9.cell? ⟨g, 6, none⟩ = some (.int .i64 x6) := (blk_cell BK9.out 6).trans rfl
      have hfz0 : w9.frozen? ⟨w.heap.size, i * 2, none⟩ = false := blk_frozen S9.out.b0 _
      have hfz1 : w9.frozen? ⟨w.heap.size, i * 2 + 1, none⟩ = false := blk_frozen S9.out.b0 _
      go_wp2_with ((with_reducible refine gate_store (t := 136) (p := 76) rfl ?_); refine store_event (t := 136) (p := 76) (v := ?vo_76) (w1 := ((w9.setCell ⟨w.heap.size, i * 2, none⟩ (.bool true)).setCell ⟨w.heap.size, i * 2 + 1, none⟩ (.int .i64 1))) ?hg ?ho ?hn ?hr ?_; (case ho => rfl); (case hg => rfl); (case hn => rfl); (case hr => first | (go_simp; done) | (go_simp; rfl)); intro w10 hw; have S10 := Aside0.mk (S9.out.put hi4n true 1 hw); have hv0_ : w10.cell? (ad2.add i) = some (.bool true) := ((S10.out.bel).cell (World.block_lt_of_cell? _ _ HW0.out)).trans HW0.out; have BK10 := Aside0.mk (blk_far2 BK9.out HGN.out hw); have hg4_ : w10.cell? ⟨g, 4, none⟩ = some (.int .i64 x4) := (blk_cell BK10.out 4).trans rfl; clear hw hy0 hy1 hv0 hg4 hg5 hg6 hfz0 hfz1)
      all_goals
       go_roundg (n - (i + 1))
       case measure => omega
       case rel => exact ⟨i + 1, _, _, by omega, by omega, by go_num, rfl, S10, H'⟩
    | false =>
     simp only [if_true] at H
     have H' := Aside0.mk H
     clear H
     go_quiet (fail)
     rw [drewN_self w7]; generalize hq_ : World.drewN w7 _ = w8
     have BD_ := Aside0.mk (show Below w7.heap.size w7 w8 from hq_ ▸ pw_below_drewN (Below.refl _ _) _)
     have S8 := Aside0.mk (S7.out.below BD_.out)
     have BK8 := Aside0.mk (blk_below BK7.out BD_.out)
     clear hq_ BD_ hy0 hy1 hv0 hg4 hg5 hg6
     have hy0 : w8.cell? ⟨w.heap.size, i * 2, none⟩ = some (.bool false) := (blk_cell S8.out.b0 _).trans HAT0.out
     have hy1 : w8.cell? ⟨w.heap.size, i * 2 + 1, none⟩ = some (.int .i64 xh) := (blk_cell S8.out.b0 _).trans HAT1.out
     have hv0 : w8.cell? (ad2.add i) = some (.bool false) := ((S8.out.bel).cell (World.block_lt_of_cell? _ _ HW0.out)).trans HW0.out
     have hg4 : w8.cell? ⟨g, 4, none⟩ = some (.int .i64 x4) := (blk_cell BK8.out 4).trans rfl
     have hg5 : w8.cell? ⟨g, 5, none⟩ = some (.int .i64 x5) := (blk_cell BK8.out 5).trans rfl
     have hg6 : w8.cell? ⟨g, 6, none⟩ = some (.int .i64 x6) := (blk_cell BK8.out 6).trans rfl
     have hfz : w8.frozen? ⟨w.heap.size, i * 2 + 1, none⟩ = false := blk_frozen S8.out.b0 _
     go_wp2_with ((with_reducible refine gate_store (t := 2) (p := 39) rfl ?_); refine store_event (t := 2) (p := 39) (v := ?vo_39) (w1 := (w8.setCell ⟨w.heap.size, i * 2 + 1, none⟩ (.int .i64 (mn (wrap64 (xh + 1)) 3)))) ?hg ?ho ?hn ?hr ?_; (case ho => rfl); (case hg => rfl); (case hn => rfl); (case hr => first | (go_simp; done) | (go_simp; rfl)); intro w9 hw; have S9 := Aside0.mk (S8.out.puth hi4n _ hw); clear hw; rw [HX.out] at S9)
     all_goals
      go_roundg (n - (i + 1))
      case measure => omega
      case rel => exact ⟨i + 1, _, _, by omega, by omega, by go_num, rfl, S9, H'⟩
  ·
   obtain rfl : i = n := by omega
   have H := HA.out
   rw [Nat.sub_self] at H
   have hltz : decide ((i : Int) < (i : Int)) = false := decide_eq_false (by omega)
   have hltz2 : decide (i < i) = false := decide_eq_false (by omega)
   have h2 : (rs, s, true) = r := H
   subst h2
   clear H HA hlt
   obtain ⟨cs1, hB1⟩ := SR.out.b1
   have HB1 := Aside0.mk hB1
   clear hB1
   go_wp2_with (first | ((with_reducible refine gate_dst (N := 86) rfl ?_); refine wpList_load_row rfl 138 (.tmp 3) rfl w.heap.size rfl 138 (rsC rs) (0, 0) _ SR.out.b0 hu rfl rs_size ?_) | ((with_reducible refine gate_store (t := 138) (p := 6) rfl ?_); refine wpList_store_row rfl 138 (.tmp 6) (.tmp 86) rfl (w.heap.size + 1) (rsC rs) rfl rfl 138 _ HB1.out rs_size rfl (rsC_one rs) ?_))
   refine bodyPost_ret (results_ctt rfl _ _ (w.heap.size + 1) 138 (rsC rs) (0, 0) _ rfl (setRow_heap _ _ _ _ _ _ HB1.out) hu rfl rs_size) rfl ?_
   exact ⟨rfl, below_row SR.out.bel (by omega) _⟩

theorem row_store {P : Program} {w : World} {ops : Array Oper} {rest : List Oper} {o : Oper} {a : Act} {Q : Exit → Act → World → Prop} (hgd : o.guard = none) (ty : TypeId) (x y : Operand) (ho : o.op = .store ty x y)
  (g : Nat) (cells : Array Value) (hx : a.eval x = .pointer (some ⟨g, 0, none⟩)) (hy : a.eval y = .agg cells)
  (t : TypeId) (old : Array Value) (hg : w.heap[g]? = some (.cells old t (0, 0))) (hi : (P.info? ty).map (·.size) = some cells.size)
  (hold : old.size = cells.size) (h1 : cells.all (·.oneCell') = true)
  (h : ∀ w', w' = w.setRow g cells → wpList P ops Q rest (a.put o.dst undef) w') : wpList P ops Q (o :: rest) a w :=
 wpList_store_row hgd ty x y ho g cells hx hy t old hg hi hold h1 (h _ rfl)
theorem row_far {w w' : World} {g k : Nat} {cs : Array Value} {o : Obj} (h : w.heap[k]? = some o) (hne : k ≠ g) (e : w' = w.setRow g cs) : w'.heap[k]? = some o := by
 subst e
 rw [setRow_other w g k cs hne]
 exact h
theorem row_now {w w' : World} {g : Nat} {cs old : Array Value} {t : TypeId} (h : w.heap[g]? = some (.cells old t (0, 0))) (e : w' = w.setRow g cs) : w'.heap[g]? = some (.cells cs t (0, 0)) := by
 subst e
 exact setRow_heap _ _ _ _ _ _ h
theorem row_bel {w0 w w' : World} {g : Nat} {cs : Array Value} (h : Below w0.heap.size w0 w) (hg : w0.heap.size ≤ g) (e : w' = w.setRow g cs) : Below w0.heap.size w0 w' := by
 subst e
 exact below_row h hg cs
def rdB (l1 : List (List Bool)) (i : Nat) : List Bool := l1.getD i []
theorem at_rdB {w : World} {A : Option Addr} {n : Nat} {xs : List (List Bool)} (h : Kd.C (Kd.slice 4 Kd.bool) w A n xs) (i : Nat) (h1 : i < n) : ∃ ad A0 c0, A = some ad ∧ w.cell? (ad.add i) = some (.slice A0 (rdB xs i).length c0) ∧ (rdB xs i).length ≤ c0 ∧ Kd.bool.C w A0 (rdB xs i).length (rdB xs i) := by
 obtain ⟨ad, c, e, _, hK, hc0⟩ := Kd.C_get h ([] : List Bool) (i : Int) (by omega) (by omega)
 rw [Int.toNat_natCast] at hc0 hK
 have hc : ∀ j u, c[j]? = some u → w.cell? (ad.add (i * 1 + j)) = some u := hc0
 obtain ⟨A0, c0, rfl, l0, g0⟩ := hK
 exact ⟨ad, A0, c0, e, by have hq := hc 0 _ rfl; rwa [Nat.mul_one, Nat.add_zero] at hq, l0, g0⟩

def ipL (k : Nat) (l0 : List S77) (l1 : List (List Bool)) (l2 : List Int) : Nat → Nat → List (Bool × Int) → Option Bool
 | 0, _, _ => some true
 | m + 1, i, rs => if (rdB l1 i).length = l0.length then (if (nx l0 (rdB l1 i) l0.length 0 rs 0).2.2 = true then ((impl_shareDemand.f k l0 (rdB l1 i) (rd l2 (i : Int))).bind fun t => if t.2 = true then ipL k l0 l1 l2 m (i + 1) (nx l0 (rdB l1 i) l0.length 0 rs 0).1 else some false) else some false) else none
def impl_isPlan.f (k : Nat) (l0 : List S77) (l1 : List (List Bool)) (l2 : List Int) : Option Bool :=
 if l1.length = l2.length then (if l0.length ≤ 4 then ipL k l0 l1 l2 l1.length 0 rs0 else none) else some false
theorem ipL.mono (l0 : List S77) (l1 : List (List Bool)) (l2 : List Int) (k : Nat) : ∀ m i rs, LeO (ipL k l0 l1 l2 m i rs) (ipL (k + 1) l0 l1 l2 m i rs)
 | 0, _, _ => LeO.refl _
 | m + 1, i, rs => LeO.ite (LeO.ite (LeO.bind (impl_shareDemand.mono _ _ _ _) (fun _ => LeO.ite (ipL.mono l0 l1 l2 k m _ _) (LeO.refl _))) (LeO.refl _)) (LeO.refl _)
theorem impl_isPlan.mono : ∀ a0 a1 a2 k, LeO (impl_isPlan.f k a0 a1 a2) (impl_isPlan.f (k + 1) a0 a1 a2) := by
 intro a0 a1 a2 k
 unfold impl_isPlan.f
 exact LeO.ite (LeO.ite (ipL.mono _ _ _ _ _ _ _) (LeO.refl _)) (LeO.refl _)
set_option maxHeartbeats 8000000 in
set_option maxRecDepth 100000 in
theorem impl_isPlan.calls (k : Nat) (A0 : Option Addr) (c0 : Nat) (l0 : List S77) (A1 : Option Addr) (c1 : Nat) (l1 : List (List Bool)) (A2 : Option Addr) (c2 : Nat) (l2 : List Int) (r : Bool) (w : World) (hr0 : Kd.C k77 w A0 l0.length l0) (hc0 : l0.length ≤ c0) (hr1 : Kd.C (Kd.slice 4 Kd.bool) w A1 l1.length l1) (hc1 : l1.length ≤ c1) (hr2 : Kd.C (Kd.int .i64) w A2 l2.length l2) (hc2 : l2.length ≤ c2) (h : impl_isPlan.f k l0 l1 l2 = some r) :
  Calls Try.prog 94 #[.slice A0 l0.length c0, .slice A1 l1.length c1, .slice A2 l2.length c2] w fun e w' => e = .returned (.bool r) ∧ Below w.heap.size w w' := by
 unfold impl_isPlan.f at h
 have hu := Try.underlying138
 split at h
 ·
  rename_i hlen
  split at h
  ·
   rename_i hl4
   have HR0 := Aside0.mk hr0
   have HC0 := Aside0.mk hc0
   have HR1 := Aside0.mk hr1
   have HR2 := Aside0.mk hr2
   rw [← hlen] at HR2 ⊢
   obtain ⟨n, hn⟩ : ∃ n, l1.length = n := ⟨_, rfl⟩
   rw [hn] at HR1 HR2 h ⊢
   have HH := Aside0.mk h
   have HL4 := Aside0.mk hl4
   have hmax : (n : Int) ≤ 9223372036854775807 := by have := Kd.C_max HR1.out; omega
   obtain ⟨m0, hm0⟩ : ∃ m0, l0.length = m0 := ⟨_, rfl⟩
   rw [hm0] at HR0 HC0 HL4 ⊢
   have HM0 := Aside0.mk hm0
   clear h hr0 hc0 hr1 hc1 hr2 hc2 hlen hn hl4 hm0
   go_enter Try.func94, Try.ntmps94
   go_wp2_with (first | (go_at_call 126; refine (firstRuns_ _).mono ?_; rintro e w1 ⟨rfl, hb⟩; have B1 := Aside0.mk hb; clear hb) | ((with_reducible refine gate_dst (N := 7) rfl ?_); refine box_event ?hg (N := 7) ?hd (cs := #[.bool false, .int .i64 0, .bool false, .int .i64 0, .bool false, .int .i64 0, .bool false, .int .i64 0]) (t := 138) ?hr ?_; (case hd => rfl); (case hg => rfl); (case hr => first | (go_simp; done) | (go_simp; rfl)); intro G hg_ w2 hbox hb; have K2 := Aside0.mk hbox; have B2 := Aside0.mk (B1.out.trans (hb.mono B1.out.size)); have HG := Aside0.mk (show w.heap.size ≤ G by rw [hg_]; exact B1.out.size); clear hg_ hbox hb) | ((with_reducible refine gate_store (t := 138) (p := 7) rfl ?_); refine row_store rfl 138 (.tmp 7) (.tmp 16) rfl G (rsC rs0) rfl rfl 138 _ K2.out rs_size rfl (rsC_one _) ?_; intro w3 hw; have K3 := Aside0.mk (row_now K2.out hw); have B3 := Aside0.mk (row_bel B2.out HG.out hw); clear hw))
   go_loopg [19] n (fun gg s19 wr => ∃ (i : Nat) (rs : List (Bool × Int)), i ≤ n ∧ n - i ≤ gg ∧ s19 = .int .i64 (i : Int) ∧ Aside0 (rs.length = 4) ∧ Aside0 (wr.heap[G]? = some (.cells (rsC rs) 138 (0, 0))) ∧ Aside0 (Below w.heap.size w wr) ∧ Aside0 (ipL k l0 l1 l2 (n - i) i rs = some r))
   case atStart => exact ⟨0, rs0, by omega, by omega, rfl, ⟨rfl⟩, K3, B3, HH⟩
   case round =>
    clear HH K3 B3
    obtain ⟨i, rs, hi, hg, rfl, HRL, KR, BW, HA⟩ := hrel
    by_cases hlt : i < n
    ·
     have hltz : decide ((i : Int) < (n : Int)) = true := decide_eq_true (by omega)
     have hltz2 : decide (i < n) = true := decide_eq_true hlt
     have hi0 : 0 ≤ (i : Int) := by omega
     have hin : (i : Int) < (n : Int) := by omega
     have H := HA.out
     rw [show n - i = (n - (i + 1)) + 1 by omega, ipL] at H
     by_cases hol : (rdB l1 i).length = l0.length
     ·
      rw [if_pos hol] at H
      obtain ⟨ad, Ar, cr, rfl, hw1, hcr, hrr⟩ := at_rdB HR1.out i hlt
      obtain ⟨ad2, rfl, hw2⟩ := Kd.at_int HR2.out (i : Int) (by omega) hin
      rw [Int.toNat_natCast] at hw2
      have HNX := Aside0.mk (next_ A0 c0 l0 Ar cr (rdB l1 i) rs wr HRL.out (by rw [HM0.out]; exact Kd.C_below HR0.out BW.out) (by rw [HM0.out]; exact HL4.out) (Kd.C_below hrr BW.out) hol)
      have hsd := fun (W : World) (hb : Below w.heap.size w W) r1 r2 (hs : impl_shareDemand.f k l0 (rdB l1 i) (rd l2 (i : Int)) = some (r1, r2)) => impl_shareDemand.calls k A0 c0 l0 Ar cr (rdB l1 i) (rd l2 (i : Int)) r1 r2 W (by rw [HM0.out]; exact Kd.C_below HR0.out hb) (by rw [HM0.out]; exact HC0.out) (Kd.C_below hrr hb) hcr hs
      rw [HM0.out] at HNX hsd hol
      rw [hol] at hw1 HNX hsd
      have hx1 := (BW.out.cell (World.block_lt_of_cell? _ _ hw1)).trans hw1
      have hnl := nx_len l0 (rdB l1 i) l0.length 0 rs 0
      rw [HRL.out] at hnl
      rw [HM0.out] at H hnl
      have HSD := Aside0.mk hsd
      generalize rd l2 (i : Int) = dd at *
      have HX2 := Aside0.mk hw2
      clear hsd hrr hcr hol hlt HA hw1 hw2
      generalize nx l0 (rdB l1 i) m0 0 rs 0 = q at *
      obtain ⟨q1, q2, q3⟩ := q
      have HNL := Aside0.mk (show q1.length = 4 from hnl)
      clear hnl
      have HGL := Aside0.mk (show w.heap.size ≤ G from HG.out)
      cases q3 with
      | false =>
       simp only [Bool.false_eq_true, if_false, Option.some.injEq] at H
       subst H
       go_wp2_with (first | ((with_reducible refine gate_dst (N := 25) rfl ?_); refine wpList_load_row rfl 138 (.tmp 7) rfl G rfl 138 (rsC rs) (0, 0) _ KR.out hu rfl rs_size ?_) | (go_at_call 127; refine HNX.out.mono ?_; rintro e w4 ⟨rfl, hb⟩; have BR4 := Aside0.mk hb; have K4 := Aside0.mk (blk_below KR.out hb); have B4 := Aside0.mk (BW.out.trans (hb.mono BW.out.size)); clear hb) | ((with_reducible refine gate_store (t := 138) (p := 7) rfl ?_); refine row_store rfl 138 (.tmp 7) (.tmp 29) rfl G (rsC q1) rfl rfl 138 _ K4.out rs_size rfl (rsC_one _) ?_; intro w5 hw; have K5 := Aside0.mk (row_now K4.out hw); have B5 := Aside0.mk (row_bel B4.out HGL.out hw); have hy2 : w5.cell? (ad2.add i) = some (.int .i64 dd) := (B5.out.cell (World.block_lt_of_cell? _ _ HX2.out)).trans HX2.out; clear hw))
       go_ret
       exact ⟨rfl, B5.out⟩
      | true =>
       simp only [if_true] at H
       obtain ⟨⟨t1, t2⟩, hsh, H⟩ := Option.bind_eq_some_iff.mp H
       have HSH := Aside0.mk hsh
       clear hsh
       cases t2 with
       | false =>
        simp only [Bool.false_eq_true, if_false, Option.some.injEq] at H
        subst H
        go_wp2_with (first | ((with_reducible refine gate_dst (N := 25) rfl ?_); refine wpList_load_row rfl 138 (.tmp 7) rfl G rfl 138 (rsC rs) (0, 0) _ KR.out hu rfl rs_size ?_) | (go_at_call 127; refine HNX.out.mono ?_; rintro e w4 ⟨rfl, hb⟩; have BR4 := Aside0.mk hb; have K4 := Aside0.mk (blk_below KR.out hb); have B4 := Aside0.mk (BW.out.trans (hb.mono BW.out.size)); clear hb) | ((with_reducible refine gate_store (t := 138) (p := 7) rfl ?_); refine row_store rfl 138 (.tmp 7) (.tmp 29) rfl G (rsC q1) rfl rfl 138 _ K4.out rs_size rfl (rsC_one _) ?_; intro w5 hw; have K5 := Aside0.mk (row_now K4.out hw); have B5 := Aside0.mk (row_bel B4.out HGL.out hw); have hy2 : w5.cell? (ad2.add i) = some (.int .i64 dd) := (B5.out.cell (World.block_lt_of_cell? _ _ HX2.out)).trans HX2.out; clear hw) | (go_at_call 69; refine (HSD.out w5 B5.out _ _ HSH.out).mono ?_; rintro e w6 ⟨v0, rfl, _, hb⟩; have K6 := Aside0.mk (blk_below K5.out hb); have B6 := Aside0.mk (B5.out.trans (hb.mono B5.out.size)); clear hb))
        go_ret
        exact ⟨rfl, B6.out⟩
       | true =>
        simp only [if_true] at H
        have H' := Aside0.mk H
        clear H
        go_wp2_with (first | ((with_reducible refine gate_dst (N := 25) rfl ?_); refine wpList_load_row rfl 138 (.tmp 7) rfl G rfl 138 (rsC rs) (0, 0) _ KR.out hu rfl rs_size ?_) | (go_at_call 127; refine HNX.out.mono ?_; rintro e w4 ⟨rfl, hb⟩; have BR4 := Aside0.mk hb; have K4 := Aside0.mk (blk_below KR.out hb); have B4 := Aside0.mk (BW.out.trans (hb.mono BW.out.size)); clear hb) | ((with_reducible refine gate_store (t := 138) (p := 7) rfl ?_); refine row_store rfl 138 (.tmp 7) (.tmp 29) rfl G (rsC q1) rfl rfl 138 _ K4.out rs_size rfl (rsC_one _) ?_; intro w5 hw; have K5 := Aside0.mk (row_now K4.out hw); have B5 := Aside0.mk (row_bel B4.out HGL.out hw); have hy2 : w5.cell? (ad2.add i) = some (.int .i64 dd) := (B5.out.cell (World.block_lt_of_cell? _ _ HX2.out)).trans HX2.out; clear hw) | (go_at_call 69; refine (HSD.out w5 B5.out _ _ HSH.out).mono ?_; rintro e w6 ⟨v0, rfl, _, hb⟩; have K6 := Aside0.mk (blk_below K5.out hb); have B6 := Aside0.mk (B5.out.trans (hb.mono B5.out.size)); clear hb))
        go_roundg (n - (i + 1))
        case measure => omega
        case rel => exact ⟨i + 1, q1, by omega, by omega, by go_num, HNL, K6, B6, H'⟩
     ·
      rw [if_neg hol] at H
      cases H
    ·
     obtain rfl : i = n := by omega
     have H := HA.out
     rw [Nat.sub_self] at H
     obtain rfl : true = r := Option.some.inj H
     have hltz : decide ((i : Int) < (i : Int)) = false := decide_eq_false (by omega)
     have hltz2 : decide (i < i) = false := decide_eq_false (by omega)
     clear H HA hlt
     go_wp2
     go_ret
     exact ⟨rfl, BW.out⟩
  ·
   cases h
 ·
  rename_i hlen
  obtain rfl : false = r := Option.some.inj h
  have hq0 : ¬ (l1.length : Int) = (l2.length : Int) := by omega
  have hq1 : ((l1.length : Int) != (l2.length : Int)) = true := bne_iff_ne.mpr hq0
  have hq2 : ((l1.length : Int) == (l2.length : Int)) = false := beq_eq_false_iff_ne.mpr hq0
  have hq3 : (l1.length == l2.length) = false := beq_eq_false_iff_ne.mpr hlen
  clear hq0 hlen h hr0 hc0 hr1 hc1 hr2 hc2
  go_enter Try.func94, Try.ntmps94
  go_wp2
  go_ret
  exact ⟨rfl, Below.refl _ _⟩

/-! ### impl_costOfPowers: function 70 -/
def impl_costOfPowers.l0 : Nat → List Int → Int → List (S77) → Int → Int → Option (Int)
 | 0, _, _, _, _, _ => none
 | k + 1, x1, x5, x8, x9, x10 => if x10 < x9 then (if 0 ≤ x10 then (if x10 < (x8.length : Int) then (if x10 < (x1.length : Int) then (impl_costOfPowers.l0 k x1 (wrap64 (x5 + (wrap64 ((rd x1 x10) * ((rd_T77 x8 x10).f3))))) x8 x9 (wrap64 (x10 + 1))) else (none)) else (none)) else (none)) else (some x5)
def impl_costOfPowers.f (k : Nat) (l0 : List (S77)) (l1 : List Int) : Option (Int) := impl_costOfPowers.l0 k l1 0 l0 (l0.length : Int) 0
theorem impl_costOfPowers.mono_l : ∀ k, (∀ y0 y1 y2 y3 y4, LeO (impl_costOfPowers.l0 k y0 y1 y2 y3 y4) (impl_costOfPowers.l0 (k + 1) y0 y1 y2 y3 y4))
 | 0 => fun _ _ _ _ _ r h => by simp [impl_costOfPowers.l0] at h
 | k + 1 => by
  have ih0 := impl_costOfPowers.mono_l k
  ·
   intro y0 y1 y2 y3 y4
   unfold impl_costOfPowers.l0
   repeat' first
   | (with_reducible exact ih0 _ _ _ _ _)
   | (with_reducible exact LeO.refl _)
   | (with_reducible exact LeO.none _)
   | (with_reducible refine LeO.ite ?_ ?_)
   | (with_reducible refine LeO.bind ?_ (fun _ => ?_))
   | exact ih0 _ _ _ _ _
   | exact LeO.none _
   | refine LeO.ite ?_ ?_
   | refine LeO.bind ?_ (fun _ => ?_)
theorem impl_costOfPowers.mono : ∀ a0 a1 k, LeO (impl_costOfPowers.f k a0 a1) (impl_costOfPowers.f (k + 1) a0 a1) := by
 intro a0 a1 k
 have ih0 := impl_costOfPowers.mono_l k
 unfold impl_costOfPowers.f
 repeat' first
   | (with_reducible exact ih0 _ _ _ _ _)
   | (with_reducible exact LeO.refl _)
   | (with_reducible exact LeO.none _)
   | (with_reducible refine LeO.ite ?_ ?_)
   | (with_reducible refine LeO.bind ?_ (fun _ => ?_))
   | exact ih0 _ _ _ _ _
   | exact LeO.none _
   | refine LeO.ite ?_ ?_
   | refine LeO.bind ?_ (fun _ => ?_)
set_option maxHeartbeats 8000000 in
set_option maxRecDepth 100000 in
theorem impl_costOfPowers.calls (k : Nat) (A0 : Option Addr) (c0 : Nat) (l0 : List (S77)) (A1 : Option Addr) (c1 : Nat) (l1 : List Int) (r : Int) (w : World) (hr0 : Kd.C k77 w A0 l0.length l0) (hc0 : l0.length ≤ c0) (hr1 : Kd.C (Kd.int .i64) w A1 l1.length l1) (hc1 : l1.length ≤ c1) (h : impl_costOfPowers.f k l0 l1 = some r) :
  Calls Try.prog 70 #[.slice A0 l0.length c0, .slice A1 l1.length c1] w fun e w' => e = .returned (.int .i64 r) ∧ Below w.heap.size w w' := by
 have hu77 := Try.underlying77
 have HR0 := Aside0.mk hr0
 have HC0 := Aside0.mk hc0
 clear hr0 hc0
 have HR1 := Aside0.mk hr1
 have HC1 := Aside0.mk hc1
 clear hr1 hc1
 have HB := Aside0.mk (Below.refl w.heap.size w)
 have H : (impl_costOfPowers.l0 k l1 0 l0 (l0.length : Int) 0) = some r := h
 clear h
 have H' := Aside0.mk H
 clear H
 go_enter Try.func70, Try.ntmps70
 go_wp2
 repeat (go_quiet (fail); try go_wp2)
 go_loopg [5, 10] k (fun kq v5 v10 w' => ∃ (x5_1 : Int) (x10_1 : Int), v5 = .int .i64 x5_1 ∧ v10 = .int .i64 x10_1 ∧ Aside0 (impl_costOfPowers.l0 kq l1 x5_1 l0 (l0.length : Int) x10_1 = some r) ∧ Aside0 (kq ≤ k) ∧ Aside0 (Below w.heap.size w w'))
 case atStart => exact ⟨(0), (0), rs_, rs_, H', ⟨Nat.le_refl _⟩, ⟨bB_⟩⟩
 case round =>
  clear H'
  try clear c1
  try clear p2
  obtain ⟨x5_1, x10_1, rfl, rfl, HA, HK1, HB⟩ := hrel
  cases gk with
  | zero => exact absurd HA.out (by simp [impl_costOfPowers.l0])
  | succ k1 =>
   have H := HA.out
   clear HA
   simp only [impl_costOfPowers.l0] at H
   by_cases c3 : x10_1 < (l0.length : Int)
   ·
    rw [if_pos c3] at H
    have c3b0 : decide (x10_1 < (l0.length : Int)) = true := decide_eq_true c3
    clear c3
    by_cases c4 : 0 ≤ x10_1
    ·
     rw [if_pos c4] at H
     have c4b0 : decide (0 ≤ x10_1) = true := decide_eq_true c4
     clear c4
     by_cases c5 : x10_1 < (l0.length : Int)
     ·
      rw [if_pos c5] at H
      have c5b0 : decide (x10_1 < (l0.length : Int)) = true := decide_eq_true c5
      clear c5
      by_cases c6 : x10_1 < (l1.length : Int)
      ·
       rw [if_pos c6] at H
       have c6b0 : decide (x10_1 < (l1.length : Int)) = true := decide_eq_true c6
       clear c6
       have H' := Aside0.mk H
       clear H
       have p295 : 0 ≤ (x10_1 : Int) := of_decide_eq_true as_
       have q295 : x10_1 < (l0.length : Int) := of_decide_eq_true as_
       obtain ⟨ad295, e295, hx295_0, hx295_1, hx295_2, hx295_3, hx295_4, hx295_5, hx295_6⟩ := at_T77 HR0.out x10_1 p295 q295
       cases e295
       replace hx295_0 := cl_ HB hx295_0
       replace hx295_1 := cl_ HB hx295_1
       replace hx295_2 := cl_ HB hx295_2
       replace hx295_3 := cl_ HB hx295_3
       replace hx295_4 := cl_ HB hx295_4
       replace hx295_5 := cl_ HB hx295_5
       replace hx295_6 := cl_ HB hx295_6
       replace p295 := eq_true p295
       replace q295 := eq_true q295
       go_wp2_with (first | ((with_reducible refine gate_dst (N := 7) rfl ?_); refine box_event ?hg (N := 7) ?hd (cs := #[.string (⟨#[]⟩ : ByteArray), .int .i64 0, .int .i64 0, .int .i64 0, .int .i64 0, .int .i64 0, .int .i64 0]) (t := 77) ?hr ?_; (case hd => rfl); (case hg => rfl); (case hr => first | (go_simp; done) | (go_simp; rfl)); intro gb296 hg w7 hbox hb; have n0_ := Aside0.mk (below_step bB_ hb); have n1_ := Aside0.mk (hbox); have n2_ := Aside0.mk ((by rw [hg]; exact (below_size bB_) : w.heap.size ≤ gb296)); have n3_ := Aside0.mk ((by rw [hg]; exact (below_size bB_) : w.heap.size ≤ gb296)); clear HB; have HB := n0_; have BK296 := n1_; have GW296 := n2_; have GE296 := n3_; clear n0_ n1_ n2_ n3_; clear hb hbox hg; have hcz8_0 : w7.cell? ⟨gb296, 0, none⟩ = some (.string (⟨#[]⟩ : ByteArray)) := (blk_cell BK296.out 0).trans rfl; have hcz8_1 : w7.cell? ⟨gb296, 1, none⟩ = some (.int .i64 0) := (blk_cell BK296.out 1).trans rfl; have hcz8_2 : w7.cell? ⟨gb296, 2, none⟩ = some (.int .i64 0) := (blk_cell BK296.out 2).trans rfl; have hcz8_3 : w7.cell? ⟨gb296, 3, none⟩ = some (.int .i64 0) := (blk_cell BK296.out 3).trans rfl; have hcz8_4 : w7.cell? ⟨gb296, 4, none⟩ = some (.int .i64 0) := (blk_cell BK296.out 4).trans rfl; have hcz8_5 : w7.cell? ⟨gb296, 5, none⟩ = some (.int .i64 0) := (blk_cell BK296.out 5).trans rfl; have hcz8_6 : w7.cell? ⟨gb296, 6, none⟩ = some (.int .i64 0) := (blk_cell BK296.out 6).trans rfl; have hfz8_0 := blk_frozen BK296.out 0; have hfz8_1 := blk_frozen BK296.out 1; have hfz8_2 := blk_frozen BK296.out 2; have hfz8_3 := blk_frozen BK296.out 3; have hfz8_4 := blk_frozen BK296.out 4; have hfz8_5 := blk_frozen BK296.out 5; have hfz8_6 := blk_frozen BK296.out 6; have p297 : 0 ≤ (x10_1 : Int) := of_decide_eq_true as_; have q297 : x10_1 < (l1.length : Int) := of_decide_eq_true as_; obtain ⟨ad297, e297, hx297_0⟩ := Kd.at_int HR1.out x10_1 p297 q297; cases e297; have hn297_0 : ad297.block ≠ gb296 := Nat.ne_of_lt (Nat.lt_of_lt_of_le (by have := World.block_lt_of_cell? _ _ hx297_0; first | rwa [add_block] at this | exact this) GW296.out); have hn297_1 : ad297.block ≠ gb296 := Nat.ne_of_lt (Nat.lt_of_lt_of_le (by have := World.block_lt_of_cell? _ _ hx297_0; first | rwa [add_block] at this | exact this) GW296.out); have hn297_2 : ad297.block ≠ gb296 := Nat.ne_of_lt (Nat.lt_of_lt_of_le (by have := World.block_lt_of_cell? _ _ hx297_0; first | rwa [add_block] at this | exact this) GW296.out); have hn297_3 : ad297.block ≠ gb296 := Nat.ne_of_lt (Nat.lt_of_lt_of_le (by have := World.block_lt_of_cell? _ _ hx297_0; first | rwa [add_block] at this | exact this) GW296.out); have hn297_4 : ad297.block ≠ gb296 := Nat.ne_of_lt (Nat.lt_of_lt_of_le (by have := World.block_lt_of_cell? _ _ hx297_0; first | rwa [add_block] at this | exact this) GW296.out); have hn297_5 : ad297.block ≠ gb296 := Nat.ne_of_lt (Nat.lt_of_lt_of_le (by have := World.block_lt_of_cell? _ _ hx297_0; first | rwa [add_block] at this | exact this) GW296.out); have hn297_6 : ad297.block ≠ gb296 := Nat.ne_of_lt (Nat.lt_of_lt_of_le (by have := World.block_lt_of_cell? _ _ hx297_0; first | rwa [add_block] at this | exact this) GW296.out); replace hx297_0 := cl_ HB hx297_0; replace hx297_0 := (cell_far (p := ⟨gb296, 0, none⟩) (by first | (rw [add_block]; exact hn297_0) | (show (Addr.add _ _).block ≠ _; rw [add_block]; exact hn297_0) | exact hn297_0) (.string ((rd_T77 l0 x10_1).f0))).trans hx297_0; replace hx297_0 := (cell_far (p := ⟨gb296, 1, none⟩) (by first | (rw [add_block]; exact hn297_1) | (show (Addr.add _ _).block ≠ _; rw [add_block]; exact hn297_1) | exact hn297_1) (.int .i64 ((rd_T77 l0 x10_1).f1))).trans hx297_0; replace hx297_0 := (cell_far (p := ⟨gb296, 2, none⟩) (by first | (rw [add_block]; exact hn297_2) | (show (Addr.add _ _).block ≠ _; rw [add_block]; exact hn297_2) | exact hn297_2) (.int .i64 ((rd_T77 l0 x10_1).f2))).trans hx297_0; replace hx297_0 := (cell_far (p := ⟨gb296, 3, none⟩) (by first | (rw [add_block]; exact hn297_3) | (show (Addr.add _ _).block ≠ _; rw [add_block]; exact hn297_3) | exact hn297_3) (.int .i64 ((rd_T77 l0 x10_1).f3))).trans hx297_0; replace hx297_0 := (cell_far (p := ⟨gb296, 4, none⟩) (by first | (rw [add_block]; exact hn297_4) | (show (Addr.add _ _).block ≠ _; rw [add_block]; exact hn297_4) | exact hn297_4) (.int .i64 ((rd_T77 l0 x10_1).f4))).trans hx297_0; replace hx297_0 := (cell_far (p := ⟨gb296, 5, none⟩) (by first | (rw [add_block]; exact hn297_5) | (show (Addr.add _ _).block ≠ _; rw [add_block]; exact hn297_5) | exact hn297_5) (.int .i64 ((rd_T77 l0 x10_1).f5))).trans hx297_0; replace hx297_0 := (cell_far (p := ⟨gb296, 6, none⟩) (by first | (rw [add_block]; exact hn297_6) | (show (Addr.add _ _).block ≠ _; rw [add_block]; exact hn297_6) | exact hn297_6) (.int .i64 ((rd_T77 l0 x10_1).f6))).trans hx297_0; clear hn297_0; clear hn297_1; clear hn297_2; clear hn297_3; clear hn297_4; clear hn297_5; clear hn297_6; replace p297 := eq_true p297; replace q297 := eq_true q297))
       repeat (go_quiet (first | ((with_reducible refine gate_dst (N := 7) rfl ?_); refine box_event ?hg (N := 7) ?hd (cs := #[.string (⟨#[]⟩ : ByteArray), .int .i64 0, .int .i64 0, .int .i64 0, .int .i64 0, .int .i64 0, .int .i64 0]) (t := 77) ?hr ?_; (case hd => rfl); (case hg => rfl); (case hr => first | (go_simp; done) | (go_simp; rfl)); intro gb296 hg w7 hbox hb; have n0_ := Aside0.mk (below_step bB_ hb); have n1_ := Aside0.mk (hbox); have n2_ := Aside0.mk ((by rw [hg]; exact (below_size bB_) : w.heap.size ≤ gb296)); have n3_ := Aside0.mk ((by rw [hg]; exact (below_size bB_) : w.heap.size ≤ gb296)); clear HB; have HB := n0_; have BK296 := n1_; have GW296 := n2_; have GE296 := n3_; clear n0_ n1_ n2_ n3_; clear hb hbox hg; have hcz8_0 : w7.cell? ⟨gb296, 0, none⟩ = some (.string (⟨#[]⟩ : ByteArray)) := (blk_cell BK296.out 0).trans rfl; have hcz8_1 : w7.cell? ⟨gb296, 1, none⟩ = some (.int .i64 0) := (blk_cell BK296.out 1).trans rfl; have hcz8_2 : w7.cell? ⟨gb296, 2, none⟩ = some (.int .i64 0) := (blk_cell BK296.out 2).trans rfl; have hcz8_3 : w7.cell? ⟨gb296, 3, none⟩ = some (.int .i64 0) := (blk_cell BK296.out 3).trans rfl; have hcz8_4 : w7.cell? ⟨gb296, 4, none⟩ = some (.int .i64 0) := (blk_cell BK296.out 4).trans rfl; have hcz8_5 : w7.cell? ⟨gb296, 5, none⟩ = some (.int .i64 0) := (blk_cell BK296.out 5).trans rfl; have hcz8_6 : w7.cell? ⟨gb296, 6, none⟩ = some (.int .i64 0) := (blk_cell BK296.out 6).trans rfl; have hfz8_0 := blk_frozen BK296.out 0; have hfz8_1 := blk_frozen BK296.out 1; have hfz8_2 := blk_frozen BK296.out 2; have hfz8_3 := blk_frozen BK296.out 3; have hfz8_4 := blk_frozen BK296.out 4; have hfz8_5 := blk_frozen BK296.out 5; have hfz8_6 := blk_frozen BK296.out 6; have p297 : 0 ≤ (x10_1 : Int) := of_decide_eq_true as_; have q297 : x10_1 < (l1.length : Int) := of_decide_eq_true as_; obtain ⟨ad297, e297, hx297_0⟩ := Kd.at_int HR1.out x10_1 p297 q297; cases e297; have hn297_0 : ad297.block ≠ gb296 := Nat.ne_of_lt (Nat.lt_of_lt_of_le (by have := World.block_lt_of_cell? _ _ hx297_0; first | rwa [add_block] at this | exact this) GW296.out); have hn297_1 : ad297.block ≠ gb296 := Nat.ne_of_lt (Nat.lt_of_lt_of_le (by have := World.block_lt_of_cell? _ _ hx297_0; first | rwa [add_block] at this | exact this) GW296.out); have hn297_2 : ad297.block ≠ gb296 := Nat.ne_of_lt (Nat.lt_of_lt_of_le (by have := World.block_lt_of_cell? _ _ hx297_0; first | rwa [add_block] at this | exact this) GW296.out); have hn297_3 : ad297.block ≠ gb296 := Nat.ne_of_lt (Nat.lt_of_lt_of_le (by have := World.block_lt_of_cell? _ _ hx297_0; first | rwa [add_block] at this | exact this) GW296.out); have hn297_4 : ad297.block ≠ gb296 := Nat.ne_of_lt (Nat.lt_of_lt_of_le (by have := World.block_lt_of_cell? _ _ hx297_0; first | rwa [add_block] at this | exact this) GW296.out); have hn297_5 : ad297.block ≠ gb296 := Nat.ne_of_lt (Nat.lt_of_lt_of_le (by have := World.block_lt_of_cell? _ _ hx297_0; first | rwa [add_block] at this | exact this) GW296.out); have hn297_6 : ad297.block ≠ gb296 := Nat.ne_of_lt (Nat.lt_of_lt_of_le (by have := World.block_lt_of_cell? _ _ hx297_0; first | rwa [add_block] at this | exact this) GW296.out); replace hx297_0 := cl_ HB hx297_0; replace hx297_0 := (cell_far (p := ⟨gb296, 0, none⟩) (by first | (rw [add_block]; exact hn297_0) | (show (Addr.add _ _).block ≠ _; rw [add_block]; exact hn297_0) | exact hn297_0) (.string ((rd_T77 l0 x10_1).f0))).trans hx297_0; replace hx297_0 := (cell_far (p := ⟨gb296, 1, none⟩) (by first | (rw [add_block]; exact hn297_1) | (show (Addr.add _ _).block ≠ _; rw [add_block]; exact hn297_1) | exact hn297_1) (.int .i64 ((rd_T77 l0 x10_1).f1))).trans hx297_0; replace hx297_0 := (cell_far (p := ⟨gb296, 2, none⟩) (by first | (rw [add_block]; exact hn297_2) | (show (Addr.add _ _).block ≠ _; rw [add_block]; exact hn297_2) | exact hn297_2) (.int .i64 ((rd_T77 l0 x10_1).f2))).trans hx297_0; replace hx297_0 := (cell_far (p := ⟨gb296, 3, none⟩) (by first | (rw [add_block]; exact hn297_3) | (show (Addr.add _ _).block ≠ _; rw [add_block]; exact hn297_3) | exact hn297_3) (.int .i64 ((rd_T77 l0 x10_1).f3))).trans hx297_0; replace hx297_0 := (cell_far (p := ⟨gb296, 4, none⟩) (by first | (rw [add_block]; exact hn297_4) | (show (Addr.add _ _).block ≠ _; rw [add_block]; exact hn297_4) | exact hn297_4) (.int .i64 ((rd_T77 l0 x10_1).f4))).trans hx297_0; replace hx297_0 := (cell_far (p := ⟨gb296, 5, none⟩) (by first | (rw [add_block]; exact hn297_5) | (show (Addr.add _ _).block ≠ _; rw [add_block]; exact hn297_5) | exact hn297_5) (.int .i64 ((rd_T77 l0 x10_1).f5))).trans hx297_0; replace hx297_0 := (cell_far (p := ⟨gb296, 6, none⟩) (by first | (rw [add_block]; exact hn297_6) | (show (Addr.add _ _).block ≠ _; rw [add_block]; exact hn297_6) | exact hn297_6) (.int .i64 ((rd_T77 l0 x10_1).f6))).trans hx297_0; clear hn297_0; clear hn297_1; clear hn297_2; clear hn297_3; clear hn297_4; clear hn297_5; clear hn297_6; replace p297 := eq_true p297; replace q297 := eq_true q297)); try go_wp2_with (first | ((with_reducible refine gate_dst (N := 7) rfl ?_); refine box_event ?hg (N := 7) ?hd (cs := #[.string (⟨#[]⟩ : ByteArray), .int .i64 0, .int .i64 0, .int .i64 0, .int .i64 0, .int .i64 0, .int .i64 0]) (t := 77) ?hr ?_; (case hd => rfl); (case hg => rfl); (case hr => first | (go_simp; done) | (go_simp; rfl)); intro gb296 hg w7 hbox hb; have n0_ := Aside0.mk (below_step bB_ hb); have n1_ := Aside0.mk (hbox); have n2_ := Aside0.mk ((by rw [hg]; exact (below_size bB_) : w.heap.size ≤ gb296)); have n3_ := Aside0.mk ((by rw [hg]; exact (below_size bB_) : w.heap.size ≤ gb296)); clear HB; have HB := n0_; have BK296 := n1_; have GW296 := n2_; have GE296 := n3_; clear n0_ n1_ n2_ n3_; clear hb hbox hg; have hcz8_0 : w7.cell? ⟨gb296, 0, none⟩ = some (.string (⟨#[]⟩ : ByteArray)) := (blk_cell BK296.out 0).trans rfl; have hcz8_1 : w7.cell? ⟨gb296, 1, none⟩ = some (.int .i64 0) := (blk_cell BK296.out 1).trans rfl; have hcz8_2 : w7.cell? ⟨gb296, 2, none⟩ = some (.int .i64 0) := (blk_cell BK296.out 2).trans rfl; have hcz8_3 : w7.cell? ⟨gb296, 3, none⟩ = some (.int .i64 0) := (blk_cell BK296.out 3).trans rfl; have hcz8_4 : w7.cell? ⟨gb296, 4, none⟩ = some (.int .i64 0) := (blk_cell BK296.out 4).trans rfl; have hcz8_5 : w7.cell? ⟨gb296, 5, none⟩ = some (.int .i64 0) := (blk_cell BK296.out 5).trans rfl; have hcz8_6 : w7.cell? ⟨gb296, 6, none⟩ = some (.int .i64 0) := (blk_cell BK296.out 6).trans rfl; have hfz8_0 := blk_frozen BK296.out 0; have hfz8_1 := blk_frozen BK296.out 1; have hfz8_2 := blk_frozen BK296.out 2; have hfz8_3 := blk_frozen BK296.out 3; have hfz8_4 := blk_frozen BK296.out 4; have hfz8_5 := blk_frozen BK296.out 5; have hfz8_6 := blk_frozen BK296.out 6; have p297 : 0 ≤ (x10_1 : Int) := of_decide_eq_true as_; have q297 : x10_1 < (l1.length : Int) := of_decide_eq_true as_; obtain ⟨ad297, e297, hx297_0⟩ := Kd.at_int HR1.out x10_1 p297 q297; cases e297; have hn297_0 : ad297.block ≠ gb296 := Nat.ne_of_lt (Nat.lt_of_lt_of_le (by have := World.block_lt_of_cell? _ _ hx297_0; first | rwa [add_block] at this | exact this) GW296.out); have hn297_1 : ad297.block ≠ gb296 := Nat.ne_of_lt (Nat.lt_of_lt_of_le (by have := World.block_lt_of_cell? _ _ hx297_0; first | rwa [add_block] at this | exact this) GW296.out); have hn297_2 : ad297.block ≠ gb296 := Nat.ne_of_lt (Nat.lt_of_lt_of_le (by have := World.block_lt_of_cell? _ _ hx297_0; first | rwa [add_block] at this | exact this) GW296.out); have hn297_3 : ad297.block ≠ gb296 := Nat.ne_of_lt (Nat.lt_of_lt_of_le (by have := World.block_lt_of_cell? _ _ hx297_0; first | rwa [add_block] at this | exact this) GW296.out); have hn297_4 : ad297.block ≠ gb296 := Nat.ne_of_lt (Nat.lt_of_lt_of_le (by have := World.block_lt_of_cell? _ _ hx297_0; first | rwa [add_block] at this | exact this) GW296.out); have hn297_5 : ad297.block ≠ gb296 := Nat.ne_of_lt (Nat.lt_of_lt_of_le (by have := World.block_lt_of_cell? _ _ hx297_0; first | rwa [add_block] at this | exact this) GW296.out); have hn297_6 : ad297.block ≠ gb296 := Nat.ne_of_lt (Nat.lt_of_lt_of_le (by have := World.block_lt_of_cell? _ _ hx297_0; first | rwa [add_block] at this | exact this) GW296.out); replace hx297_0 := cl_ HB hx297_0; replace hx297_0 := (cell_far (p := ⟨gb296, 0, none⟩) (by first | (rw [add_block]; exact hn297_0) | (show (Addr.add _ _).block ≠ _; rw [add_block]; exact hn297_0) | exact hn297_0) (.string ((rd_T77 l0 x10_1).f0))).trans hx297_0; replace hx297_0 := (cell_far (p := ⟨gb296, 1, none⟩) (by first | (rw [add_block]; exact hn297_1) | (show (Addr.add _ _).block ≠ _; rw [add_block]; exact hn297_1) | exact hn297_1) (.int .i64 ((rd_T77 l0 x10_1).f1))).trans hx297_0; replace hx297_0 := (cell_far (p := ⟨gb296, 2, none⟩) (by first | (rw [add_block]; exact hn297_2) | (show (Addr.add _ _).block ≠ _; rw [add_block]; exact hn297_2) | exact hn297_2) (.int .i64 ((rd_T77 l0 x10_1).f2))).trans hx297_0; replace hx297_0 := (cell_far (p := ⟨gb296, 3, none⟩) (by first | (rw [add_block]; exact hn297_3) | (show (Addr.add _ _).block ≠ _; rw [add_block]; exact hn297_3) | exact hn297_3) (.int .i64 ((rd_T77 l0 x10_1).f3))).trans hx297_0; replace hx297_0 := (cell_far (p := ⟨gb296, 4, none⟩) (by first | (rw [add_block]; exact hn297_4) | (show (Addr.add _ _).block ≠ _; rw [add_block]; exact hn297_4) | exact hn297_4) (.int .i64 ((rd_T77 l0 x10_1).f4))).trans hx297_0; replace hx297_0 := (cell_far (p := ⟨gb296, 5, none⟩) (by first | (rw [add_block]; exact hn297_5) | (show (Addr.add _ _).block ≠ _; rw [add_block]; exact hn297_5) | exact hn297_5) (.int .i64 ((rd_T77 l0 x10_1).f5))).trans hx297_0; replace hx297_0 := (cell_far (p := ⟨gb296, 6, none⟩) (by first | (rw [add_block]; exact hn297_6) | (show (Addr.add _ _).block ≠ _; rw [add_block]; exact hn297_6) | exact hn297_6) (.int .i64 ((rd_T77 l0 x10_1).f6))).trans hx297_0; clear hn297_0; clear hn297_1; clear hn297_2; clear hn297_3; clear hn297_4; clear hn297_5; clear hn297_6; replace p297 := eq_true p297; replace q297 := eq_true q297)))
       go_roundg k1
       case measure => have := HK1.out; omega
       case rel => exact ⟨(wrap64 (x5_1 + (wrap64 ((rd l1 x10_1) * ((rd_T77 l0 x10_1).f3))))), (wrap64 (x10_1 + 1)), rs_, rs_, H', ⟨by have := HK1.out; omega⟩, ⟨bC_ GE296.out⟩⟩
      ·
       rw [if_neg c6] at H
       exact absurd H (by simp)
     ·
      rw [if_neg c5] at H
      exact absurd H (by simp)
    ·
     rw [if_neg c4] at H
     exact absurd H (by simp)
   ·
    rw [if_neg c3] at H
    have c3b0 : decide (x10_1 < (l0.length : Int)) = false := decide_eq_false c3
    clear c3
    obtain rfl := Option.some.inj H
    go_wp2
    repeat (go_quiet (fail); try go_wp2)
    go_ret
    exact ⟨er_, bB_⟩

/-! ### impl_planCost: function 95 -/
def pcL (k : Nat) (l0 : List S77) (l1 : List (List Bool)) (l2 : List Int) : Nat → Nat → List (Bool × Int) → Int → Option Int
 | 0, _, _, c => some c
 | m + 1, i, rs, c => if (rdB l1 i).length = l0.length then ((impl_shareDemand.f k l0 (rdB l1 i) (rd l2 (i : Int))).bind fun t => (impl_costOfPowers.f k l0 t.1).bind fun p => pcL k l0 l1 l2 m (i + 1) (nx l0 (rdB l1 i) l0.length 0 rs 0).1 (wrap64 (wrap64 (c + (nx l0 (rdB l1 i) l0.length 0 rs 0).2.1) + p))) else none
def impl_planCost.f (k : Nat) (l0 : List S77) (l1 : List (List Bool)) (l2 : List Int) : Option Int :=
 if l1.length = l2.length ∧ l0.length ≤ 4 then pcL k l0 l1 l2 l1.length 0 rs0 0 else none
theorem rs_store {w : World} {G : Nat} {rs q : List (Bool × Int)} (h : w.heap[G]? = some (.cells (rsC rs) 138 (0, 0))) : ((((((((w.setCell ⟨G, 0, none⟩ (.bool (q.getD 0 (false, 0)).1)).setCell ⟨G, 1, none⟩ (.int .i64 (q.getD 0 (false, 0)).2)).setCell ⟨G, 2, none⟩ (.bool (q.getD 1 (false, 0)).1)).setCell ⟨G, 3, none⟩ (.int .i64 (q.getD 1 (false, 0)).2)).setCell ⟨G, 4, none⟩ (.bool (q.getD 2 (false, 0)).1)).setCell ⟨G, 5, none⟩ (.int .i64 (q.getD 2 (false, 0)).2)).setCell ⟨G, 6, none⟩ (.bool (q.getD 3 (false, 0)).1)).setCell ⟨G, 7, none⟩ (.int .i64 (q.getD 3 (false, 0)).2)).heap[G]? = some (.cells (rsC q) 138 (0, 0)) := by
 have h2 := (blk_set (blk_set (blk_set (blk_set (blk_set (blk_set (blk_set (blk_set h 0 (.bool (q.getD 0 (false, 0)).1)) 1 (.int .i64 (q.getD 0 (false, 0)).2)) 2 (.bool (q.getD 1 (false, 0)).1)) 3 (.int .i64 (q.getD 1 (false, 0)).2)) 4 (.bool (q.getD 2 (false, 0)).1)) 5 (.int .i64 (q.getD 2 (false, 0)).2)) 6 (.bool (q.getD 3 (false, 0)).1)) 7 (.int .i64 (q.getD 3 (false, 0)).2))
 rw [h2]
 simp [rsC]
theorem rs_below {w0 w : World} {G : Nat} {q : List (Bool × Int)} (h : Below w0.heap.size w0 w) (hg : w0.heap.size ≤ G) : Below w0.heap.size w0 ((((((((w.setCell ⟨G, 0, none⟩ (.bool (q.getD 0 (false, 0)).1)).setCell ⟨G, 1, none⟩ (.int .i64 (q.getD 0 (false, 0)).2)).setCell ⟨G, 2, none⟩ (.bool (q.getD 1 (false, 0)).1)).setCell ⟨G, 3, none⟩ (.int .i64 (q.getD 1 (false, 0)).2)).setCell ⟨G, 4, none⟩ (.bool (q.getD 2 (false, 0)).1)).setCell ⟨G, 5, none⟩ (.int .i64 (q.getD 2 (false, 0)).2)).setCell ⟨G, 6, none⟩ (.bool (q.getD 3 (false, 0)).1)).setCell ⟨G, 7, none⟩ (.int .i64 (q.getD 3 (false, 0)).2)) := (below_set (below_set (below_set (below_set (below_set (below_set (below_set (below_set h hg) hg) hg) hg) hg) hg) hg) hg)
theorem wrp (x : Int) : IntKind.i64.wrap x = wrap64 x := by rw [IntKind.wrap_i64]; unfold wrap64; rfl
theorem pcL.mono (l0 : List S77) (l1 : List (List Bool)) (l2 : List Int) (k : Nat) : ∀ m i rs c, LeO (pcL k l0 l1 l2 m i rs c) (pcL (k + 1) l0 l1 l2 m i rs c)
 | 0, _, _, _ => LeO.refl _
 | m + 1, i, rs, c => LeO.ite (LeO.bind (impl_shareDemand.mono _ _ _ _) (fun _ => LeO.bind (impl_costOfPowers.mono _ _ _) (fun _ => pcL.mono l0 l1 l2 k m _ _ _))) (LeO.refl _)
theorem impl_planCost.mono : ∀ a0 a1 a2 k, LeO (impl_planCost.f k a0 a1 a2) (impl_planCost.f (k + 1) a0 a1 a2) := by
 intro a0 a1 a2 k
 unfold impl_planCost.f
 exact LeO.ite (pcL.mono _ _ _ _ _ _ _ _) (LeO.refl _)
set_option maxHeartbeats 8000000 in
set_option maxRecDepth 100000 in
theorem impl_planCost.calls (k : Nat) (A0 : Option Addr) (c0 : Nat) (l0 : List S77) (A1 : Option Addr) (c1 : Nat) (l1 : List (List Bool)) (A2 : Option Addr) (c2 : Nat) (l2 : List Int) (r : Int) (w : World) (hr0 : Kd.C k77 w A0 l0.length l0) (hc0 : l0.length ≤ c0) (hr1 : Kd.C (Kd.slice 4 Kd.bool) w A1 l1.length l1) (hc1 : l1.length ≤ c1) (hr2 : Kd.C (Kd.int .i64) w A2 l2.length l2) (hc2 : l2.length ≤ c2) (h : impl_planCost.f k l0 l1 l2 = some r) :
  Calls Try.prog 95 #[.slice A0 l0.length c0, .slice A1 l1.length c1, .slice A2 l2.length c2] w fun e w' => e = .returned (.int .i64 r) ∧ Below w.heap.size w w' := by
 unfold impl_planCost.f at h
 have hu := Try.underlying138
 split at h
 ·
  rename_i hlen
  obtain ⟨hlen, hl4⟩ := hlen
  have HR0 := Aside0.mk hr0
  have HC0 := Aside0.mk hc0
  have HR1 := Aside0.mk hr1
  have HR2 := Aside0.mk hr2
  rw [← hlen] at HR2 ⊢
  obtain ⟨n, hn⟩ : ∃ n, l1.length = n := ⟨_, rfl⟩
  rw [hn] at HR1 HR2 h ⊢
  have HH := Aside0.mk h
  have HL4 := Aside0.mk hl4
  have hmax : (n : Int) ≤ 9223372036854775807 := by have := Kd.C_max HR1.out; omega
  obtain ⟨m0, hm0⟩ : ∃ m0, l0.length = m0 := ⟨_, rfl⟩
  rw [hm0] at HR0 HC0 HL4 ⊢
  have HM0 := Aside0.mk hm0
  clear h hr0 hc0 hr1 hc1 hr2 hc2 hlen hn hl4 hm0
  go_enter Try.func95, Try.ntmps95
  go_wp2_with (first | (go_at_call 126; refine (firstRuns_ _).mono ?_; rintro e w1 ⟨rfl, hb⟩; have B1 := Aside0.mk hb; clear hb) | ((with_reducible refine gate_dst (N := 7) rfl ?_); refine box_event ?hg (N := 7) ?hd (cs := #[.bool false, .int .i64 0, .bool false, .int .i64 0, .bool false, .int .i64 0, .bool false, .int .i64 0]) (t := 138) ?hr ?_; (case hd => rfl); (case hg => rfl); (case hr => first | (go_simp; done) | (go_simp; rfl)); intro G hg_ w2 hbox hb; have K2 := Aside0.mk hbox; have B2 := Aside0.mk (B1.out.trans (hb.mono B1.out.size)); have HG := Aside0.mk (show w.heap.size ≤ G by rw [hg_]; exact B1.out.size); clear hg_ hbox hb) | ((with_reducible refine gate_store (t := 138) (p := 7) rfl ?_); refine row_store rfl 138 (.tmp 7) (.tmp 16) rfl G (rsC rs0) rfl rfl 138 _ K2.out rs_size rfl (rsC_one _) ?_; intro w3 hw; have K3 := Aside0.mk (row_now K2.out hw); have B3 := Aside0.mk (row_bel B2.out HG.out hw); clear hw))
  go_loopg [8, 19] n (fun gg s8 s19 wr => ∃ (i : Nat) (rs : List (Bool × Int)) (c : Int), i ≤ n ∧ n - i ≤ gg ∧ s19 = .int .i64 (i : Int) ∧ s8 = .int .i64 c ∧ Aside0 (rs.length = 4) ∧ Aside0 (wr.heap[G]? = some (.cells (rsC rs) 138 (0, 0))) ∧ Aside0 (Below w.heap.size w wr) ∧ Aside0 (pcL k l0 l1 l2 (n - i) i rs c = some r))
  case atStart => exact ⟨0, rs0, 0, by omega, by omega, rfl, rfl, ⟨rfl⟩, K3, B3, HH⟩
  case round =>
   clear HH K3 B3
   obtain ⟨i, rs, c, hi, hg, rfl, rfl, HRL, KR, BW, HA⟩ := hrel
   by_cases hlt : i < n
   ·
    have hltz : decide ((i : Int) < (n : Int)) = true := decide_eq_true (by omega)
    have hltz2 : decide (i < n) = true := decide_eq_true hlt
    have hi0 : 0 ≤ (i : Int) := by omega
    have hin : (i : Int) < (n : Int) := by omega
    have H := HA.out
    rw [show n - i = (n - (i + 1)) + 1 by omega, pcL] at H
    by_cases hol : (rdB l1 i).length = l0.length
    ·
     rw [if_pos hol] at H
     obtain ⟨ad, Ar, cr, rfl, hw1, hcr, hrr⟩ := at_rdB HR1.out i hlt
     obtain ⟨ad2, rfl, hw2⟩ := Kd.at_int HR2.out (i : Int) (by omega) hin
     rw [Int.toNat_natCast] at hw2
     have HNX := Aside0.mk (next_ A0 c0 l0 Ar cr (rdB l1 i) rs wr HRL.out (by rw [HM0.out]; exact Kd.C_below HR0.out BW.out) (by rw [HM0.out]; exact HL4.out) (Kd.C_below hrr BW.out) hol)
     have hsd := fun (W : World) (hb : Below w.heap.size w W) r1 r2 (hs : impl_shareDemand.f k l0 (rdB l1 i) (rd l2 (i : Int)) = some (r1, r2)) => impl_shareDemand.calls k A0 c0 l0 Ar cr (rdB l1 i) (rd l2 (i : Int)) r1 r2 W (by rw [HM0.out]; exact Kd.C_below HR0.out hb) (by rw [HM0.out]; exact HC0.out) (Kd.C_below hrr hb) hcr hs
     rw [HM0.out] at HNX hsd hol
     rw [hol] at hw1 HNX hsd
     have hx1 := (BW.out.cell (World.block_lt_of_cell? _ _ hw1)).trans hw1
     have hnl := nx_len l0 (rdB l1 i) l0.length 0 rs 0
     rw [HRL.out] at hnl
     rw [HM0.out] at hnl
     rw [HM0.out] at H
     obtain ⟨⟨t1, t2⟩, hsh, h2⟩ := Option.bind_eq_some_iff.mp H
     clear H
     obtain ⟨p, hp, h3⟩ := Option.bind_eq_some_iff.mp h2
     clear h2
     generalize rd l2 (i : Int) = dd at *
     have HX2 := Aside0.mk hw2
     have HSD := Aside0.mk hsd
     have HSH := Aside0.mk hsh
     have HCP := Aside0.mk (fun (W : World) (hb : Below w.heap.size w W) (Ap : Option Addr) (cp : Nat) (hq : Kd.C (Kd.int .i64) W Ap t1.length t1) (hcq : t1.length ≤ cp) => impl_costOfPowers.calls k A0 c0 l0 Ap cp t1 p W (by rw [HM0.out]; exact Kd.C_below HR0.out hb) (by rw [HM0.out]; exact HC0.out) hq hcq hp)
     rw [HM0.out] at HCP
     have H' := Aside0.mk h3
     clear hsd hsh hp h3 hrr hcr hol hlt HA hw1 hw2
     generalize nx l0 (rdB l1 i) m0 0 rs 0 = q at *
     obtain ⟨q1, q2, q3⟩ := q
     have HNL := Aside0.mk (show q1.length = 4 from hnl)
     clear hnl
     have HGL := Aside0.mk (show w.heap.size ≤ G from HG.out)
     go_wp2_with (first | ((with_reducible refine gate_dst (N := 25) rfl ?_); refine wpList_load_row rfl 138 (.tmp 7) rfl G rfl 138 (rsC rs) (0, 0) _ KR.out hu rfl rs_size ?_) | (go_at_call 127; refine HNX.out.mono ?_; rintro e w4 ⟨rfl, hb⟩; have K4 := Aside0.mk (blk_below KR.out hb); have B4 := Aside0.mk (BW.out.trans (hb.mono BW.out.size)); clear hb) | ((with_reducible refine gate_dst (N := 11) rfl ?_); refine box_event ?hg (N := 11) ?hd (cs := #[.bool false, .int .i64 0, .bool false, .int .i64 0, .bool false, .int .i64 0, .bool false, .int .i64 0]) (t := 138) ?hr ?_; (case hd => rfl); (case hg => rfl); (case hr => first | (go_simp; done) | (go_simp; rfl)); intro G2 hg_ w5 hbox hb; have K5 := Aside0.mk (blk_below K4.out hb); have L5 := Aside0.mk hbox; have B5 := Aside0.mk (B4.out.trans (hb.mono B4.out.size)); have HG2 := Aside0.mk (show w4.heap.size ≤ G2 by rw [hg_]; exact Nat.le_refl _); have HNE := Aside0.mk (show G ≠ G2 by have h1 := blk_lt K4.out; rw [hg_]; omega); clear hg_ hbox hb) | ((with_reducible refine gate_store (t := 138) (p := 11) rfl ?_); refine row_store rfl 138 (.tmp 11) (.tmp 29) rfl G2 (rsC q1) rfl rfl 138 _ L5.out rs_size rfl (rsC_one _) ?_; intro w6 hw; have L6 := Aside0.mk (row_now L5.out hw); have K6 := Aside0.mk (row_far K5.out HNE.out hw); have B6 := Aside0.mk (row_bel B5.out (Nat.le_trans B4.out.size HG2.out) hw); have hy2 : w6.cell? (ad2.add i) = some (.int .i64 dd) := (B6.out.cell (World.block_lt_of_cell? _ _ HX2.out)).trans HX2.out; clear hw) | (go_at_call 69; refine (HSD.out w6 B6.out _ _ HSH.out).mono ?_; rintro e w7 ⟨v0, rfl, hr, hb⟩; obtain ⟨Ap, cp, rfl⟩ := Kd.R_slice hr; have RP7 := Aside0.mk (Kd.R_reads' hr).2.2; have CP7 := Aside0.mk (Kd.R_reads' hr).2.1; have K7 := Aside0.mk (blk_below K6.out hb); have L7 := Aside0.mk (blk_below L6.out hb); have B7 := Aside0.mk (B6.out.trans (hb.mono B6.out.size)); clear hr hb))
     have hz0 : w7.cell? ⟨G2, 0, none⟩ = some (.bool (q1.getD 0 (false, 0)).1) := (blk_cell L7.out 0 |> fun _ => (blk_cell L7.out 0)).trans rfl
     have hz1 : w7.cell? ⟨G2, 1, none⟩ = some (.int .i64 (q1.getD 0 (false, 0)).2) := (blk_cell L7.out 0 |> fun _ => (blk_cell L7.out 1)).trans rfl
     have hz2 : w7.cell? ⟨G2, 2, none⟩ = some (.bool (q1.getD 1 (false, 0)).1) := (blk_cell L7.out 0 |> fun _ => (blk_cell L7.out 2)).trans rfl
     have hz3 : w7.cell? ⟨G2, 3, none⟩ = some (.int .i64 (q1.getD 1 (false, 0)).2) := (blk_cell L7.out 0 |> fun _ => (blk_cell L7.out 3)).trans rfl
     have hz4 : w7.cell? ⟨G2, 4, none⟩ = some (.bool (q1.getD 2 (false, 0)).1) := (blk_cell L7.out 0 |> fun _ => (blk_cell L7.out 4)).trans rfl
     have hz5 : w7.cell? ⟨G2, 5, none⟩ = some (.int .i64 (q1.getD 2 (false, 0)).2) := (blk_cell L7.out 0 |> fun _ => (blk_cell L7.out 5)).trans rfl
     have hz6 : w7.cell? ⟨G2, 6, none⟩ = some (.bool (q1.getD 3 (false, 0)).1) := (blk_cell L7.out 0 |> fun _ => (blk_cell L7.out 6)).trans rfl
     have hz7 : w7.cell? ⟨G2, 7, none⟩ = some (.int .i64 (q1.getD 3 (false, 0)).2) := (blk_cell L7.out 0 |> fun _ => (blk_cell L7.out 7)).trans rfl
     go_region_with (first | (go_at_call 70; refine (HCP.out _ ?bq1 Ap cp ?bq2 CP7.out).mono ?_; (case bq1 => exact below_drew1 B7.out); (case bq2 => exact Kd.C_drew RP7.out); rintro e w8 ⟨rfl, hb⟩; have K8 := Aside0.mk (blk_below (blk_drew K7.out) hb); have L8 := Aside0.mk (blk_below (blk_drew L7.out) hb); have B8 := Aside0.mk ((below_drew1 B7.out).trans (hb.mono B7.out.size)); clear hb; have hy0 : w8.cell? ⟨G2, 0, none⟩ = some (.bool (q1.getD 0 (false, 0)).1) := (blk_cell L8.out 0 |> fun _ => (blk_cell L8.out 0)).trans rfl; have hy1 : w8.cell? ⟨G2, 1, none⟩ = some (.int .i64 (q1.getD 0 (false, 0)).2) := (blk_cell L8.out 0 |> fun _ => (blk_cell L8.out 1)).trans rfl; have hy2 : w8.cell? ⟨G2, 2, none⟩ = some (.bool (q1.getD 1 (false, 0)).1) := (blk_cell L8.out 0 |> fun _ => (blk_cell L8.out 2)).trans rfl; have hy3 : w8.cell? ⟨G2, 3, none⟩ = some (.int .i64 (q1.getD 1 (false, 0)).2) := (blk_cell L8.out 0 |> fun _ => (blk_cell L8.out 3)).trans rfl; have hy4 : w8.cell? ⟨G2, 4, none⟩ = some (.bool (q1.getD 2 (false, 0)).1) := (blk_cell L8.out 0 |> fun _ => (blk_cell L8.out 4)).trans rfl; have hy5 : w8.cell? ⟨G2, 5, none⟩ = some (.int .i64 (q1.getD 2 (false, 0)).2) := (blk_cell L8.out 0 |> fun _ => (blk_cell L8.out 5)).trans rfl; have hy6 : w8.cell? ⟨G2, 6, none⟩ = some (.bool (q1.getD 3 (false, 0)).1) := (blk_cell L8.out 0 |> fun _ => (blk_cell L8.out 6)).trans rfl; have hy7 : w8.cell? ⟨G2, 7, none⟩ = some (.int .i64 (q1.getD 3 (false, 0)).2) := (blk_cell L8.out 0 |> fun _ => (blk_cell L8.out 7)).trans rfl; have hk0 : w8.cell? ⟨G, 0, none⟩ = some (.bool (rs.getD 0 (false, 0)).1) := (blk_cell K8.out 0 |> fun _ => (blk_cell K8.out 0)).trans rfl; have hk1 : w8.cell? ⟨G, 1, none⟩ = some (.int .i64 (rs.getD 0 (false, 0)).2) := (blk_cell K8.out 0 |> fun _ => (blk_cell K8.out 1)).trans rfl; have hk2 : w8.cell? ⟨G, 2, none⟩ = some (.bool (rs.getD 1 (false, 0)).1) := (blk_cell K8.out 0 |> fun _ => (blk_cell K8.out 2)).trans rfl; have hk3 : w8.cell? ⟨G, 3, none⟩ = some (.int .i64 (rs.getD 1 (false, 0)).2) := (blk_cell K8.out 0 |> fun _ => (blk_cell K8.out 3)).trans rfl; have hk4 : w8.cell? ⟨G, 4, none⟩ = some (.bool (rs.getD 2 (false, 0)).1) := (blk_cell K8.out 0 |> fun _ => (blk_cell K8.out 4)).trans rfl; have hk5 : w8.cell? ⟨G, 5, none⟩ = some (.int .i64 (rs.getD 2 (false, 0)).2) := (blk_cell K8.out 0 |> fun _ => (blk_cell K8.out 5)).trans rfl; have hk6 : w8.cell? ⟨G, 6, none⟩ = some (.bool (rs.getD 3 (false, 0)).1) := (blk_cell K8.out 0 |> fun _ => (blk_cell K8.out 6)).trans rfl; have hk7 : w8.cell? ⟨G, 7, none⟩ = some (.int .i64 (rs.getD 3 (false, 0)).2) := (blk_cell K8.out 0 |> fun _ => (blk_cell K8.out 7)).trans rfl; have hf0 := blk_frozen K8.out 0; have hf1 := blk_frozen K8.out 1; have hf2 := blk_frozen K8.out 2; have hf3 := blk_frozen K8.out 3; have hf4 := blk_frozen K8.out 4; have hf5 := blk_frozen K8.out 5; have hf6 := blk_frozen K8.out 6; have hf7 := blk_frozen K8.out 7))
     all_goals
      try go_wp2
      go_roundg (n - (i + 1))
      case measure => omega
      case rel =>
       refine ⟨i + 1, q1, wrap64 (wrap64 (c + q2) + p), by omega, by omega, by go_num, ?_, HNL, ⟨rs_store K8.out⟩, ⟨rs_below B8.out HGL.out⟩, H'⟩
       first | rfl | rw [wrp, wrp]
    ·
     rw [if_neg hol] at H
     cases H
   ·
    obtain rfl : i = n := by omega
    have H := HA.out
    rw [Nat.sub_self] at H
    obtain rfl : c = r := Option.some.inj H
    have hltz : decide ((i : Int) < (i : Int)) = false := decide_eq_false (by omega)
    have hltz2 : decide (i < i) = false := decide_eq_false (by omega)
    clear H HA hlt
    go_wp2
    go_ret
    exact ⟨rfl, BW.out⟩
 ·
  cases h

/-! ### impl_PlanCost: function 41 -/
def impl_PlanCost.f (k : Nat) (l0 : List (S77)) (l1 : List (List Bool)) (l2 : List Int) : Option (Int × Int) := (impl_planCode.f k l0 l1 l2).bind fun t298 => (if t298 = 0 then ((impl_isPlan.f k l0 l1 l2).bind fun t299 => (if t299 = true then ((impl_planCost.f k l0 l1 l2).bind fun t300 => (some (t300, 0))) else (some (0, 6)))) else (some (0, t298)))
theorem impl_PlanCost.mono : ∀ a0 a1 a2 k, LeO (impl_PlanCost.f k a0 a1 a2) (impl_PlanCost.f (k + 1) a0 a1 a2) := by
 intro a0 a1 a2 k
 unfold impl_PlanCost.f
 repeat' first
   | (with_reducible exact impl_isPlan.mono _ _ _ _)
   | (with_reducible exact impl_planCode.mono _ _ _ _)
   | (with_reducible exact impl_planCost.mono _ _ _ _)
   | (with_reducible exact LeO.refl _)
   | (with_reducible exact LeO.none _)
   | (with_reducible refine LeO.ite ?_ ?_)
   | (with_reducible refine LeO.bind ?_ (fun _ => ?_))
   | exact impl_isPlan.mono _ _ _ _
   | exact impl_planCode.mono _ _ _ _
   | exact impl_planCost.mono _ _ _ _
   | exact LeO.none _
   | refine LeO.ite ?_ ?_
   | refine LeO.bind ?_ (fun _ => ?_)
set_option maxHeartbeats 8000000 in
set_option maxRecDepth 100000 in
theorem impl_PlanCost.calls (k : Nat) (A0 : Option Addr) (c0 : Nat) (l0 : List (S77)) (A1 : Option Addr) (c1 : Nat) (l1 : List (List Bool)) (A2 : Option Addr) (c2 : Nat) (l2 : List Int) (r1 : Int) (r2 : Int) (w : World) (hr0 : Kd.C k77 w A0 l0.length l0) (hc0 : l0.length ≤ c0) (hr1 : Kd.C (Kd.slice 4 Kd.bool) w A1 l1.length l1) (hc1 : l1.length ≤ c1) (hr2 : Kd.C (Kd.int .i64) w A2 l2.length l2) (hc2 : l2.length ≤ c2) (h : impl_PlanCost.f k l0 l1 l2 = some (r1, r2)) :
  Calls Try.prog 41 #[.slice A0 l0.length c0, .slice A1 l1.length c1, .slice A2 l2.length c2] w fun e w' => e = .returned (.tuple #[.int .i64 r1, .int .i64 r2]) ∧ Below w.heap.size w w' := by
 have HR0 := Aside0.mk hr0
 have HC0 := Aside0.mk hc0
 clear hr0 hc0
 have HR1 := Aside0.mk hr1
 have HC1 := Aside0.mk hc1
 clear hr1 hc1
 have HR2 := Aside0.mk hr2
 have HC2 := Aside0.mk hc2
 clear hr2 hc2
 have HB := Aside0.mk (Below.refl w.heap.size w)
 have H : ((impl_planCode.f k l0 l1 l2).bind fun t298 => (if t298 = 0 then ((impl_isPlan.f k l0 l1 l2).bind fun t299 => (if t299 = true then ((impl_planCost.f k l0 l1 l2).bind fun t300 => (some (t300, 0))) else (some (0, 6)))) else (some (0, t298)))) = some (r1, r2) := h
 clear h
 replace H := Option.bind_eq_some_iff.mp H
 obtain ⟨t298, A40, H⟩ := H
 replace H : (if t298 = 0 then ((impl_isPlan.f k l0 l1 l2).bind fun t299 => (if t299 = true then ((impl_planCost.f k l0 l1 l2).bind fun t300 => (some (t300, 0))) else (some (0, 6)))) else (some (0, t298))) = some (r1, r2) := H
 have A4 := Aside0.mk A40
 clear A40
 by_cases c5 : t298 = 0
 ·
  rw [if_pos c5] at H
  have c5b0 : (t298 == 0) = true := beq_iff_eq.mpr c5
  have c5b1 : (t298 != 0) = false := bne_eq_false_iff_eq.mpr c5
  clear c5
  replace H := Option.bind_eq_some_iff.mp H
  obtain ⟨t299, A60, H⟩ := H
  replace H : (if t299 = true then ((impl_planCost.f k l0 l1 l2).bind fun t300 => (some (t300, 0))) else (some (0, 6))) = some (r1, r2) := H
  have A6 := Aside0.mk A60
  clear A60
  by_cases c7 : t299 = true
  ·
   subst c7
   have H1 : ((impl_planCost.f k l0 l1 l2).bind fun t300 => (some (t300, 0))) = some (r1, r2) := by rw [if_pos rfl] at H; exact H
   clear H
   have H := H1
   clear H1
   replace H := Option.bind_eq_some_iff.mp H
   obtain ⟨t300, A80, H⟩ := H
   replace H : (some (t300, 0)) = some (r1, r2) := H
   have A8 := Aside0.mk A80
   clear A80
   simp only [Option.some.injEq, Prod.mk.injEq] at H
   obtain ⟨rfl, rfl⟩ := H
   go_enter Try.func41, Try.ntmps41
   go_wp2_with (first | ((with_reducible refine gate_callee (f := 93) rfl ?_); refine goesL_ (some 12) rfl rfl Try.func93 (by kernel_rfl) rfl #[.slice A0 l0.length c0, .slice A1 l1.length c1, .slice A2 l2.length c2] rfl mT_ ?_; (with_reducible refine (impl_planCode.calls k _ _ l0 _ _ l1 _ _ l2 t298 _ ?side1 ?side2 ?side3 ?side4 ?side5 ?side6 A4.out).mono ?_); (case side1 => exact cA_ HR0.out); (case side2 => exact HC0.out); (case side3 => exact cA_ HR1.out); (case side4 => exact HC1.out); (case side5 => exact cA_ HR2.out); (case side6 => exact HC2.out); rintro e w9 ⟨rfl, hb⟩; refine ⟨_, rfl, ?_⟩; have n0_ := Aside0.mk (below_step bB_ hb); clear HB; have HB := n0_; clear n0_; (try clear hb); (try clear hb2); (try clear hk); (try clear hi)) | ((with_reducible refine gate_callee (f := 94) rfl ?_); refine goesL_ (some 21) rfl rfl Try.func94 (by kernel_rfl) rfl #[.slice A0 l0.length c0, .slice A1 l1.length c1, .slice A2 l2.length c2] rfl mT_ ?_; (with_reducible refine (impl_isPlan.calls k _ _ l0 _ _ l1 _ _ l2 true _ ?side1 ?side2 ?side3 ?side4 ?side5 ?side6 A6.out).mono ?_); (case side1 => exact cA_ (Kd.C_below HR0.out HB.out)); (case side2 => exact HC0.out); (case side3 => exact cA_ (Kd.C_below HR1.out HB.out)); (case side4 => exact HC1.out); (case side5 => exact cA_ (Kd.C_below HR2.out HB.out)); (case side6 => exact HC2.out); rintro e w10 ⟨rfl, hb⟩; refine ⟨_, rfl, ?_⟩; have n0_ := Aside0.mk (below_step bB_ hb); clear HB; have HB := n0_; clear n0_; (try clear hb); (try clear hb2); (try clear hk); (try clear hi)) | ((with_reducible refine gate_callee (f := 95) rfl ?_); refine goesL_ (some 26) rfl rfl Try.func95 (by kernel_rfl) rfl #[.slice A0 l0.length c0, .slice A1 l1.length c1, .slice A2 l2.length c2] rfl mT_ ?_; (with_reducible refine (impl_planCost.calls k _ _ l0 _ _ l1 _ _ l2 t300 _ ?side1 ?side2 ?side3 ?side4 ?side5 ?side6 A8.out).mono ?_); (case side1 => exact cA_ (Kd.C_below HR0.out HB.out)); (case side2 => exact HC0.out); (case side3 => exact cA_ (Kd.C_below HR1.out HB.out)); (case side4 => exact HC1.out); (case side5 => exact cA_ (Kd.C_below HR2.out HB.out)); (case side6 => exact HC2.out); rintro e w11 ⟨rfl, hb⟩; refine ⟨_, rfl, ?_⟩; have n0_ := Aside0.mk (below_step bB_ hb); clear HB; have HB := n0_; clear n0_; (try clear hb); (try clear hb2); (try clear hk); (try clear hi)))
   go_ret2
   exact ⟨er_, bB_⟩
  ·
   replace c7 := Bool.eq_false_iff.mpr c7
   subst c7
   have H1 : (some (0, 6)) = some (r1, r2) := by rw [if_neg (show ¬ (false = true) by decide)] at H; exact H
   clear H
   have H := H1
   clear H1
   simp only [Option.some.injEq, Prod.mk.injEq] at H
   obtain ⟨rfl, rfl⟩ := H
   go_enter Try.func41, Try.ntmps41
   go_wp2_with (first | ((with_reducible refine gate_callee (f := 93) rfl ?_); refine goesL_ (some 12) rfl rfl Try.func93 (by kernel_rfl) rfl #[.slice A0 l0.length c0, .slice A1 l1.length c1, .slice A2 l2.length c2] rfl mT_ ?_; (with_reducible refine (impl_planCode.calls k _ _ l0 _ _ l1 _ _ l2 t298 _ ?side1 ?side2 ?side3 ?side4 ?side5 ?side6 A4.out).mono ?_); (case side1 => exact cA_ HR0.out); (case side2 => exact HC0.out); (case side3 => exact cA_ HR1.out); (case side4 => exact HC1.out); (case side5 => exact cA_ HR2.out); (case side6 => exact HC2.out); rintro e w12 ⟨rfl, hb⟩; refine ⟨_, rfl, ?_⟩; have n0_ := Aside0.mk (below_step bB_ hb); clear HB; have HB := n0_; clear n0_; (try clear hb); (try clear hb2); (try clear hk); (try clear hi)) | ((with_reducible refine gate_callee (f := 94) rfl ?_); refine goesL_ (some 21) rfl rfl Try.func94 (by kernel_rfl) rfl #[.slice A0 l0.length c0, .slice A1 l1.length c1, .slice A2 l2.length c2] rfl mT_ ?_; (with_reducible refine (impl_isPlan.calls k _ _ l0 _ _ l1 _ _ l2 false _ ?side1 ?side2 ?side3 ?side4 ?side5 ?side6 A6.out).mono ?_); (case side1 => exact cA_ (Kd.C_below HR0.out HB.out)); (case side2 => exact HC0.out); (case side3 => exact cA_ (Kd.C_below HR1.out HB.out)); (case side4 => exact HC1.out); (case side5 => exact cA_ (Kd.C_below HR2.out HB.out)); (case side6 => exact HC2.out); rintro e w13 ⟨rfl, hb⟩; refine ⟨_, rfl, ?_⟩; have n0_ := Aside0.mk (below_step bB_ hb); clear HB; have HB := n0_; clear n0_; (try clear hb); (try clear hb2); (try clear hk); (try clear hi)))
   go_ret2
   exact ⟨er_, bB_⟩
 ·
  rw [if_neg c5] at H
  have c5b0 : (t298 == 0) = false := beq_eq_false_iff_ne.mpr c5
  have c5b1 : (t298 != 0) = true := bne_iff_ne.mpr c5
  simp only [Option.some.injEq, Prod.mk.injEq] at H
  obtain ⟨rfl, rfl⟩ := H
  go_enter Try.func41, Try.ntmps41
  go_wp2_with (first | ((with_reducible refine gate_callee (f := 93) rfl ?_); refine goesL_ (some 12) rfl rfl Try.func93 (by kernel_rfl) rfl #[.slice A0 l0.length c0, .slice A1 l1.length c1, .slice A2 l2.length c2] rfl mT_ ?_; (with_reducible refine (impl_planCode.calls k _ _ l0 _ _ l1 _ _ l2 t298 _ ?side1 ?side2 ?side3 ?side4 ?side5 ?side6 A4.out).mono ?_); (case side1 => exact cA_ HR0.out); (case side2 => exact HC0.out); (case side3 => exact cA_ HR1.out); (case side4 => exact HC1.out); (case side5 => exact cA_ HR2.out); (case side6 => exact HC2.out); rintro e w14 ⟨rfl, hb⟩; refine ⟨_, rfl, ?_⟩; have n0_ := Aside0.mk (below_step bB_ hb); clear HB; have HB := n0_; clear n0_; (try clear hb); (try clear hb2); (try clear hk); (try clear hi)))
  go_ret2
  exact ⟨er_, bB_⟩

/-! ### impl_divUp: function 139 -/
def impl_divUp.f (a0 : Int) (a1 : Int) : Option (Int) := if a1 = 0 then (none) else (some (wrap64 (Int.tdiv (wrap64 ((wrap64 (a0 + a1)) - 1)) a1)))
set_option maxHeartbeats 8000000 in
set_option maxRecDepth 100000 in
theorem impl_divUp.calls (a0 : Int) (a1 : Int) (r : Int) (w : World) (h : impl_divUp.f a0 a1 = some r) :
  Calls Try.prog 139 #[.int .i64 a0, .int .i64 a1] w fun e w' => e = .returned (.int .i64 r) ∧ Drawn0 w w' := by
 have H : (if a1 = 0 then (none) else (some (wrap64 (Int.tdiv (wrap64 ((wrap64 (a0 + a1)) - 1)) a1)))) = some r := h
 clear h
 by_cases c3 : a1 = 0
 ·
  rw [if_pos c3] at H
  exact absurd H (by simp)
 ·
  rw [if_neg c3] at H
  have c3b0 : (a1 == 0) = false := beq_eq_false_iff_ne.mpr c3
  have c3b1 : (a1 != 0) = true := bne_iff_ne.mpr c3
  obtain rfl := Option.some.inj H
  go_enter Try.func139, Try.ntmps139
  go_wp2
  go_ret
  exact ⟨rs_, dr_⟩

end Go.Proofs.Ytebkgebibammiaa.PFnExactIsWithin
