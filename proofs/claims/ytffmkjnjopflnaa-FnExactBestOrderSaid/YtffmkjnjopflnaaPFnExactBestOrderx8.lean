-- PRINTED by print.py (a twelfth state) out of the translation. Not trusted: Lean checks it.
import Derived.Test.YtffmkjnjopflnaaPFnExactBestOrderx0
import Derived.Test.YtffmkjnjopflnaaPFnExactBestOrderx4
import Derived.Test.YtffmkjnjopflnaaPFnExactBestOrderx5
import Derived.Test.YtffmkjnjopflnaaPFnExactBestOrderx6
import Derived.Test.YtffmkjnjopflnaaPFnExactBestOrderx7
namespace Go.Proofs.Ytffmkjnjopflnaa.PFnExactBestOrder
open Go.RowKit Go.Proofs.YtffmkjnjopflnaaW.PrintWords Go.Proofs.YtffmkjnjopflnaaW.PrintLast Go.Proofs.YtffmkjnjopflnaaW.PrintMore
attribute [local go_sem] max2_int min2_int max_two min_two max_three min_three max_four min_four   -- for this text's walks alone
set_option linter.unusedVariables false
set_option linter.unusedSimpArgs false

/-! ### spec_BestOrder: function 31 -/
/-- A search's state: a block of cells, among them two rows of ints of the call's own. -/
structure SxG (w0 w : World) (B T : Nat) (cs : Array Value) (vo vb : Value) (ord best : List Int) : Prop where
 blk : w.heap[B]? = some (.cells cs T (0, 0))
 o : Kd.R (Kd.int .i64) 2 w w0.heap.size (fun k_ => k_ ≠ B) vo ord
 b : Kd.R (Kd.int .i64) 2 w w0.heap.size (fun k_ => k_ ≠ B ∧ some k_ ≠ vo.ownBlock) vb best
 bel : Below w0.heap.size w0 w
theorem SxG.below {w0 w w1 : World} {B T cs vo vb ord best} (h : SxG w0 w B T cs vo vb ord best) (hb : Below w.heap.size w w1) : SxG w0 w1 B T cs vo vb ord best :=
 ⟨blk_below h.blk hb, Kd.R_below h.o hb, Kd.R_below h.b hb, h.bel.trans (hb.mono h.bel.size)⟩
theorem SxG.put {w0 w w1 : World} {B T cs vo vb ord best} (h : SxG w0 w B T cs vo vb ord best) (hB : w0.heap.size ≤ B) (i : Nat) (u : Value) (cs' : Array Value) (ec : cs.setIfInBounds i u = cs') (e : w1 = w.setCell ⟨B, i, none⟩ u) : SxG w0 w1 B T cs' vo vb ord best := by
 subst e
 exact ⟨blk_put h.blk i _ ec, Kd.R_far (p := ⟨B, i, none⟩) h.o (fun _ hk => hk) _, Kd.R_far (p := ⟨B, i, none⟩) h.b (fun _ hk => hk.1) _, below_set h.bel hB⟩
theorem SxG.grow {w0 w w1 w2 : World} {B T cs vo vb ord best} (h : SxG w0 w B T cs vo vb ord best) (hB : w0.heap.size ≤ B) {v : Value} {ord' : List Int} (i : Nat) (cs' : Array Value) (ec : cs.setIfInBounds i v = cs') (hr : Kd.R (Kd.int .i64) 2 w1 w0.heap.size (fun k_ => k_ ≠ B) v ord') (hb : Below w0.heap.size w0 w1) (hg : w.grownBy w1 vo.ownBlock) (hat : v.ownBlock = vo.ownBlock ∨ ∃ b, v.ownBlock = some b ∧ w.heap.size ≤ b) (e : w2 = w1.setCell ⟨B, i, none⟩ v) :
  SxG w0 w2 B T cs' v vb ord' best := by
 subst e
 have h1 := blk_grown h.blk hg (fun e_ => h.o.1 B e_.symm rfl)
 exact ⟨blk_put h1 i _ ec, Kd.R_far (p := ⟨B, i, none⟩) hr (fun _ hk => hk) _, Kd.R_far (p := ⟨B, i, none⟩) (Kd.R_after h.b hg hat) (fun _ hk => hk.1) _, below_set hb hB⟩
theorem SxG.cut {w0 w w1 : World} {B T cs vb best A m co} {ord : List Int} {x : Int} (h : SxG w0 w B T cs (.slice A m co) vb (ord ++ [x]) best) (hB : w0.heap.size ≤ B) (i : Nat) (cs' : Array Value) (ec : cs.setIfInBounds i (.slice A ord.length co) = cs') (e : w1 = w.setCell ⟨B, i, none⟩ (.slice A ord.length co)) :
  SxG w0 w1 B T cs' (.slice A ord.length co) vb ord best := by
 subst e
 have h2 := Kd.R_take (m := ord.length) h.o (by simp)
 rw [List.take_left] at h2
 have h3 : Kd.R (Kd.int .i64) 2 w w0.heap.size (fun k_ => k_ ≠ B ∧ some k_ ≠ (Value.slice A ord.length co).ownBlock) vb best := Kd.R_mono h.b (fun k hk => ⟨hk.1, by cases A <;> exact hk.2⟩)
 exact ⟨blk_put h.blk i _ ec, Kd.R_far (p := ⟨B, i, none⟩) h2 (fun _ hk => hk) _, Kd.R_far (p := ⟨B, i, none⟩) h3 (fun _ hk => hk.1) _, below_set h.bel hB⟩
theorem SxG.best_ {w0 w w1 w2 : World} {B T cs vo vb ord best} (h : SxG w0 w B T cs vo vb ord best) (hB : w0.heap.size ≤ B) (hb : Below w.heap.size w w1) {v : Value} {o : List Int} (i : Nat) (cs' : Array Value) (ec : cs.setIfInBounds i v = cs') (hr : Kd.R (Kd.int .i64) 2 w1 w.heap.size (fun _ => True) v o) (e : w2 = w1.setCell ⟨B, i, none⟩ v) :
  SxG w0 w2 B T cs' vo v ord o := by
 subst e
 have h1 := h.below hb
 have h3 : Kd.R (Kd.int .i64) 2 w1 w0.heap.size (fun k_ => k_ ≠ B ∧ some k_ ≠ vo.ownBlock) v o := Kd.R_mono (Kd.R_newB (Kd.R_newR hr h.o) h.blk |> fun z => Kd.R_lower z h.bel.size) (fun k hk => ⟨hk.2, hk.1.2⟩)
 exact ⟨blk_put h1.blk i _ ec, Kd.R_far (p := ⟨B, i, none⟩) h1.o (fun _ hk => hk) _, Kd.R_far (p := ⟨B, i, none⟩) h3 (fun _ hk => hk.1) _, below_set h1.bel hB⟩

/-- The search of spec, by rounds: entered (none), or at the loop's head with a counter. -/
def srS : Nat → List S43 → Int → Int → Option Nat → Int → Bool → List Int → Int → List Int → Option (Int × Bool × List Int × Int)
 | 0, _, _, _, _, _, _, _, _, _ => none
 | k + 1, l, g, nb, none, nodes, full, best, least, ord =>
  if ord.length = l.length then (spec_l20Ends.f k l ord g).bind fun e => (spec_l20Heat.f k l e).bind fun h => if least < 0 ∨ h < least then (spec_l00Own.f ord).bind fun o => some (nodes, full, o, h) else some (nodes, full, best, least)
  else srS k l g nb (some 0) nodes full best least ord
 | k + 1, l, g, nb, some i, nodes, full, best, least, ord =>
  if i < l.length then (if full = true then some (nodes, full, best, least) else (spec_l00Has.f k ord (i : Int)).bind fun t => if t = true then srS k l g nb (some (i + 1)) nodes full best least ord
   else if nodes = nb then some (nodes, true, best, least)
   else if ord.length < 1000 then (srS k l g nb none (wrap64 (nodes + 1)) full best least (ord ++ [(i : Int)])).bind fun st => srS k l g nb (some (i + 1)) st.1 st.2.1 st.2.2.1 st.2.2.2 ord
   else none)
  else some (nodes, full, best, least)
def SxT (w0 w : World) (B : Nat) (A0 : Option Addr) (n c0 : Nat) (g nb : Int) (r : Int × Bool × List Int × Int) (ord : List Int) : Prop := ∃ vo vb, SxG w0 w B 135 (#[.slice A0 n c0, .int .i64 g, vo, vb, .int .i64 r.2.2.2, .int .i64 r.1, .int .i64 nb, .bool r.2.1]) vo vb ord r.2.2.1
set_option maxHeartbeats 2400000 in
set_option maxRecDepth 100000 in
theorem srS_leaf (k : Nat) (w0 w : World) (B : Nat) (A0 : Option Addr) (c0 : Nat) (l : List S43) (n : Nat) (hn : l.length = n) (g nb : Int) (nodes : Int) (full : Bool) (vo vb : Value) (least : Int) (ord best : List Int) (r : Int × Bool × List Int × Int) (hB : w0.heap.size ≤ B) (hl : Kd.C k43 w0 A0 l.length l) (hc0 : l.length ≤ c0)
  (hs : SxG w0 w B 135 (#[.slice A0 n c0, .int .i64 g, vo, vb, .int .i64 least, .int .i64 nodes, .int .i64 nb, .bool full]) vo vb ord best) (he : ord.length = n) (h : srS (k + 1) l g nb none nodes full best least ord = some r) :
  Calls Try.prog 93 #[.pointer (some ⟨B, 0, none⟩)] w fun e w' => e = .returned (.tuple #[]) ∧ SxT w0 w' B A0 n c0 g nb r ord := by
 simp only [srS, he, hn, if_true] at h
 obtain ⟨en, hen, h⟩ := Option.bind_eq_some_iff.mp h
 obtain ⟨t, ht, h⟩ := Option.bind_eq_some_iff.mp h
 obtain ⟨Ao, co, rfl⟩ := Kd.R_slice hs.o
 have hco := (Kd.R_reads' hs.o).2.1
 have hro := (Kd.R_reads' hs.o).2.2
 have HG := Aside0.mk (fun (W : World) (hb : Below w.heap.size w W) => spec_l20Ends.calls k A0 c0 l Ao co ord g en W (Kd.C_below hl (hs.bel.trans (hb.mono hs.bel.size))) hc0 (Kd.C_below hro hb) hco hen)
 have HH := Aside0.mk (fun (W : World) (Ae : Option Addr) (ce : Nat) (hb : Below w.heap.size w W) (hr : Kd.C (Kd.int .i64) W Ae en.length en) (hc : en.length ≤ ce) => spec_l20Heat.calls k A0 c0 l Ae ce en t W (Kd.C_below hl (hs.bel.trans (hb.mono hs.bel.size))) hc0 hr hc ht)
 have HE := Aside0.mk he
 have HCO := Aside0.mk hco
 rw [hn] at HG HH
 rw [he] at HG
 have HS := Aside0.mk hs
 rw [he] at HS
 have hx0 : w.cell? ⟨B, 0, none⟩ = some (.slice A0 n c0) := (blk_cell HS.out.blk 0).trans rfl; have hx1 : w.cell? ⟨B, 1, none⟩ = some (.int .i64 g) := (blk_cell HS.out.blk 1).trans rfl; have hx2 : w.cell? ⟨B, 2, none⟩ = some (.slice Ao n co) := (blk_cell HS.out.blk 2).trans rfl; have hx3 : w.cell? ⟨B, 3, none⟩ = some (vb) := (blk_cell HS.out.blk 3).trans rfl; have hx4 : w.cell? ⟨B, 4, none⟩ = some (.int .i64 least) := (blk_cell HS.out.blk 4).trans rfl; have hx5 : w.cell? ⟨B, 5, none⟩ = some (.int .i64 nodes) := (blk_cell HS.out.blk 5).trans rfl; have hx6 : w.cell? ⟨B, 6, none⟩ = some (.int .i64 nb) := (blk_cell HS.out.blk 6).trans rfl; have hx7 : w.cell? ⟨B, 7, none⟩ = some (.bool full) := (blk_cell HS.out.blk 7).trans rfl
 clear hs hro hco hen ht he hl hc0 hx1 hx3 hx5 hx6 hx7
 by_cases hlt : least < 0 ∨ t < least
 ·
  rw [if_pos hlt] at h
  obtain ⟨o, ho, h2⟩ := Option.bind_eq_some_iff.mp h
  obtain rfl := Option.some.inj h2
  have HOW := Aside0.mk (fun (W : World) (hr : Kd.C (Kd.int .i64) W Ao n ord) => spec_l00Own.calls Ao co ord o W (by rw [HE.out]; exact hr) (HCO.out) ho)
  rw [HE.out] at HOW
  clear h h2 ho
  have hcases : decide (least < 0) = true ∨ (decide (least < 0) = false ∧ decide (t < least) = true) := by
   by_cases h0 : least < 0
   ·
    exact .inl (decide_eq_true h0)
   ·
    exact .inr ⟨decide_eq_false h0, decide_eq_true (hlt.resolve_left h0)⟩
  clear hlt hn
  have hx1 : True := trivial
  have hx3 : True := trivial
  have hx5 : True := trivial
  have hx6 : True := trivial
  have hx7 : True := trivial
  go_enter Try.func93, Try.ntmps93
  go_wp2
  go_quiet (fail)
  go_wp2
  rw [drewN_self w]; generalize hq_ : World.drewN w _ = w1
  have hb1 : Below w.heap.size w w1 := hq_ ▸ pw_below_drewN (Below.refl _ _) _
  have HB1 := Aside0.mk hb1
  have HS1 := Aside0.mk (HS.out.below hb1)
  clear hq_ hb1
  clear hx0 hx1 hx2 hx3 hx4 hx5 hx6 hx7; have hx0 : w1.cell? ⟨B, 0, none⟩ = some (.slice A0 n c0) := (blk_cell HS1.out.blk 0).trans rfl; have hx1 : w1.cell? ⟨B, 1, none⟩ = some (.int .i64 g) := (blk_cell HS1.out.blk 1).trans rfl; have hx2 : w1.cell? ⟨B, 2, none⟩ = some (.slice Ao n co) := (blk_cell HS1.out.blk 2).trans rfl; have hx3 : w1.cell? ⟨B, 3, none⟩ = some (vb) := (blk_cell HS1.out.blk 3).trans rfl; have hx4 : w1.cell? ⟨B, 4, none⟩ = some (.int .i64 least) := (blk_cell HS1.out.blk 4).trans rfl; have hx5 : w1.cell? ⟨B, 5, none⟩ = some (.int .i64 nodes) := (blk_cell HS1.out.blk 5).trans rfl; have hx6 : w1.cell? ⟨B, 6, none⟩ = some (.int .i64 nb) := (blk_cell HS1.out.blk 6).trans rfl; have hx7 : w1.cell? ⟨B, 7, none⟩ = some (.bool full) := (blk_cell HS1.out.blk 7).trans rfl
  go_region_held3 (fun w' => w'.cell? ⟨B, 0, none⟩ = some (.slice A0 n c0) ∧ w'.cell? ⟨B, 1, none⟩ = some (.int .i64 g) ∧ w'.cell? ⟨B, 2, none⟩ = some (.slice Ao n co) ∧ Aside0 (Below w.heap.size w w')) (first | exact ⟨hx0, hx1, hx2, ⟨below_drew1 HB1.out⟩⟩ | (have hq_ := HB3.out; exact ⟨(blk_cell (blk_below HS.out.blk hq_) 0).trans rfl, (blk_cell (blk_below HS.out.blk hq_) 1).trans rfl, (blk_cell (blk_below HS.out.blk hq_) 2).trans rfl, ⟨hq_⟩⟩) | (have hq_ := HB2.out; exact ⟨(blk_cell (blk_below HS.out.blk hq_) 0).trans rfl, (blk_cell (blk_below HS.out.blk hq_) 1).trans rfl, (blk_cell (blk_below HS.out.blk hq_) 2).trans rfl, ⟨hq_⟩⟩)) (first | (go_at_call 164; refine (HG.out _ (below_drew1 HB1.out)).mono ?_; rintro e w2 ⟨ve, rfl, hr, hb⟩; obtain ⟨Ae, ce, rfl⟩ := Kd.R_slice hr; have HB2 := Aside0.mk ((below_drew1 HB1.out).trans (hb.mono HB1.out.size)); have HRE := Aside0.mk (Kd.R_reads' hr).2.2; have HCE := Aside0.mk (Kd.R_reads' hr).2.1; clear hr hb) | (go_at_call 163; refine (HH.out _ Ae ce HB2.out HRE.out HCE.out).mono ?_; rintro e w3 ⟨rfl, hd⟩; have HB3 := Aside0.mk (HB2.out.trans ((Drawn0.below hd).mono HB2.out.size)); clear hd))
  have HS3 := Aside0.mk (HS.out.below HB3.out)
  clear hx0 hx1 hx2 hx3 hx4 hx5 hx6 hx7; have hx0 : w3.cell? ⟨B, 0, none⟩ = some (.slice A0 n c0) := (blk_cell HS3.out.blk 0).trans rfl; have hx1 : w3.cell? ⟨B, 1, none⟩ = some (.int .i64 g) := (blk_cell HS3.out.blk 1).trans rfl; have hx2 : w3.cell? ⟨B, 2, none⟩ = some (.slice Ao n co) := (blk_cell HS3.out.blk 2).trans rfl; have hx3 : w3.cell? ⟨B, 3, none⟩ = some (vb) := (blk_cell HS3.out.blk 3).trans rfl; have hx4 : w3.cell? ⟨B, 4, none⟩ = some (.int .i64 least) := (blk_cell HS3.out.blk 4).trans rfl; have hx5 : w3.cell? ⟨B, 5, none⟩ = some (.int .i64 nodes) := (blk_cell HS3.out.blk 5).trans rfl; have hx6 : w3.cell? ⟨B, 6, none⟩ = some (.int .i64 nb) := (blk_cell HS3.out.blk 6).trans rfl; have hx7 : w3.cell? ⟨B, 7, none⟩ = some (.bool full) := (blk_cell HS3.out.blk 7).trans rfl
  have hfb4 := blk_frozen HS3.out.blk 4
  rcases hcases with hd1 | ⟨hd1, hd2⟩
  all_goals
   go_wp2_with (first | ((with_reducible refine gate_store (t := 2) (p := 49) rfl ?_); refine store_event (t := 2) (p := 49) (v := ?vo_49) (w1 := (w3.setCell ⟨B, 4, none⟩ (.int .i64 t))) ?hg ?ho ?hn ?hr ?_; (case ho => rfl); (case hg => rfl); (case hn => rfl); (case hr => first | (go_simp; done) | (go_simp; rfl)); intro w4 hw; have HS4 := Aside0.mk (HS3.out.put hB 4 _ _ rfl hw); have HRO := Aside0.mk (show Kd.C (Kd.int .i64) w4 Ao n ord by have h_ := (Kd.R_reads' HS4.out.o).2.2; rw [HE.out] at h_; exact h_); clear hw hfb4; clear hx0 hx1 hx2 hx3 hx4 hx5 hx6 hx7; have hx0 : w4.cell? ⟨B, 0, none⟩ = some (.slice A0 n c0) := (blk_cell HS4.out.blk 0).trans rfl; have hx1 : w4.cell? ⟨B, 1, none⟩ = some (.int .i64 g) := (blk_cell HS4.out.blk 1).trans rfl; have hx2 : w4.cell? ⟨B, 2, none⟩ = some (.slice Ao n co) := (blk_cell HS4.out.blk 2).trans rfl; have hx3 : w4.cell? ⟨B, 3, none⟩ = some (vb) := (blk_cell HS4.out.blk 3).trans rfl; have hx4 : w4.cell? ⟨B, 4, none⟩ = some (.int .i64 t) := (blk_cell HS4.out.blk 4).trans rfl; have hx5 : w4.cell? ⟨B, 5, none⟩ = some (.int .i64 nodes) := (blk_cell HS4.out.blk 5).trans rfl; have hx6 : w4.cell? ⟨B, 6, none⟩ = some (.int .i64 nb) := (blk_cell HS4.out.blk 6).trans rfl; have hx7 : w4.cell? ⟨B, 7, none⟩ = some (.bool full) := (blk_cell HS4.out.blk 7).trans rfl) | (go_at_call 165; refine (HOW.out w4 HRO.out).mono ?_; rintro e w5 ⟨v0, rfl, hr, hb⟩; obtain ⟨Ab, cb, rfl⟩ := Kd.R_slice hr; have HR5 := Aside0.mk hr; have HB5 := Aside0.mk hb; have BK5 := Aside0.mk (blk_below HS4.out.blk hb); clear hr hb hx0 hx1 hx2 hx3 hx4 hx5 hx6 hx7; have hy3 : w5.cell? ⟨B, 3, none⟩ = some vb := (blk_cell BK5.out 3).trans rfl; have hf3 := blk_frozen BK5.out 3) | ((with_reducible refine gate_store (t := 35) (p := 57) rfl ?_); refine store_event (t := 35) (p := 57) (v := ?vo_57) (w1 := (w5.setCell ⟨B, 3, none⟩ (.slice Ab o.length cb))) ?hg ?ho ?hn ?hr ?_; (case ho => rfl); (case hg => rfl); (case hn => rfl); (case hr => first | (go_simp; done) | (go_simp; rfl)); intro w6 hw; have HS6 := Aside0.mk (HS4.out.best_ hB HB5.out 3 _ rfl HR5.out hw); clear hw))
   refine bodyPost_ret (results_none rfl _ _ _) rfl ?_
   exact ⟨rfl, _, _, by have h2 := HS6.out; exact h2⟩
 ·
  rw [if_neg hlt] at h
  obtain rfl := Option.some.inj h
  have hd1 : decide (least < 0) = false := decide_eq_false (fun z => hlt (.inl z))
  have hd2 : decide (t < least) = false := decide_eq_false (fun z => hlt (.inr z))
  clear hlt h hn
  have hx1 : True := trivial
  have hx3 : True := trivial
  have hx5 : True := trivial
  have hx6 : True := trivial
  have hx7 : True := trivial
  go_enter Try.func93, Try.ntmps93
  go_wp2
  go_quiet (fail)
  go_wp2
  rw [drewN_self w]; generalize hq_ : World.drewN w _ = w1
  have hb1 : Below w.heap.size w w1 := hq_ ▸ pw_below_drewN (Below.refl _ _) _
  have HB1 := Aside0.mk hb1
  have HS1 := Aside0.mk (HS.out.below hb1)
  clear hq_ hb1
  clear hx0 hx1 hx2 hx3 hx4 hx5 hx6 hx7; have hx0 : w1.cell? ⟨B, 0, none⟩ = some (.slice A0 n c0) := (blk_cell HS1.out.blk 0).trans rfl; have hx1 : w1.cell? ⟨B, 1, none⟩ = some (.int .i64 g) := (blk_cell HS1.out.blk 1).trans rfl; have hx2 : w1.cell? ⟨B, 2, none⟩ = some (.slice Ao n co) := (blk_cell HS1.out.blk 2).trans rfl; have hx3 : w1.cell? ⟨B, 3, none⟩ = some (vb) := (blk_cell HS1.out.blk 3).trans rfl; have hx4 : w1.cell? ⟨B, 4, none⟩ = some (.int .i64 least) := (blk_cell HS1.out.blk 4).trans rfl; have hx5 : w1.cell? ⟨B, 5, none⟩ = some (.int .i64 nodes) := (blk_cell HS1.out.blk 5).trans rfl; have hx6 : w1.cell? ⟨B, 6, none⟩ = some (.int .i64 nb) := (blk_cell HS1.out.blk 6).trans rfl; have hx7 : w1.cell? ⟨B, 7, none⟩ = some (.bool full) := (blk_cell HS1.out.blk 7).trans rfl
  go_region_held3 (fun w' => w'.cell? ⟨B, 0, none⟩ = some (.slice A0 n c0) ∧ w'.cell? ⟨B, 1, none⟩ = some (.int .i64 g) ∧ w'.cell? ⟨B, 2, none⟩ = some (.slice Ao n co) ∧ Aside0 (Below w.heap.size w w')) (first | exact ⟨hx0, hx1, hx2, ⟨below_drew1 HB1.out⟩⟩ | (have hq_ := HB3.out; exact ⟨(blk_cell (blk_below HS.out.blk hq_) 0).trans rfl, (blk_cell (blk_below HS.out.blk hq_) 1).trans rfl, (blk_cell (blk_below HS.out.blk hq_) 2).trans rfl, ⟨hq_⟩⟩) | (have hq_ := HB2.out; exact ⟨(blk_cell (blk_below HS.out.blk hq_) 0).trans rfl, (blk_cell (blk_below HS.out.blk hq_) 1).trans rfl, (blk_cell (blk_below HS.out.blk hq_) 2).trans rfl, ⟨hq_⟩⟩)) (first | (go_at_call 164; refine (HG.out _ (below_drew1 HB1.out)).mono ?_; rintro e w2 ⟨ve, rfl, hr, hb⟩; obtain ⟨Ae, ce, rfl⟩ := Kd.R_slice hr; have HB2 := Aside0.mk ((below_drew1 HB1.out).trans (hb.mono HB1.out.size)); have HRE := Aside0.mk (Kd.R_reads' hr).2.2; have HCE := Aside0.mk (Kd.R_reads' hr).2.1; clear hr hb) | (go_at_call 163; refine (HH.out _ Ae ce HB2.out HRE.out HCE.out).mono ?_; rintro e w3 ⟨rfl, hd⟩; have HB3 := Aside0.mk (HB2.out.trans ((Drawn0.below hd).mono HB2.out.size)); clear hd))
  have HS3 := Aside0.mk (HS.out.below HB3.out)
  clear hx0 hx1 hx2 hx3 hx4 hx5 hx6 hx7; have hx0 : w3.cell? ⟨B, 0, none⟩ = some (.slice A0 n c0) := (blk_cell HS3.out.blk 0).trans rfl; have hx1 : w3.cell? ⟨B, 1, none⟩ = some (.int .i64 g) := (blk_cell HS3.out.blk 1).trans rfl; have hx2 : w3.cell? ⟨B, 2, none⟩ = some (.slice Ao n co) := (blk_cell HS3.out.blk 2).trans rfl; have hx3 : w3.cell? ⟨B, 3, none⟩ = some (vb) := (blk_cell HS3.out.blk 3).trans rfl; have hx4 : w3.cell? ⟨B, 4, none⟩ = some (.int .i64 least) := (blk_cell HS3.out.blk 4).trans rfl; have hx5 : w3.cell? ⟨B, 5, none⟩ = some (.int .i64 nodes) := (blk_cell HS3.out.blk 5).trans rfl; have hx6 : w3.cell? ⟨B, 6, none⟩ = some (.int .i64 nb) := (blk_cell HS3.out.blk 6).trans rfl; have hx7 : w3.cell? ⟨B, 7, none⟩ = some (.bool full) := (blk_cell HS3.out.blk 7).trans rfl
  have hfb4 := blk_frozen HS3.out.blk 4
  go_wp2
  refine bodyPost_ret (results_none rfl _ _ _) rfl ?_
  exact ⟨rfl, _, _, by have h2 := HS3.out; exact h2⟩
set_option maxHeartbeats 2400000 in
set_option maxRecDepth 100000 in
theorem srS_loop (w0 : World) (B : Nat) (A0 : Option Addr) (n c0 : Nat) (l : List S43) (g nb : Int) (m : Nat) (hn : l.length = n) (hmax : n ≤ 9223372036854775807) (hB : w0.heap.size ≤ B)
  (IH : ∀ m2, m2 < m → ∀ (w : World) (nodes : Int) (full : Bool) (vo vb : Value) (least : Int) (ord best : List Int) (r : Int × Bool × List Int × Int), SxG w0 w B 135 (#[.slice A0 n c0, .int .i64 g, vo, vb, .int .i64 least, .int .i64 nodes, .int .i64 nb, .bool full]) vo vb ord best → srS m2 l g nb none nodes full best least ord = some r → Calls Try.prog 93 #[.pointer (some ⟨B, 0, none⟩)] w fun e w' => e = .returned (.tuple #[]) ∧ SxT w0 w' B A0 n c0 g nb r ord)
  (w : World) (nodes : Int) (full : Bool) (vo vb : Value) (least : Int) (ord best : List Int) (r : Int × Bool × List Int × Int) (hs : SxG w0 w B 135 (#[.slice A0 n c0, .int .i64 g, vo, vb, .int .i64 least, .int .i64 nodes, .int .i64 nb, .bool full]) vo vb ord best) (hne : ord.length ≠ n) (h : srS m l g nb (some 0) nodes full best least ord = some r) :
  Calls Try.prog 93 #[.pointer (some ⟨B, 0, none⟩)] w fun e w' => e = .returned (.tuple #[]) ∧ SxT w0 w' B A0 n c0 g nb r ord := by
 have HI := Aside0.mk IH
 have HN := Aside0.mk hn
 have H0 := Aside0.mk h
 have HS := Aside0.mk hs
 obtain ⟨Ao, co, rfl⟩ := Kd.R_slice hs.o
 have hx0 : w.cell? ⟨B, 0, none⟩ = some (.slice A0 n c0) := (blk_cell HS.out.blk 0).trans rfl
 have hx2 : w.cell? ⟨B, 2, none⟩ = some (.slice Ao ord.length co) := (blk_cell HS.out.blk 2).trans rfl
 have hq0 : ¬ (ord.length : Int) = (n : Int) := by omega
 have hq1 : ((ord.length : Int) == (n : Int)) = false := by simpa using hq0
 have hq2 : (ord.length == n) = false := by simpa using hne
 clear IH hn h hs hne hq0
 go_enter Try.func93, Try.ntmps93
 go_wp2
 go_quiet (fail)
 go_wp2
 rw [drewN_self w]; generalize hq_ : World.drewN w _ = w1
 have HS1 := Aside0.mk (HS.out.below (hq_ ▸ pw_below_drewN (Below.refl _ _) _))
 clear hq_ HS hq1 hq2 hx0 hx2
 go_loopg [3] m (fun gg s3 wr => ∃ (i : Nat) (nodes : Int) (full : Bool) (best : List Int) (least : Int) (vo vb : Value), s3 = .int .i64 (i : Int) ∧ Aside0 (SxG w0 wr B 135 (#[.slice A0 n c0, .int .i64 g, vo, vb, .int .i64 least, .int .i64 nodes, .int .i64 nb, .bool full]) vo vb ord best) ∧ Aside0 (srS gg l g nb (some i) nodes full best least ord = some r) ∧ Aside0 (gg ≤ m))
 case atStart => exact ⟨0, _, _, _, _, _, _, rfl, HS1, H0, ⟨Nat.le_refl _⟩⟩
 case round =>
  clear HS1 H0
  obtain ⟨i, nodes, full, best, least, vo, vb, rfl, HS, HA, HK⟩ := hrel
  cases gk with
  | zero => exact absurd HA.out (by simp [srS])
  | succ k1 =>
   have H := HA.out
   clear HA
   simp only [srS, HN.out] at H
   obtain ⟨Ao, co, rfl⟩ := Kd.R_slice HS.out.o
   have hx0 : wr.cell? ⟨B, 0, none⟩ = some (.slice A0 n c0) := (blk_cell HS.out.blk 0).trans rfl; have hx1 : wr.cell? ⟨B, 1, none⟩ = some (.int .i64 g) := (blk_cell HS.out.blk 1).trans rfl; have hx2 : wr.cell? ⟨B, 2, none⟩ = some (.slice Ao ord.length co) := (blk_cell HS.out.blk 2).trans rfl; have hx3 : wr.cell? ⟨B, 3, none⟩ = some (vb) := (blk_cell HS.out.blk 3).trans rfl; have hx4 : wr.cell? ⟨B, 4, none⟩ = some (.int .i64 least) := (blk_cell HS.out.blk 4).trans rfl; have hx5 : wr.cell? ⟨B, 5, none⟩ = some (.int .i64 nodes) := (blk_cell HS.out.blk 5).trans rfl; have hx6 : wr.cell? ⟨B, 6, none⟩ = some (.int .i64 nb) := (blk_cell HS.out.blk 6).trans rfl; have hx7 : wr.cell? ⟨B, 7, none⟩ = some (.bool full) := (blk_cell HS.out.blk 7).trans rfl
   have hnb : (n : Int) ≤ 9223372036854775807 := by omega
   have hi0 : 0 ≤ (i : Int) := by omega
   by_cases hlt : i < n
   ·
    rw [if_pos hlt] at H
    have hltz : decide ((i : Int) < (n : Int)) = true := decide_eq_true (by omega)
    have hltz2 : decide (i < n) = true := decide_eq_true hlt
    cases full with
    | true =>
     rw [if_pos rfl] at H
     obtain rfl := Option.some.inj H
     clear H
     go_wp2
     refine bodyPost_end (results_none rfl _ _ _) rfl ?_
     exact ⟨rfl, _, _, by have h2 := HS.out; exact h2⟩
    | false =>
     rw [if_neg (by decide)] at H
     obtain ⟨t, ht, H⟩ := Option.bind_eq_some_iff.mp H
     have HCN := Aside0.mk (fun (W : World) (hb : Below wr.heap.size wr W) => spec_l00Has.calls k1 Ao co ord (i : Int) t W (Kd.C_below (Kd.R_reads' HS.out.o).2.2 hb) (Kd.R_reads' HS.out.o).2.1 ht)
     clear ht
     cases t with
     | true =>
      simp only [if_true] at H
      have H' := Aside0.mk H
      clear H
      go_wp2_with (first | (go_at_call 133; refine (HCN.out wr (Below.refl _ _)).mono ?_; rintro e w2 ⟨rfl, hd⟩; have HS2 := Aside0.mk (HS.out.below (Drawn0.below hd)); clear hd; clear hx0 hx1 hx2 hx3 hx4 hx5 hx6 hx7; have hx0 : w2.cell? ⟨B, 0, none⟩ = some (.slice A0 n c0) := (blk_cell HS2.out.blk 0).trans rfl; have hx1 : w2.cell? ⟨B, 1, none⟩ = some (.int .i64 g) := (blk_cell HS2.out.blk 1).trans rfl; have hx2 : w2.cell? ⟨B, 2, none⟩ = some (.slice Ao ord.length co) := (blk_cell HS2.out.blk 2).trans rfl; have hx3 : w2.cell? ⟨B, 3, none⟩ = some (vb) := (blk_cell HS2.out.blk 3).trans rfl; have hx4 : w2.cell? ⟨B, 4, none⟩ = some (.int .i64 least) := (blk_cell HS2.out.blk 4).trans rfl; have hx5 : w2.cell? ⟨B, 5, none⟩ = some (.int .i64 nodes) := (blk_cell HS2.out.blk 5).trans rfl; have hx6 : w2.cell? ⟨B, 6, none⟩ = some (.int .i64 nb) := (blk_cell HS2.out.blk 6).trans rfl; have hx7 : w2.cell? ⟨B, 7, none⟩ = some (.bool false) := (blk_cell HS2.out.blk 7).trans rfl))
      go_roundg k1
      case measure => omega
      case rel => exact ⟨i + 1, _, _, _, _, _, _, by go_num, HS2, H', ⟨by have := HK.out; omega⟩⟩
     | false =>
      simp only [Bool.false_eq_true, if_false] at H
      by_cases hcb : nodes = nb
      ·
       rw [if_pos hcb] at H
       obtain rfl := Option.some.inj H
       have hd1 : (nodes == nb) = true := beq_iff_eq.mpr hcb
       clear H hcb
       go_wp2_with (first | (go_at_call 133; refine (HCN.out wr (Below.refl _ _)).mono ?_; rintro e w2 ⟨rfl, hd⟩; have HS2 := Aside0.mk (HS.out.below (Drawn0.below hd)); clear hd; clear hx0 hx1 hx2 hx3 hx4 hx5 hx6 hx7; have hx0 : w2.cell? ⟨B, 0, none⟩ = some (.slice A0 n c0) := (blk_cell HS2.out.blk 0).trans rfl; have hx1 : w2.cell? ⟨B, 1, none⟩ = some (.int .i64 g) := (blk_cell HS2.out.blk 1).trans rfl; have hx2 : w2.cell? ⟨B, 2, none⟩ = some (.slice Ao ord.length co) := (blk_cell HS2.out.blk 2).trans rfl; have hx3 : w2.cell? ⟨B, 3, none⟩ = some (vb) := (blk_cell HS2.out.blk 3).trans rfl; have hx4 : w2.cell? ⟨B, 4, none⟩ = some (.int .i64 least) := (blk_cell HS2.out.blk 4).trans rfl; have hx5 : w2.cell? ⟨B, 5, none⟩ = some (.int .i64 nodes) := (blk_cell HS2.out.blk 5).trans rfl; have hx6 : w2.cell? ⟨B, 6, none⟩ = some (.int .i64 nb) := (blk_cell HS2.out.blk 6).trans rfl; have hx7 : w2.cell? ⟨B, 7, none⟩ = some (.bool false) := (blk_cell HS2.out.blk 7).trans rfl))
       go_quiet (fail)
       rw [drewN_self w2]; generalize hq_ : World.drewN w2 _ = w3
       have HS3 := Aside0.mk (HS2.out.below (hq_ ▸ pw_below_drewN (Below.refl _ _) _))
       clear hq_ hd1
       clear hx0 hx1 hx2 hx3 hx4 hx5 hx6 hx7; have hx0 : w3.cell? ⟨B, 0, none⟩ = some (.slice A0 n c0) := (blk_cell HS3.out.blk 0).trans rfl; have hx1 : w3.cell? ⟨B, 1, none⟩ = some (.int .i64 g) := (blk_cell HS3.out.blk 1).trans rfl; have hx2 : w3.cell? ⟨B, 2, none⟩ = some (.slice Ao ord.length co) := (blk_cell HS3.out.blk 2).trans rfl; have hx3 : w3.cell? ⟨B, 3, none⟩ = some (vb) := (blk_cell HS3.out.blk 3).trans rfl; have hx4 : w3.cell? ⟨B, 4, none⟩ = some (.int .i64 least) := (blk_cell HS3.out.blk 4).trans rfl; have hx5 : w3.cell? ⟨B, 5, none⟩ = some (.int .i64 nodes) := (blk_cell HS3.out.blk 5).trans rfl; have hx6 : w3.cell? ⟨B, 6, none⟩ = some (.int .i64 nb) := (blk_cell HS3.out.blk 6).trans rfl; have hx7 : w3.cell? ⟨B, 7, none⟩ = some (.bool false) := (blk_cell HS3.out.blk 7).trans rfl
       have hfb7 := blk_frozen HS3.out.blk 7
       go_wp2_with (first | ((with_reducible refine gate_store (t := 4) (p := 91) rfl ?_); refine store_event (t := 4) (p := 91) (v := ?vo_91) (w1 := (w3.setCell ⟨B, 7, none⟩ (.bool true))) ?hg ?ho ?hn ?hr ?_; (case ho => rfl); (case hg => rfl); (case hn => rfl); (case hr => first | (go_simp; done) | (go_simp; rfl)); intro w4 hw; have HS4 := Aside0.mk (HS3.out.put hB 7 _ _ rfl hw); clear hw))
       refine bodyPost_ret (results_none rfl _ _ _) rfl ?_
       exact ⟨rfl, _, _, by have h2 := HS4.out; exact h2⟩
      ·
       rw [if_neg hcb] at H
       have hd1 : (nodes == nb) = false := beq_eq_false_iff_ne.mpr hcb
       clear hcb
       by_cases hol : ord.length < 1000
       ·
        rw [if_pos hol] at H
        obtain ⟨st, hrec, H⟩ := Option.bind_eq_some_iff.mp H
        have HREC := Aside0.mk hrec
        have HL := Aside0.mk hol
        have HLN := Aside0.mk (show (ord ++ [(i : Int)]).length = ord.length + 1 by simp)
        have H' := Aside0.mk H
        clear H hrec hol
        go_wp2_with (first | (go_at_call 133; refine (HCN.out wr (Below.refl _ _)).mono ?_; rintro e w2 ⟨rfl, hd⟩; have HS2 := Aside0.mk (HS.out.below (Drawn0.below hd)); clear hd; clear hx0 hx1 hx2 hx3 hx4 hx5 hx6 hx7; have hx0 : w2.cell? ⟨B, 0, none⟩ = some (.slice A0 n c0) := (blk_cell HS2.out.blk 0).trans rfl; have hx1 : w2.cell? ⟨B, 1, none⟩ = some (.int .i64 g) := (blk_cell HS2.out.blk 1).trans rfl; have hx2 : w2.cell? ⟨B, 2, none⟩ = some (.slice Ao ord.length co) := (blk_cell HS2.out.blk 2).trans rfl; have hx3 : w2.cell? ⟨B, 3, none⟩ = some (vb) := (blk_cell HS2.out.blk 3).trans rfl; have hx4 : w2.cell? ⟨B, 4, none⟩ = some (.int .i64 least) := (blk_cell HS2.out.blk 4).trans rfl; have hx5 : w2.cell? ⟨B, 5, none⟩ = some (.int .i64 nodes) := (blk_cell HS2.out.blk 5).trans rfl; have hx6 : w2.cell? ⟨B, 6, none⟩ = some (.int .i64 nb) := (blk_cell HS2.out.blk 6).trans rfl; have hx7 : w2.cell? ⟨B, 7, none⟩ = some (.bool false) := (blk_cell HS2.out.blk 7).trans rfl))
        go_quiet (fail)
        rw [drewN_self w2]; generalize hq_ : World.drewN w2 _ = w3
        have HS3 := Aside0.mk (HS2.out.below (hq_ ▸ pw_below_drewN (Below.refl _ _) _))
        clear hq_ hd1
        clear hx0 hx1 hx2 hx3 hx4 hx5 hx6 hx7; have hx0 : w3.cell? ⟨B, 0, none⟩ = some (.slice A0 n c0) := (blk_cell HS3.out.blk 0).trans rfl; have hx1 : w3.cell? ⟨B, 1, none⟩ = some (.int .i64 g) := (blk_cell HS3.out.blk 1).trans rfl; have hx2 : w3.cell? ⟨B, 2, none⟩ = some (.slice Ao ord.length co) := (blk_cell HS3.out.blk 2).trans rfl; have hx3 : w3.cell? ⟨B, 3, none⟩ = some (vb) := (blk_cell HS3.out.blk 3).trans rfl; have hx4 : w3.cell? ⟨B, 4, none⟩ = some (.int .i64 least) := (blk_cell HS3.out.blk 4).trans rfl; have hx5 : w3.cell? ⟨B, 5, none⟩ = some (.int .i64 nodes) := (blk_cell HS3.out.blk 5).trans rfl; have hx6 : w3.cell? ⟨B, 6, none⟩ = some (.int .i64 nb) := (blk_cell HS3.out.blk 6).trans rfl; have hx7 : w3.cell? ⟨B, 7, none⟩ = some (.bool false) := (blk_cell HS3.out.blk 7).trans rfl
        have hfb5 := blk_frozen HS3.out.blk 5
        go_wp2_with (first | ((with_reducible refine gate_store (t := 2) (p := 98) rfl ?_); refine store_event (t := 2) (p := 98) (v := ?vo_98) (w1 := (w3.setCell ⟨B, 5, none⟩ (.int .i64 (wrap64 (nodes + 1))))) ?hg ?ho ?hn ?hr ?_; (case ho => rfl); (case hg => rfl); (case hn => rfl); (case hr => first | (go_simp; done) | (go_simp; rfl)); intro w4 hw; have HS4 := Aside0.mk (HS3.out.put hB 5 _ _ rfl hw); clear hw hfb5; clear hx0 hx1 hx2 hx3 hx4 hx5 hx6 hx7; have hx0 : w4.cell? ⟨B, 0, none⟩ = some (.slice A0 n c0) := (blk_cell HS4.out.blk 0).trans rfl; have hx1 : w4.cell? ⟨B, 1, none⟩ = some (.int .i64 g) := (blk_cell HS4.out.blk 1).trans rfl; have hx2 : w4.cell? ⟨B, 2, none⟩ = some (.slice Ao ord.length co) := (blk_cell HS4.out.blk 2).trans rfl; have hx3 : w4.cell? ⟨B, 3, none⟩ = some (vb) := (blk_cell HS4.out.blk 3).trans rfl; have hx4 : w4.cell? ⟨B, 4, none⟩ = some (.int .i64 least) := (blk_cell HS4.out.blk 4).trans rfl; have hx5 : w4.cell? ⟨B, 5, none⟩ = some (.int .i64 (wrap64 (nodes + 1))) := (blk_cell HS4.out.blk 5).trans rfl; have hx6 : w4.cell? ⟨B, 6, none⟩ = some (.int .i64 nb) := (blk_cell HS4.out.blk 6).trans rfl; have hx7 : w4.cell? ⟨B, 7, none⟩ = some (.bool false) := (blk_cell HS4.out.blk 7).trans rfl) | ((with_reducible refine gate_builtin (b := .append) (xs := #[.tmp 103, .tmp 105]) rfl ?_); (try (refine gate_guard (by rfl) ?_; dsimp only)); at_builtin; refine Kd.R_append (Kd.int .i64) (w0 := w0) w0.heap.size rfl (.tmp 103) (.tmp 105) 35 2 (.int .i64 0) 8 rfl Try.underlying35 info2 rfl (by decide) (by omega) (.slice Ao ord.length co) ord (i : Int) [.int .i64 (i : Int)] (fun k_ => k_ ≠ B) (fun _ => False) rfl rfl rfl (fun _ hk => hk.elim) ?aF ?aO ?aB ?aS ?aL ?_; (case aF => intro k_ hk e_; subst e_; exact absurd (blk_lt HS4.out.blk) (Nat.not_lt.2 hk)); (case aO => exact HS4.out.o); (case aB => exact HS4.out.bel); (case aS => exact HS4.out.bel.size); (case aL => have := HL.out; omega); intro v6 w6 ho hb6 hg6 hat; obtain ⟨A6, c6, e6⟩ := Kd.R_slice ho; rw [HLN.out] at e6; subst e6; have BK6 := Aside0.mk (blk_grown HS4.out.blk hg6 (fun e_ => HS4.out.o.1 B e_.symm rfl)); have HO6 := Aside0.mk ho; have HB6 := Aside0.mk hb6; have HG6 := Aside0.mk hg6; have HAT := Aside0.mk hat; clear ho hb6 hg6 hat hx0 hx1 hx2 hx3 hx4 hx5 hx6 hx7; have hy2 : w6.cell? ⟨B, 2, none⟩ = some (.slice Ao ord.length co) := (blk_cell BK6.out 2).trans rfl; have hf2 := blk_frozen BK6.out 2) | ((with_reducible refine gate_store (t := 35) (p := 108) rfl ?_); refine store_event (t := 35) (p := 108) (v := ?vo_108) (w1 := (w6.setCell ⟨B, 2, none⟩ (.slice A6 (ord.length + 1) c6))) ?hg ?ho ?hn ?hr ?_; (case ho => rfl); (case hg => rfl); (case hn => rfl); (case hr => first | (go_simp; done) | (go_simp; rfl)); intro w7 hw; have HS7 := Aside0.mk (HS4.out.grow hB 2 _ rfl HO6.out HB6.out HG6.out HAT.out hw); clear hw hy2 hf2) | (go_at_call 93; refine (HI.out k1 (by have := HK.out; omega) w7 _ _ _ _ _ _ _ st HS7.out HREC.out).mono ?_; rintro e w8 ⟨rfl, vo8, vb8, hs8⟩; obtain ⟨A8, c8, e8⟩ := Kd.R_slice hs8.o; rw [HLN.out] at e8; subst e8; have HS8 := Aside0.mk hs8; have hc8 := (Kd.R_reads' hs8.o).2.1; clear hs8))
        obtain ⟨sn, sf, sb, sl⟩ := st
        have hx0 : w8.cell? ⟨B, 0, none⟩ = some (.slice A0 n c0) := (blk_cell HS8.out.blk 0).trans rfl
        have hx2 : w8.cell? ⟨B, 2, none⟩ = some (.slice A8 (ord.length + 1) c8) := (blk_cell HS8.out.blk 2).trans rfl
        have hcut := cut64 A8 (ord.length + 1) c8 ord.length (Nat.le_succ _) hc8
        have hw3 : IntKind.i64.wrap (ord.length : Int) = (ord.length : Int) := by have := HL.out; rw [IntKind.wrap_i64]; omega
        have HSQ := Aside0.mk (HS8.out.below (below_drew1 (Below.refl _ _)))
        go_still_tail 14, (by kernel_rfl)
        change wpList _ _ _ _ _ w8.drew
        generalize w8.drew = w9 at HSQ ⊢
        have HS9 := HSQ
        clear hx0 hx2
        have hx0 : w9.cell? ⟨B, 0, none⟩ = some (.slice A0 n c0) := (blk_cell HS9.out.blk 0).trans rfl; have hx1 : w9.cell? ⟨B, 1, none⟩ = some (.int .i64 g) := (blk_cell HS9.out.blk 1).trans rfl; have hx2 : w9.cell? ⟨B, 2, none⟩ = some (.slice A8 (ord.length + 1) c8) := (blk_cell HS9.out.blk 2).trans rfl; have hx3 : w9.cell? ⟨B, 3, none⟩ = some (vb8) := (blk_cell HS9.out.blk 3).trans rfl; have hx4 : w9.cell? ⟨B, 4, none⟩ = some (.int .i64 sl) := (blk_cell HS9.out.blk 4).trans rfl; have hx5 : w9.cell? ⟨B, 5, none⟩ = some (.int .i64 sn) := (blk_cell HS9.out.blk 5).trans rfl; have hx6 : w9.cell? ⟨B, 6, none⟩ = some (.int .i64 nb) := (blk_cell HS9.out.blk 6).trans rfl; have hx7 : w9.cell? ⟨B, 7, none⟩ = some (.bool sf) := (blk_cell HS9.out.blk 7).trans rfl
        have hfb2 := blk_frozen HS9.out.blk 2
        go_wp2_with ((with_reducible refine gate_store (t := 35) (p := 124) rfl ?_); refine store_event (t := 35) (p := 124) (v := ?vo_124) (w1 := (w9.setCell ⟨B, 2, none⟩ (.slice A8 ord.length c8))) ?hg ?ho ?hn ?hr ?_; (case ho => rfl); (case hg => rfl); (case hn => rfl); (case hr => first | (go_simp; done) | (go_simp; rfl)); intro w10 hw; have HS10 := Aside0.mk (HS9.out.cut hB 2 _ rfl hw); clear hw hfb2; clear hx0 hx1 hx2 hx3 hx4 hx5 hx6 hx7; have hx0 : w10.cell? ⟨B, 0, none⟩ = some (.slice A0 n c0) := (blk_cell HS10.out.blk 0).trans rfl; have hx1 : w10.cell? ⟨B, 1, none⟩ = some (.int .i64 g) := (blk_cell HS10.out.blk 1).trans rfl; have hx2 : w10.cell? ⟨B, 2, none⟩ = some (.slice A8 ord.length c8) := (blk_cell HS10.out.blk 2).trans rfl; have hx3 : w10.cell? ⟨B, 3, none⟩ = some (vb8) := (blk_cell HS10.out.blk 3).trans rfl; have hx4 : w10.cell? ⟨B, 4, none⟩ = some (.int .i64 sl) := (blk_cell HS10.out.blk 4).trans rfl; have hx5 : w10.cell? ⟨B, 5, none⟩ = some (.int .i64 sn) := (blk_cell HS10.out.blk 5).trans rfl; have hx6 : w10.cell? ⟨B, 6, none⟩ = some (.int .i64 nb) := (blk_cell HS10.out.blk 6).trans rfl; have hx7 : w10.cell? ⟨B, 7, none⟩ = some (.bool sf) := (blk_cell HS10.out.blk 7).trans rfl)
        go_roundg k1
        case measure => omega
        case rel => exact ⟨i + 1, _, _, _, _, _, _, by go_num, HS10, H', ⟨by have := HK.out; omega⟩⟩
       ·
        rw [if_neg hol] at H
        cases H
   ·
    rw [if_neg hlt] at H
    obtain rfl := Option.some.inj H
    have hltz : decide ((i : Int) < (n : Int)) = false := decide_eq_false (by omega)
    have hltz2 : decide (i < n) = false := decide_eq_false hlt
    clear H hlt
    go_wp2
    refine bodyPost_end (results_none rfl _ _ _) rfl ?_
    exact ⟨rfl, _, _, by have h2 := HS.out; exact h2⟩
theorem srS_calls (w0 : World) (B : Nat) (A0 : Option Addr) (n c0 : Nat) (l : List S43) (g nb : Int) (hn : l.length = n) (hB : w0.heap.size ≤ B) (hl : Kd.C k43 w0 A0 n l) (hc0 : n ≤ c0) (k : Nat) :
  ∀ m2, m2 ≤ k → ∀ (w : World) (nodes : Int) (full : Bool) (vo vb : Value) (least : Int) (ord best : List Int) (r : Int × Bool × List Int × Int), SxG w0 w B 135 (#[.slice A0 n c0, .int .i64 g, vo, vb, .int .i64 least, .int .i64 nodes, .int .i64 nb, .bool full]) vo vb ord best → srS m2 l g nb none nodes full best least ord = some r → Calls Try.prog 93 #[.pointer (some ⟨B, 0, none⟩)] w fun e w' => e = .returned (.tuple #[]) ∧ SxT w0 w' B A0 n c0 g nb r ord := by
 subst hn
 induction k with
 | zero =>
  intro m hm w nodes full vo vb least ord best r hs h
  obtain rfl : m = 0 := by omega
  exact absurd h (by simp [srS])
 | succ k ih =>
  intro m hm w nodes full vo vb least ord best r hs h
  cases m with
  | zero => exact absurd h (by simp [srS])
  | succ m =>
   by_cases he : ord.length = l.length
   ·
    exact srS_leaf m w0 w B A0 c0 l _ rfl g nb nodes full vo vb least ord best r hB hl hc0 hs he h
   ·
    simp only [srS, if_neg he] at h
    exact srS_loop w0 B A0 l.length c0 l g nb m rfl (Kd.C_max hl) hB (fun m2 h2 => ih m2 (by omega)) w nodes full vo vb least ord best r hs he h


def spec_BestOrder.f (k : Nat) (l0 : List S43) : Option (List Int × Int × Int) := (spec_l20Ok.f k l0).bind fun t => if t = true then ((srS k l0 1 1000000 none 0 false [] (-1) []).bind fun st => some (st.2.2.1, st.2.2.2, 0)) else some ([], 0, 1)
set_option maxHeartbeats 4000000 in
set_option maxRecDepth 100000 in
theorem spec_BestOrder.calls (k : Nat) (A0 : Option Addr) (c0 : Nat) (l0 : List S43) (r1 : List Int) (r2 : Int) (r3 : Int) (w : World) (hr0 : Kd.C k43 w A0 l0.length l0) (hc0 : l0.length ≤ c0) (h : spec_BestOrder.f k l0 = some (r1, r2, r3)) :
  Calls Try.prog 31 #[.slice A0 l0.length c0] w fun e w' => ∃ v0_ : Value, e = .returned (.tuple #[v0_, .int .i64 r2, .int .i64 r3]) ∧ Kd.R (Kd.int .i64) 2 w' w.heap.size (fun _ => True) v0_ r1 ∧ Below w.heap.size w w' := by
 unfold spec_BestOrder.f at h
 obtain ⟨n, hn⟩ : ∃ n, l0.length = n := ⟨_, rfl⟩
 have HN := Aside0.mk hn
 have HR0 := Aside0.mk hr0
 have HC0 := Aside0.mk hc0
 rw [hn]
 clear hr0 hc0 hn
 obtain ⟨t, ht, h⟩ := Option.bind_eq_some_iff.mp h
 have HT := Aside0.mk ht
 clear ht
 cases t with
 | false =>
  simp only [Bool.false_eq_true, if_false, Option.some.injEq, Prod.mk.injEq] at h
  obtain ⟨rfl, rfl, rfl⟩ := h
  have HVC := fun W (hr : Kd.C k43 W A0 l0.length l0) => spec_l20Ok.calls k A0 c0 l0 false W hr HC0.out HT.out
  rw [HN.out] at HVC HR0
  have HV_ := Aside0.mk HVC
  clear HVC
  go_enter Try.func31, Try.ntmps31
  go_wp2_with (go_at_call 92; refine (HV_.out _ HR0.out).mono ?_; rintro e w1 ⟨rfl, hd⟩; have B1 := Aside0.mk (Drawn0.below hd); clear hd)
  go_ret3
  exact ⟨_, rfl, Kd.R_nil _ _ _ _ _, B1.out⟩
 | true =>
  simp only [if_true] at h
  obtain ⟨st, hst, h⟩ := Option.bind_eq_some_iff.mp h
  simp only [Option.some.injEq, Prod.mk.injEq] at h
  obtain ⟨rfl, rfl, rfl⟩ := h
  have HST := Aside0.mk hst
  have HVC := fun W (hr : Kd.C k43 W A0 l0.length l0) => spec_l20Ok.calls k A0 c0 l0 true W hr HC0.out HT.out
  rw [HN.out] at HVC HR0 HC0
  have HV_ := Aside0.mk HVC
  clear HVC hst
  go_enter Try.func31, Try.ntmps31
  go_wp2_with (first | (go_at_call 92; refine (HV_.out _ HR0.out).mono ?_; rintro e w1 ⟨rfl, hd⟩; have B1 := Aside0.mk (Drawn0.below hd); clear hd) | ((with_reducible refine gate_dst (N := 11) rfl ?_); refine box_event ?hg (N := 11) ?hd (cs := #[.slice A0 n c0, .int .i64 1, .slice none 0 0, .slice none 0 0, .int .i64 (-1), .int .i64 0, .int .i64 1000000, .bool false]) (t := 135) ?hr ?_; (case hd => rfl); (case hg => rfl); (case hr => first | (go_simp; done) | (go_simp; rfl)); intro B hgB w7 hbox hb; have HS7 := Aside0.mk (show SxG w w7 B 135 #[.slice A0 n c0, .int .i64 1, .slice none 0 0, .slice none 0 0, .int .i64 (-1), .int .i64 0, .int .i64 1000000, .bool false] (.slice none 0 0) (.slice none 0 0) [] [] from ⟨hbox, Kd.R_nil _ _ _ _ _, Kd.R_nil _ _ _ _ _, B1.out.trans (hb.mono B1.out.size)⟩); have BG := Aside0.mk (show w.heap.size ≤ B by rw [hgB]; exact B1.out.size); clear hgB hbox hb) | (go_at_call 93; refine (srS_calls w B A0 n c0 l0 1 1000000 HN.out BG.out HR0.out HC0.out k k (Nat.le_refl _) w7 _ _ _ _ _ _ _ _ HS7.out HST.out).mono ?_; rintro e w8 ⟨rfl, vo8, vb8, hs8⟩; obtain ⟨A8, c8, rfl⟩ := Kd.R_slice hs8.b; have HS8 := Aside0.mk hs8; have hx3 : w8.cell? ⟨B, 3, none⟩ = some (.slice A8 st.2.2.1.length c8) := (blk_cell hs8.blk 3).trans rfl; have hx4 : w8.cell? ⟨B, 4, none⟩ = some (.int .i64 st.2.2.2) := (blk_cell hs8.blk 4).trans rfl; have hx7 : w8.cell? ⟨B, 7, none⟩ = some (.bool st.2.1) := (blk_cell hs8.blk 7).trans rfl; clear hs8))
  go_quiet (fail)
  try go_wp2
  go_ret3
  refine ⟨_, rfl, Kd.R_drewN (Kd.R_mono HS8.out.b (fun _ _ => trivial)) _, pw_below_drewN HS8.out.bel _⟩

/-! ### laws_toRepair: function 94 -/
def laws_toRepair.f (a0_0 : ByteArray) (a0_1 : Int) (a0_2 : Int) (a0_3 : Int) : Option (ByteArray × Int × Int × Int) := some (a0_0, a0_1, a0_2, a0_3)
set_option maxHeartbeats 8000000 in
set_option maxRecDepth 100000 in
theorem laws_toRepair.calls (a0_0 : ByteArray) (a0_1 : Int) (a0_2 : Int) (a0_3 : Int) (r1 : ByteArray) (r2 : Int) (r3 : Int) (r4 : Int) (w : World) (h : laws_toRepair.f a0_0 a0_1 a0_2 a0_3 = some (r1, r2, r3, r4)) :
  Calls Try.prog 94 #[.agg #[.string a0_0, .int .i64 a0_1, .int .i64 a0_2, .int .i64 a0_3]] w fun e w' => e = .returned (.agg #[.string r1, .int .i64 r2, .int .i64 r3, .int .i64 r4]) ∧ Below w.heap.size w w' := by
 have hu132 := Try.underlying132
 have hu43 := Try.underlying43
 have HB := Aside0.mk (Below.refl w.heap.size w)
 have H : (some (a0_0, a0_1, a0_2, a0_3)) = some (r1, r2, r3, r4) := h
 clear h
 simp only [Option.some.injEq, Prod.mk.injEq] at H
 obtain ⟨rfl, rfl, rfl, rfl⟩ := H
 go_enter Try.func94, Try.ntmps94
 go_wp2_with (first | ((with_reducible refine gate_dst (N := 1) rfl ?_); refine box_event ?hg (N := 1) ?hd (cs := #[.string a0_0, .int .i64 a0_1, .int .i64 a0_2, .int .i64 a0_3]) (t := 132) ?hr ?_; (case hd => rfl); (case hg => rfl); (case hr => first | (go_simp; done) | (go_simp; rfl)); intro gb183 hg w2 hbox hb; have n0_ := Aside0.mk (below_step (by repeat (first | (with_reducible first | exact HB.out | apply below_alloc | apply pw_below_drewN | apply below_drew1) | exact HB.out)) hb); have n1_ := Aside0.mk (hbox); have n2_ := Aside0.mk ((by rw [hg]; exact (below_size (by repeat (first | (with_reducible first | exact HB.out | apply below_alloc | apply pw_below_drewN | apply below_drew1) | exact HB.out))) : w.heap.size ≤ gb183)); have n3_ := Aside0.mk ((by rw [hg]; exact (below_size (by repeat (first | (with_reducible first | exact HB.out | apply below_alloc | apply pw_below_drewN | apply below_drew1) | exact HB.out))) : w.heap.size ≤ gb183)); clear HB; have HB := n0_; have BK183 := n1_; have GW183 := n2_; have GE183 := n3_; clear n0_ n1_ n2_ n3_; clear hb hbox hg) | ((with_reducible refine gate_dst (N := 2) rfl ?_); refine box_event ?hg (N := 2) ?hd (cs := #[.string (⟨#[]⟩ : ByteArray), .int .i64 0, .int .i64 0, .int .i64 0]) (t := 43) ?hr ?_; (case hd => rfl); (case hg => rfl); (case hr => first | (go_simp; done) | (go_simp; rfl)); intro gb184 hg w3 hbox hb; have n0_ := Aside0.mk (blk_below (g := gb183) (o := .cells #[.string a0_0, .int .i64 a0_1, .int .i64 a0_2, .int .i64 a0_3] 132 (0, 0)) (by (with_reducible repeat (first | refine blk_drewN ?_ _ | refine blk_drew ?_ | refine blk_alloc ?_ _)); exact BK183.out) hb); have n1_ := Aside0.mk (below_step (by repeat (first | (with_reducible first | exact HB.out | apply below_alloc | apply pw_below_drewN | apply below_drew1 | refine below_set ?_ GE183.out) | exact HB.out)) hb); have n2_ := Aside0.mk (hbox); have n3_ := Aside0.mk ((by rw [hg]; exact (below_size (by repeat (first | (with_reducible first | exact HB.out | apply below_alloc | apply pw_below_drewN | apply below_drew1 | refine below_set ?_ GE183.out) | exact HB.out))) : w.heap.size ≤ gb184)); have n4_ := Aside0.mk ((by rw [hg]; exact (below_size (by repeat (first | (with_reducible first | exact HB.out | apply below_alloc | apply pw_below_drewN | apply below_drew1 | refine below_set ?_ GE183.out) | exact HB.out))) : w.heap.size ≤ gb184)); have n5_ := Aside0.mk ((by rw [hg]; exact Nat.ne_of_lt (blk_lt (g := gb183) (o := .cells #[.string a0_0, .int .i64 a0_1, .int .i64 a0_2, .int .i64 a0_3] 132 (0, 0)) (by (with_reducible repeat (first | refine blk_drewN ?_ _ | refine blk_drew ?_ | refine blk_alloc ?_ _)); exact BK183.out)) : gb183 ≠ gb184)); have n6_ := Aside0.mk ((by rw [hg]; exact Nat.ne_of_gt (blk_lt (g := gb183) (o := .cells #[.string a0_0, .int .i64 a0_1, .int .i64 a0_2, .int .i64 a0_3] 132 (0, 0)) (by (with_reducible repeat (first | refine blk_drewN ?_ _ | refine blk_drew ?_ | refine blk_alloc ?_ _)); exact BK183.out)) : gb184 ≠ gb183)); clear BK183; clear HB; have BK183 := n0_; have HB := n1_; have BK184 := n2_; have GW184 := n3_; have GE184 := n4_; have NB183_184 := n5_; have NB184_183 := n6_; clear n0_ n1_ n2_ n3_ n4_ n5_ n6_; clear hb hbox hg) | ((with_reducible refine gate_dst (N := 3) rfl ?_); refine box_event ?hg (N := 3) ?hd (cs := #[.string (⟨#[]⟩ : ByteArray), .int .i64 0, .int .i64 0, .int .i64 0]) (t := 43) ?hr ?_; (case hd => rfl); (case hg => rfl); (case hr => first | (go_simp; done) | (go_simp; rfl)); intro gb185 hg w4 hbox hb; have n0_ := Aside0.mk (blk_below (g := gb183) (o := .cells #[.string a0_0, .int .i64 a0_1, .int .i64 a0_2, .int .i64 a0_3] 132 (0, 0)) (by (with_reducible repeat (first | refine blk_drewN ?_ _ | refine blk_drew ?_ | refine blk_alloc ?_ _)); exact BK183.out) hb); have n1_ := Aside0.mk (blk_below (g := gb184) (o := .cells #[.string (⟨#[]⟩ : ByteArray), .int .i64 0, .int .i64 0, .int .i64 0] 43 (0, 0)) (by (with_reducible repeat (first | refine blk_drewN ?_ _ | refine blk_drew ?_ | refine blk_alloc ?_ _)); exact BK184.out) hb); have n2_ := Aside0.mk (below_step (by repeat (first | (with_reducible first | exact HB.out | apply below_alloc | apply pw_below_drewN | apply below_drew1 | refine below_set ?_ GE183.out | refine below_set ?_ GE184.out) | exact HB.out)) hb); have n3_ := Aside0.mk (hbox); have n4_ := Aside0.mk ((by rw [hg]; exact (below_size (by repeat (first | (with_reducible first | exact HB.out | apply below_alloc | apply pw_below_drewN | apply below_drew1 | refine below_set ?_ GE183.out | refine below_set ?_ GE184.out) | exact HB.out))) : w.heap.size ≤ gb185)); have n5_ := Aside0.mk ((by rw [hg]; exact (below_size (by repeat (first | (with_reducible first | exact HB.out | apply below_alloc | apply pw_below_drewN | apply below_drew1 | refine below_set ?_ GE183.out | refine below_set ?_ GE184.out) | exact HB.out))) : w.heap.size ≤ gb185)); have n6_ := Aside0.mk ((by rw [hg]; exact Nat.ne_of_lt (blk_lt (g := gb183) (o := .cells #[.string a0_0, .int .i64 a0_1, .int .i64 a0_2, .int .i64 a0_3] 132 (0, 0)) (by (with_reducible repeat (first | refine blk_drewN ?_ _ | refine blk_drew ?_ | refine blk_alloc ?_ _)); exact BK183.out)) : gb183 ≠ gb185)); have n7_ := Aside0.mk ((by rw [hg]; exact Nat.ne_of_gt (blk_lt (g := gb183) (o := .cells #[.string a0_0, .int .i64 a0_1, .int .i64 a0_2, .int .i64 a0_3] 132 (0, 0)) (by (with_reducible repeat (first | refine blk_drewN ?_ _ | refine blk_drew ?_ | refine blk_alloc ?_ _)); exact BK183.out)) : gb185 ≠ gb183)); have n8_ := Aside0.mk ((by rw [hg]; exact Nat.ne_of_lt (blk_lt (g := gb184) (o := .cells #[.string (⟨#[]⟩ : ByteArray), .int .i64 0, .int .i64 0, .int .i64 0] 43 (0, 0)) (by (with_reducible repeat (first | refine blk_drewN ?_ _ | refine blk_drew ?_ | refine blk_alloc ?_ _)); exact BK184.out)) : gb184 ≠ gb185)); have n9_ := Aside0.mk ((by rw [hg]; exact Nat.ne_of_gt (blk_lt (g := gb184) (o := .cells #[.string (⟨#[]⟩ : ByteArray), .int .i64 0, .int .i64 0, .int .i64 0] 43 (0, 0)) (by (with_reducible repeat (first | refine blk_drewN ?_ _ | refine blk_drew ?_ | refine blk_alloc ?_ _)); exact BK184.out)) : gb185 ≠ gb184)); clear BK183; clear BK184; clear HB; have BK183 := n0_; have BK184 := n1_; have HB := n2_; have BK185 := n3_; have GW185 := n4_; have GE185 := n5_; have NB183_185 := n6_; have NB185_183 := n7_; have NB184_185 := n8_; have NB185_184 := n9_; clear n0_ n1_ n2_ n3_ n4_ n5_ n6_ n7_ n8_ n9_; clear hb hbox hg; have hnb5 := NB183_184.out; have hnc5 := NB184_183.out; have hnb6 := NB183_185.out; have hnc6 := NB185_183.out; have hcz7_0 : w4.cell? ⟨gb183, 0, none⟩ = some (.string a0_0) := (blk_cell BK183.out 0).trans rfl; have hcz7_1 : w4.cell? ⟨gb183, 1, none⟩ = some (.int .i64 a0_1) := (blk_cell BK183.out 1).trans rfl; have hcz7_2 : w4.cell? ⟨gb183, 2, none⟩ = some (.int .i64 a0_2) := (blk_cell BK183.out 2).trans rfl; have hcz7_3 : w4.cell? ⟨gb183, 3, none⟩ = some (.int .i64 a0_3) := (blk_cell BK183.out 3).trans rfl; have hfz7_0 := blk_frozen BK183.out 0; have hfz7_1 := blk_frozen BK183.out 1; have hfz7_2 := blk_frozen BK183.out 2; have hfz7_3 := blk_frozen BK183.out 3; have hnb8 := NB185_184.out; have hnc8 := NB184_185.out; have hcz9_0 : w4.cell? ⟨gb185, 0, none⟩ = some (.string (⟨#[]⟩ : ByteArray)) := (blk_cell BK185.out 0).trans rfl; have hcz9_1 : w4.cell? ⟨gb185, 1, none⟩ = some (.int .i64 0) := (blk_cell BK185.out 1).trans rfl; have hcz9_2 : w4.cell? ⟨gb185, 2, none⟩ = some (.int .i64 0) := (blk_cell BK185.out 2).trans rfl; have hcz9_3 : w4.cell? ⟨gb185, 3, none⟩ = some (.int .i64 0) := (blk_cell BK185.out 3).trans rfl; have hfz9_0 := blk_frozen BK185.out 0; have hfz9_1 := blk_frozen BK185.out 1; have hfz9_2 := blk_frozen BK185.out 2; have hfz9_3 := blk_frozen BK185.out 3; have hcz10_0 : w4.cell? ⟨gb184, 0, none⟩ = some (.string (⟨#[]⟩ : ByteArray)) := (blk_cell BK184.out 0).trans rfl; have hcz10_1 : w4.cell? ⟨gb184, 1, none⟩ = some (.int .i64 0) := (blk_cell BK184.out 1).trans rfl; have hcz10_2 : w4.cell? ⟨gb184, 2, none⟩ = some (.int .i64 0) := (blk_cell BK184.out 2).trans rfl; have hcz10_3 : w4.cell? ⟨gb184, 3, none⟩ = some (.int .i64 0) := (blk_cell BK184.out 3).trans rfl; have hfz10_0 := blk_frozen BK184.out 0; have hfz10_1 := blk_frozen BK184.out 1; have hfz10_2 := blk_frozen BK184.out 2; have hfz10_3 := blk_frozen BK184.out 3))
 refine bodyPost_ret (results_cell_row rfl _ _ gb184 43 #[.string a0_0, .int .i64 a0_1, .int .i64 a0_2, .int .i64 a0_3] (0, 0) _ rfl (by (with_reducible repeat (first | refine blk_drewN ?_ _ | refine blk_drew ?_ | refine blk_alloc ?_ _)); refine blk_put (cs := #[.string a0_0, .int .i64 a0_1, .int .i64 a0_2, .int .i64 0]) ?_ 3 _ rfl; (with_reducible repeat (first | refine blk_drewN ?_ _ | refine blk_drew ?_ | refine blk_alloc ?_ _)); refine blk_put (cs := #[.string a0_0, .int .i64 a0_1, .int .i64 0, .int .i64 0]) ?_ 2 _ rfl; (with_reducible repeat (first | refine blk_drewN ?_ _ | refine blk_drew ?_ | refine blk_alloc ?_ _)); refine blk_put (cs := #[.string a0_0, .int .i64 0, .int .i64 0, .int .i64 0]) ?_ 1 _ rfl; (with_reducible repeat (first | refine blk_drewN ?_ _ | refine blk_drew ?_ | refine blk_alloc ?_ _)); refine blk_put (cs := #[.string (⟨#[]⟩ : ByteArray), .int .i64 0, .int .i64 0, .int .i64 0]) ?_ 0 _ rfl; (with_reducible repeat (first | refine blk_drewN ?_ _ | refine blk_drew ?_ | refine blk_alloc ?_ _)); refine blk_far ?_ NB184_185.out _; (with_reducible repeat (first | refine blk_drewN ?_ _ | refine blk_drew ?_ | refine blk_alloc ?_ _)); refine blk_far ?_ NB184_185.out _; (with_reducible repeat (first | refine blk_drewN ?_ _ | refine blk_drew ?_ | refine blk_alloc ?_ _)); refine blk_far ?_ NB184_185.out _; (with_reducible repeat (first | refine blk_drewN ?_ _ | refine blk_drew ?_ | refine blk_alloc ?_ _)); refine blk_far ?_ NB184_185.out _; (with_reducible repeat (first | refine blk_drewN ?_ _ | refine blk_drew ?_ | refine blk_alloc ?_ _)); exact BK184.out) Try.underlying43 rfl (by kernel_rfl)) rfl ?_
 exact ⟨by first | rfl | (simp [errW_none, errW_some] <;> rfl) | (simp [*, errW_none, errW_some] <;> rfl), by repeat (first | (with_reducible first | exact HB.out | apply below_alloc | apply pw_below_drewN | apply below_drew1 | refine below_set ?_ GE183.out | refine below_set ?_ GE184.out | refine below_set ?_ GE185.out) | exact HB.out)⟩

/-! ### laws_toRepairS: function 32 -/
def laws_toRepairS.l0 : Nat → List (S132) → List (S43) → Int → Option ((List (S43)))
 | 0, _, _, _ => none
 | k + 1, x0, x3, x4 => if x4 < (x0.length : Int) then (if 0 ≤ x4 then ((laws_toRepair.f ((rd_T132 x0 x4).f0) ((rd_T132 x0 x4).f1) ((rd_T132 x0 x4).f2) ((rd_T132 x0 x4).f3)).bind fun bt190 => (if x4 < (x3.length : Int) then (laws_toRepairS.l0 k x0 (x3.set (x4 : Int).toNat (⟨bt190.1, bt190.2.1, bt190.2.2.1, bt190.2.2.2⟩ : S43)) (wrap64 (x4 + 1))) else (none))) else (none)) else (some x3)
def laws_toRepairS.f (k : Nat) (l0 : List (S132)) : Option ((List (S43))) := if 0 ≤ (l0.length : Int) then (if ((l0.length : Int) : Int).toNat ≤ 7036874417766 then (laws_toRepairS.l0 k l0 (List.replicate ((l0.length : Int) : Int).toNat z43) 0) else (none)) else (none)
theorem laws_toRepairS.mono_l : ∀ k, (∀ y0 y1 y2, LeO (laws_toRepairS.l0 k y0 y1 y2) (laws_toRepairS.l0 (k + 1) y0 y1 y2))
 | 0 => fun _ _ _ r h => by simp [laws_toRepairS.l0] at h
 | k + 1 => by
  have ih0 := laws_toRepairS.mono_l k
  ·
   intro y0 y1 y2
   unfold laws_toRepairS.l0
   repeat' first
   | (with_reducible exact ih0 _ _ _)
   | (with_reducible exact LeO.refl _)
   | (with_reducible exact LeO.none _)
   | (with_reducible refine LeO.ite ?_ ?_)
   | (with_reducible refine LeO.bind ?_ (fun _ => ?_))
   | exact ih0 _ _ _
   | exact LeO.none _
   | refine LeO.ite ?_ ?_
   | refine LeO.bind ?_ (fun _ => ?_)
theorem laws_toRepairS.mono : ∀ a0 k, LeO (laws_toRepairS.f k a0) (laws_toRepairS.f (k + 1) a0) := by
 intro a0 k
 have ih0 := laws_toRepairS.mono_l k
 unfold laws_toRepairS.f
 repeat' first
   | (with_reducible exact ih0 _ _ _)
   | (with_reducible exact LeO.refl _)
   | (with_reducible exact LeO.none _)
   | (with_reducible refine LeO.ite ?_ ?_)
   | (with_reducible refine LeO.bind ?_ (fun _ => ?_))
   | exact ih0 _ _ _
   | exact LeO.none _
   | refine LeO.ite ?_ ?_
   | refine LeO.bind ?_ (fun _ => ?_)
set_option maxHeartbeats 8000000 in
set_option maxRecDepth 100000 in
theorem laws_toRepairS.calls (k : Nat) (A0 : Option Addr) (c0 : Nat) (l0 : List (S132)) (r : List (S43)) (w : World) (hr0 : Kd.C k132 w A0 l0.length l0) (hc0 : l0.length ≤ c0) (h : laws_toRepairS.f k l0 = some r) :
  Calls Try.prog 32 #[.slice A0 l0.length c0] w fun e w' => ∃ v0_ : Value, e = .returned (v0_) ∧ Kd.R k43 43 w' w.heap.size (fun _ => True) v0_ r ∧ Below w.heap.size w w' := by
 have hu132 := Try.underlying132
 have hu43 := Try.underlying43
 have HR0 := Aside0.mk hr0
 have HC0 := Aside0.mk hc0
 clear hr0 hc0
 have HB := Aside0.mk (Below.refl w.heap.size w)
 have H : (if 0 ≤ (l0.length : Int) then (if ((l0.length : Int) : Int).toNat ≤ 7036874417766 then (laws_toRepairS.l0 k l0 (List.replicate ((l0.length : Int) : Int).toNat z43) 0) else (none)) else (none)) = some r := h
 clear h
 by_cases c2 : 0 ≤ (l0.length : Int)
 ·
  rw [if_pos c2] at H
  have c2b0 := eq_true c2
  have c2b1 : decide (0 ≤ (l0.length : Int)) = true := decide_eq_true c2
  clear c2
  by_cases c3 : ((l0.length : Int) : Int).toNat ≤ 7036874417766
  ·
   rw [if_pos c3] at H
   have c3b0 := eq_true c3
   have c3b1 : decide (((l0.length : Int) : Int).toNat ≤ 7036874417766) = true := decide_eq_true c3
   clear c3
   obtain ⟨y186, hy186⟩ : ∃ y_ : List (S43), y_ = (List.replicate ((l0.length : Int) : Int).toNat z43) := ⟨_, rfl⟩
   replace H : (laws_toRepairS.l0 k l0 y186 0) = some r := by first | (rw [hy186]; with_reducible exact H) | (have H2_ := (Option.bind_some _ _).symm.trans H; rw [hy186]; with_reducible exact H2_) | (have H2_ := (Option.bind_some _ _).symm.trans H; with_reducible exact H2_) | with_reducible exact H | (rw [hy186]; exact H) | exact H
   have Ny186 := Aside0.mk hy186
   clear hy186
   have H' := Aside0.mk H
   clear H
   go_enter Try.func32, Try.ntmps32
   go_wp2_with (first | ((with_reducible refine gate_dst (N := 7) rfl ?_); refine Kd.R_make k43 _ 43 rfl (N := 7) rfl 34 _ _ rfl (l0.length : Int) rfl rfl Try.underlying34 (.agg #[(.string ⟨#[]⟩), (.int .i64 0), (.int .i64 0), (.int .i64 0)]) 40 info43 rfl (by decide) (by omega) z43 (ok := fun _ => True) (okp := fun _ => True) (k43_mkM _ _ _ z43 ) (fun _ hk => hk) trivial (of_decide_eq_true (by first | (with_reducible assumption) | assumption)) (Nat.le_trans (Nat.mul_le_mul_right _ (of_decide_eq_true (by first | (with_reducible assumption) | assumption) : (l0.length : Int).toNat ≤ 7036874417766)) (by omega)) (Below.refl _ _) (Nat.le_refl _) ?_; intro v187 w4 ho5 hb hg_ hnew_; clear hg_ hnew_; (first | rw [← Ny186.out] at ho5 | (simp only [Int.reduceToNat] at ho5; rw [← Ny186.out] at ho5)); have n0_ := Aside0.mk (Kd.R_lower ho5 (below_size (by repeat (first | (with_reducible first | exact HB.out | apply below_alloc | apply pw_below_drewN | apply below_drew1) | exact HB.out)))); have n1_ := Aside0.mk (below_step (by repeat (first | (with_reducible first | exact HB.out | apply below_alloc | apply pw_below_drewN | apply below_drew1) | exact HB.out)) hb); clear HB; have HO188 := n0_; have HB := n1_; clear n0_ n1_; clear hb ho5))
   go_loopg [4] k (fun kq v4 w' => ∃ (x3_1 : List (S43)) (x4_1 : Int), v4 = .int .i64 x4_1 ∧ Aside0 (laws_toRepairS.l0 kq l0 x3_1 x4_1 = some r) ∧ Aside0 (kq ≤ k) ∧ Aside0 (Kd.R k43 43 w' w.heap.size (fun _ => True) v187 x3_1) ∧ Aside0 (Below w.heap.size w w'))
   case atStart => exact ⟨(y186), (0), (by first | rfl | (simp; done) | (simp [*]; done)), H', ⟨Nat.le_refl _⟩, ⟨by (with_reducible repeat (first | apply Kd.R_alloc | apply Kd.R_drewN | apply Kd.R_drew)); exact HO188.out⟩, ⟨by repeat (first | (with_reducible first | exact HB.out | apply below_alloc | apply pw_below_drewN | apply below_drew1) | exact HB.out)⟩⟩
   case round =>
    clear H'
    try clear c2
    try clear c2b0
    try clear c2b1
    try clear p2
    try clear c3
    try clear c3b0
    try clear c3b1
    obtain ⟨x3_1, x4_1, rfl, HA, HK1, HO_3, HB⟩ := hrel
    cases gk with
    | zero => exact absurd HA.out (by simp [laws_toRepairS.l0])
    | succ k1 =>
     have H := HA.out
     clear HA
     simp only [laws_toRepairS.l0] at H
     by_cases c6 : x4_1 < (l0.length : Int)
     ·
      rw [if_pos c6] at H
      have c6b0 : decide (x4_1 < (l0.length : Int)) = true := decide_eq_true c6
      clear c6
      by_cases c7 : 0 ≤ x4_1
      ·
       rw [if_pos c7] at H
       have c7b0 : decide (0 ≤ x4_1) = true := decide_eq_true c7
       clear c7
       replace H := Option.bind_eq_some_iff.mp H
       obtain ⟨⟨t190, t191, t192, t193⟩, A80, H⟩ := H
       replace H : (if x4_1 < (x3_1.length : Int) then (laws_toRepairS.l0 k1 l0 (x3_1.set (x4_1 : Int).toNat (⟨t190, t191, t192, t193⟩ : S43)) (wrap64 (x4_1 + 1))) else (none)) = some r := H
       have A8 := Aside0.mk A80
       clear A80
       by_cases c9 : x4_1 < (x3_1.length : Int)
       ·
        rw [if_pos c9] at H
        have c9b0 : decide (x4_1 < (x3_1.length : Int)) = true := decide_eq_true c9
        clear c9
        obtain ⟨y194, hy194⟩ : ∃ y_ : List (S43), y_ = (x3_1.set (x4_1 : Int).toNat (⟨t190, t191, t192, t193⟩ : S43)) := ⟨_, rfl⟩
        replace H : (laws_toRepairS.l0 k1 l0 y194 (wrap64 (x4_1 + 1))) = some r := by first | (rw [hy194]; with_reducible exact H) | (have H2_ := (Option.bind_some _ _).symm.trans H; rw [hy194]; with_reducible exact H2_) | (have H2_ := (Option.bind_some _ _).symm.trans H; with_reducible exact H2_) | with_reducible exact H | (rw [hy194]; exact H) | exact H
        have Ny194 := Aside0.mk hy194
        clear hy194
        have H' := Aside0.mk H
        clear H
        have p189 : 0 ≤ (x4_1 : Int) := of_decide_eq_true (by first | (with_reducible assumption) | assumption)
        have q189 : x4_1 < (l0.length : Int) := of_decide_eq_true (by first | (with_reducible assumption) | assumption)
        obtain ⟨ad189, e189, hx189_0, hx189_1, hx189_2, hx189_3⟩ := at_T132 HR0.out x4_1 p189 q189
        cases e189
        replace hx189_0 := (HB.out.cell (World.block_lt_of_cell? w _ hx189_0)).trans hx189_0
        replace hx189_1 := (HB.out.cell (World.block_lt_of_cell? w _ hx189_1)).trans hx189_1
        replace hx189_2 := (HB.out.cell (World.block_lt_of_cell? w _ hx189_2)).trans hx189_2
        replace hx189_3 := (HB.out.cell (World.block_lt_of_cell? w _ hx189_3)).trans hx189_3
        replace p189 := eq_true p189
        replace q189 := eq_true q189
        go_wp2_with (first | ((with_reducible refine gate_callee (f := 94) rfl ?_); refine goesL_ (some 20) rfl rfl Try.func94 (by kernel_rfl) rfl #[.agg #[.string ((rd_T132 l0 x4_1).f0), .int .i64 ((rd_T132 l0 x4_1).f1), .int .i64 ((rd_T132 l0 x4_1).f2), .int .i64 ((rd_T132 l0 x4_1).f3)]] rfl (by (try simp only [List.map_toArray, List.map_cons, List.map_nil]); first | done | rfl | (simp only [List.length_drop, List.length_take]; rfl)) ?_; (with_reducible refine (laws_toRepair.calls ((rd_T132 l0 x4_1).f0) ((rd_T132 l0 x4_1).f1) ((rd_T132 l0 x4_1).f2) ((rd_T132 l0 x4_1).f3) t190 t191 t192 t193 _ A8.out).mono ?_); rintro e w11 ⟨rfl, hb⟩; refine ⟨_, rfl, ?_⟩; have n0_ := Aside0.mk (Kd.R_below (by (with_reducible repeat (first | apply Kd.R_alloc | apply Kd.R_drewN | apply Kd.R_drew)); exact HO_3.out) hb); have n1_ := Aside0.mk (below_step (by repeat (first | (with_reducible first | exact HB.out | apply below_alloc | apply pw_below_drewN | apply below_drew1) | exact HB.out)) hb); clear HO_3; clear HB; have HO_3 := n0_; have HB := n1_; clear n0_ n1_; (try clear hb); (try clear hb2); (try clear hk); (try clear hi); have p10 : 0 ≤ (x4_1 : Int) := of_decide_eq_true (by first | (with_reducible assumption) | assumption); have q10 : (x4_1 : Int) < ((x3_1.length : Int) : Int) := of_decide_eq_true (by first | (with_reducible assumption) | assumption); obtain ⟨go10, co10, eo10, gb10, gl10, cl10, HG10⟩ := Kd.R_form HO_3.out (by omega); (first | cases eo10 | (injection eo10 with ea_ en_ ec_; (first | subst ea_ | (injection ea_ with ea_; subst ea_)); subst ec_; clear en_)); have GB10 := Aside0.mk gb10; have GG10 := Aside0.mk HG10; clear gb10 gl10 HG10; obtain ⟨ce10, hcl10, hM10, hcc10, hfr10⟩ := Kd.R_elem HO_3.out z43 (x4_1 : Int) p10 q10; obtain rfl := k43_openM hM10; have hx10_0 : w11.cell? ⟨go10, (x4_1 : Int).toNat * 4, none⟩ = some (.string ((rd_T43 x3_1 x4_1).f0)) := hcc10 0 _ rfl; have hx10_1 : w11.cell? ⟨go10, (x4_1 : Int).toNat * 4 + 1, none⟩ = some (.int .i64 ((rd_T43 x3_1 x4_1).f1)) := hcc10 1 _ rfl; have hx10_2 : w11.cell? ⟨go10, (x4_1 : Int).toNat * 4 + 2, none⟩ = some (.int .i64 ((rd_T43 x3_1 x4_1).f2)) := hcc10 2 _ rfl; have hx10_3 : w11.cell? ⟨go10, (x4_1 : Int).toNat * 4 + 3, none⟩ = some (.int .i64 ((rd_T43 x3_1 x4_1).f3)) := hcc10 3 _ rfl; have hf10_0 : w11.frozen? ⟨go10, (x4_1 : Int).toNat * 4, none⟩ = false := hfr10 0; have hf10_1 : w11.frozen? ⟨go10, (x4_1 : Int).toNat * 4 + 1, none⟩ = false := hfr10 1; have hf10_2 : w11.frozen? ⟨go10, (x4_1 : Int).toNat * 4 + 2, none⟩ = false := hfr10 2; have hf10_3 : w11.frozen? ⟨go10, (x4_1 : Int).toNat * 4 + 3, none⟩ = false := hfr10 3; (try clear hM10); clear hcl10 hcc10 hfr10; replace p10 := eq_true p10; replace q10 := eq_true q10; have HX12 := Aside0.mk (show Kd.R k43 43 w11 w.heap.size (fun _ => True) (.slice (some ⟨go10, 0, none⟩) x3_1.length co10) x3_1 from (by (with_reducible repeat (first | apply Kd.R_alloc | apply Kd.R_drewN | apply Kd.R_drew)); exact HO_3.out)); obtain ⟨ce12, hcl12, hM12, hcc12, hfr12⟩ := Kd.R_elem HX12.out z43 (x4_1 : Int) (of_decide_eq_true (by first | (with_reducible assumption) | assumption)) (by have h_ : (x4_1 : Int) < ((x3_1.length : Int) : Int) := of_decide_eq_true (by first | (with_reducible assumption) | assumption); first | exact h_ | (have e_ := (Kd.R_reads' HO_3.out).1; omega) | simpa using h_); obtain rfl := k43_openM hM12; have HP12 := Kd.R_seg HX12.out (x4_1 : Int) (of_decide_eq_true (by first | (with_reducible assumption) | assumption)) (by have h_ : (x4_1 : Int) < ((x3_1.length : Int) : Int) := of_decide_eq_true (by first | (with_reducible assumption) | assumption); first | exact h_ | (have e_ := (Kd.R_reads' HO_3.out).1; omega) | simpa using h_) (seg := [.string t190, .int .i64 t191, .int .i64 t192, .int .i64 t193]) (j := 0) hcl12 hcc12 (show 4 ≤ 4 from by decide) (x' := (⟨t190, t191, t192, t193⟩ : S43)) (k43_mkM _ _ _ (⟨t190, t191, t192, t193⟩ : S43) ) (fun _ hk => hk); have hx12_0 := hcc12 0 _ rfl; (try simp only [show (k43).sz = 4 from rfl, Nat.mul_one, Nat.add_zero] at hx12_0); have hf12_0 := hfr12 0; (try simp only [show (k43).sz = 4 from rfl, Nat.mul_one, Nat.add_zero] at hf12_0); have hx12_1 := hcc12 1 _ rfl; (try simp only [show (k43).sz = 4 from rfl, Nat.mul_one, Nat.add_zero] at hx12_1); have hf12_1 := hfr12 1; (try simp only [show (k43).sz = 4 from rfl, Nat.mul_one, Nat.add_zero] at hf12_1); have hx12_2 := hcc12 2 _ rfl; (try simp only [show (k43).sz = 4 from rfl, Nat.mul_one, Nat.add_zero] at hx12_2); have hf12_2 := hfr12 2; (try simp only [show (k43).sz = 4 from rfl, Nat.mul_one, Nat.add_zero] at hf12_2); have hx12_3 := hcc12 3 _ rfl; (try simp only [show (k43).sz = 4 from rfl, Nat.mul_one, Nat.add_zero] at hx12_3); have hf12_3 := hfr12 3; (try simp only [show (k43).sz = 4 from rfl, Nat.mul_one, Nat.add_zero] at hf12_3); (try clear hM12); clear hcl12 hcc12 hfr12) | ((with_reducible refine gate_store (t := 43) (p := 21) rfl ?_); refine store_event (t := 43) (p := 21) (v := ?vo_w13) (w1 := ((((w11.setCell ⟨go10, (x4_1 : Int).toNat * 4, none⟩ (.string t190)).setCell ⟨go10, (x4_1 : Int).toNat * 4 + 1, none⟩ (.int .i64 t191)).setCell ⟨go10, (x4_1 : Int).toNat * 4 + 2, none⟩ (.int .i64 t192)).setCell ⟨go10, (x4_1 : Int).toNat * 4 + 3, none⟩ (.int .i64 t193))) ?hg ?ho ?hn ?hr ?_; (case ho => rfl); (case hg => rfl); (case hn => rfl); (case hr => first | (go_simp; done) | (go_simp; rfl)); intro w13 hw; have hg : w11.grownBy w13 (some go10) := (by rw [hw]; exact HP12.2); have hp_ : Kd.R k43 43 w13 w.heap.size (fun _ => True) (.slice (some ⟨go10, 0, none⟩) x3_1.length co10) y194 := (by rw [hw, Ny194.out]; exact HP12.1); clear HP12; have n0_ := Aside0.mk (hp_); have n1_ := Aside0.mk ((by rw [hw]; exact below_set (below_set (below_set (below_set (HB.out) GB10.out) GB10.out) GB10.out) GB10.out : Below w.heap.size w w13)); clear HO_3; clear HB; have HO_3 := n0_; have HB := n1_; clear n0_ n1_; clear hg hw hp_))
        go_roundg k1
        case measure => have := HK1.out; omega
        case rel => exact ⟨(y194), (wrap64 (x4_1 + 1)), (by first | rfl | (simp; done) | (simp [*]; done)), H', ⟨by have := HK1.out; omega⟩, ⟨by (with_reducible repeat (first | apply Kd.R_alloc | apply Kd.R_drewN | apply Kd.R_drew)); exact HO_3.out⟩, ⟨by repeat (first | (with_reducible first | exact HB.out | apply below_alloc | apply pw_below_drewN | apply below_drew1) | exact HB.out)⟩⟩
       ·
        rw [if_neg c9] at H
        exact absurd H (by simp)
      ·
       rw [if_neg c7] at H
       exact absurd H (by simp)
     ·
      rw [if_neg c6] at H
      have c6b0 : decide (x4_1 < (l0.length : Int)) = false := decide_eq_false c6
      clear c6
      obtain rfl := Option.some.inj H
      go_wp2
      go_ret
      exact ⟨_, by first | rfl | (simp [errW_none, errW_some] <;> rfl) | (simp [*, errW_none, errW_some] <;> rfl), by (with_reducible repeat (first | apply Kd.R_alloc | apply Kd.R_drewN | apply Kd.R_drew)); exact HO_3.out, by repeat (first | (with_reducible first | exact HB.out | apply below_alloc | apply pw_below_drewN | apply below_drew1) | exact HB.out)⟩
  ·
   rw [if_neg c3] at H
   exact absurd H (by simp)
 ·
  rw [if_neg c2] at H
  exact absurd H (by simp)

/-! ### laws_eqInt64S: function 33 -/
def laws_eqInt64S.l0 : Nat → List Int → List Int → Int → Option (Bool)
 | 0, _, _, _ => none
 | k + 1, x0, x1, x5 => if x5 < (x0.length : Int) then (if 0 ≤ x5 then (if x5 < (x1.length : Int) then (if (rd x0 x5) = (rd x1 x5) then (laws_eqInt64S.l0 k x0 x1 (wrap64 (x5 + 1))) else (some false)) else (none)) else (none)) else (some true)
def laws_eqInt64S.f (k : Nat) (l0 : List Int) (l1 : List Int) : Option (Bool) := if (l0.length : Int) = (l1.length : Int) then (laws_eqInt64S.l0 k l0 l1 0) else (some false)
theorem laws_eqInt64S.mono_l : ∀ k, (∀ y0 y1 y2, LeO (laws_eqInt64S.l0 k y0 y1 y2) (laws_eqInt64S.l0 (k + 1) y0 y1 y2))
 | 0 => fun _ _ _ r h => by simp [laws_eqInt64S.l0] at h
 | k + 1 => by
  have ih0 := laws_eqInt64S.mono_l k
  ·
   intro y0 y1 y2
   unfold laws_eqInt64S.l0
   repeat' first
   | (with_reducible exact ih0 _ _ _)
   | (with_reducible exact LeO.refl _)
   | (with_reducible exact LeO.none _)
   | (with_reducible refine LeO.ite ?_ ?_)
   | (with_reducible refine LeO.bind ?_ (fun _ => ?_))
   | exact ih0 _ _ _
   | exact LeO.none _
   | refine LeO.ite ?_ ?_
   | refine LeO.bind ?_ (fun _ => ?_)
theorem laws_eqInt64S.mono : ∀ a0 a1 k, LeO (laws_eqInt64S.f k a0 a1) (laws_eqInt64S.f (k + 1) a0 a1) := by
 intro a0 a1 k
 have ih0 := laws_eqInt64S.mono_l k
 unfold laws_eqInt64S.f
 repeat' first
   | (with_reducible exact ih0 _ _ _)
   | (with_reducible exact LeO.refl _)
   | (with_reducible exact LeO.none _)
   | (with_reducible refine LeO.ite ?_ ?_)
   | (with_reducible refine LeO.bind ?_ (fun _ => ?_))
   | exact ih0 _ _ _
   | exact LeO.none _
   | refine LeO.ite ?_ ?_
   | refine LeO.bind ?_ (fun _ => ?_)
set_option maxHeartbeats 8000000 in
set_option maxRecDepth 100000 in
theorem laws_eqInt64S.calls (k : Nat) (A0 : Option Addr) (c0 : Nat) (l0 : List Int) (A1 : Option Addr) (c1 : Nat) (l1 : List Int) (r : Bool) (w : World) (hr0 : Kd.C (Kd.int .i64) w A0 l0.length l0) (hc0 : l0.length ≤ c0) (hr1 : Kd.C (Kd.int .i64) w A1 l1.length l1) (hc1 : l1.length ≤ c1) (h : laws_eqInt64S.f k l0 l1 = some r) :
  Calls Try.prog 33 #[.slice A0 l0.length c0, .slice A1 l1.length c1] w fun e w' => e = .returned (.bool r) ∧ Drawn0 w w' := by
 have HR0 := Aside0.mk hr0
 have HC0 := Aside0.mk hc0
 clear hr0 hc0
 have HR1 := Aside0.mk hr1
 have HC1 := Aside0.mk hc1
 clear hr1 hc1
 have H : (if (l0.length : Int) = (l1.length : Int) then (laws_eqInt64S.l0 k l0 l1 0) else (some false)) = some r := h
 clear h
 by_cases c3 : (l0.length : Int) = (l1.length : Int)
 ·
  rw [if_pos c3] at H
  have c3b0 : ((l0.length : Int) == (l1.length : Int)) = true := beq_iff_eq.mpr c3
  have c3b1 : ((l0.length : Int) != (l1.length : Int)) = false := bne_eq_false_iff_eq.mpr c3
  have c3b2 : (l0.length == l1.length) = true := by first | simpa using c3 | (simp at c3 ⊢; omega)
  clear c3
  have H' := Aside0.mk H
  clear H
  go_enter Try.func33, Try.ntmps33
  go_wp2
  repeat (go_quiet (fail); try go_wp2)
  go_loopg [5] k (fun kq v5 w' => ∃ (x5_1 : Int), v5 = .int .i64 x5_1 ∧ Aside0 (laws_eqInt64S.l0 kq l0 l1 x5_1 = some r) ∧ Aside0 (kq ≤ k) ∧ Drawn0 w w')
  case atStart => exact ⟨(0), (by first | rfl | (simp; done) | (simp [*]; done)), H', ⟨Nat.le_refl _⟩, by repeat (first | exact Drawn0.refl _ | apply Drawn0.step)⟩
  case round =>
   clear H'
   try clear c1
   try clear p2
   try clear c3
   try clear c3b0
   try clear c3b1
   try clear c3b2
   obtain ⟨x5_1, rfl, HA, HK1, ⟨m1, rfl⟩⟩ := hrel
   cases gk with
   | zero => exact absurd HA.out (by simp [laws_eqInt64S.l0])
   | succ k1 =>
    have H := HA.out
    clear HA
    simp only [laws_eqInt64S.l0] at H
    by_cases c4 : x5_1 < (l0.length : Int)
    ·
     rw [if_pos c4] at H
     have c4b0 : decide (x5_1 < (l0.length : Int)) = true := decide_eq_true c4
     clear c4
     by_cases c5 : 0 ≤ x5_1
     ·
      rw [if_pos c5] at H
      have c5b0 : decide (0 ≤ x5_1) = true := decide_eq_true c5
      clear c5
      by_cases c6 : x5_1 < (l1.length : Int)
      ·
       rw [if_pos c6] at H
       have c6b0 : decide (x5_1 < (l1.length : Int)) = true := decide_eq_true c6
       clear c6
       by_cases c7 : (rd l0 x5_1) = (rd l1 x5_1)
       ·
        rw [if_pos c7] at H
        have c7b0 : ((rd l0 x5_1) == (rd l1 x5_1)) = true := beq_iff_eq.mpr c7
        have c7b1 : ((rd l0 x5_1) != (rd l1 x5_1)) = false := bne_eq_false_iff_eq.mpr c7
        clear c7
        have H' := Aside0.mk H
        clear H
        have p195 : 0 ≤ (x5_1 : Int) := of_decide_eq_true (by first | (with_reducible assumption) | assumption)
        have q195 : x5_1 < (l0.length : Int) := of_decide_eq_true (by first | (with_reducible assumption) | assumption)
        obtain ⟨ad195, e195, hx195_0⟩ := Kd.at_int HR0.out x5_1 p195 q195
        cases e195
        replace p195 := eq_true p195
        replace q195 := eq_true q195
        have p196 : 0 ≤ (x5_1 : Int) := of_decide_eq_true (by first | (with_reducible assumption) | assumption)
        have q196 : x5_1 < (l1.length : Int) := of_decide_eq_true (by first | (with_reducible assumption) | assumption)
        obtain ⟨ad196, e196, hx196_0⟩ := Kd.at_int HR1.out x5_1 p196 q196
        cases e196
        replace p196 := eq_true p196
        replace q196 := eq_true q196
        go_wp2
        repeat (go_quiet (fail); try go_wp2)
        go_roundg k1
        case measure => have := HK1.out; omega
        case rel => exact ⟨(wrap64 (x5_1 + 1)), (by first | rfl | (simp; done) | (simp [*]; done)), H', ⟨by have := HK1.out; omega⟩, by repeat (first | exact Drawn0.refl _ | apply Drawn0.step)⟩
       ·
        rw [if_neg c7] at H
        have c7b0 : ((rd l0 x5_1) == (rd l1 x5_1)) = false := beq_eq_false_iff_ne.mpr c7
        have c7b1 : ((rd l0 x5_1) != (rd l1 x5_1)) = true := bne_iff_ne.mpr c7
        obtain rfl := Option.some.inj H
        have p195 : 0 ≤ (x5_1 : Int) := of_decide_eq_true (by first | (with_reducible assumption) | assumption)
        have q195 : x5_1 < (l0.length : Int) := of_decide_eq_true (by first | (with_reducible assumption) | assumption)
        obtain ⟨ad195, e195, hx195_0⟩ := Kd.at_int HR0.out x5_1 p195 q195
        cases e195
        replace p195 := eq_true p195
        replace q195 := eq_true q195
        have p196 : 0 ≤ (x5_1 : Int) := of_decide_eq_true (by first | (with_reducible assumption) | assumption)
        have q196 : x5_1 < (l1.length : Int) := of_decide_eq_true (by first | (with_reducible assumption) | assumption)
        obtain ⟨ad196, e196, hx196_0⟩ := Kd.at_int HR1.out x5_1 p196 q196
        cases e196
        replace p196 := eq_true p196
        replace q196 := eq_true q196
        go_wp2
        repeat (go_quiet (fail); try go_wp2)
        go_ret
        exact ⟨by first | rfl | (simp; done) | (simp [*]; done), by repeat (first | exact Drawn0.refl _ | apply Drawn0.step)⟩
      ·
       rw [if_neg c6] at H
       exact absurd H (by simp)
     ·
      rw [if_neg c5] at H
      exact absurd H (by simp)
    ·
     rw [if_neg c4] at H
     have c4b0 : decide (x5_1 < (l0.length : Int)) = false := decide_eq_false c4
     clear c4
     obtain rfl := Option.some.inj H
     go_wp2
     repeat (go_quiet (fail); try go_wp2)
     go_ret
     exact ⟨by first | rfl | (simp; done) | (simp [*]; done), by repeat (first | exact Drawn0.refl _ | apply Drawn0.step)⟩
 ·
  rw [if_neg c3] at H
  have c3b0 : ((l0.length : Int) == (l1.length : Int)) = false := beq_eq_false_iff_ne.mpr c3
  have c3b1 : ((l0.length : Int) != (l1.length : Int)) = true := bne_iff_ne.mpr c3
  have c3b2 : (l0.length == l1.length) = false := by first | simpa using c3 | (simp at c3 ⊢; omega)
  obtain rfl := Option.some.inj H
  go_enter Try.func33, Try.ntmps33
  go_wp2
  repeat (go_quiet (fail); try go_wp2)
  go_ret
  exact ⟨by first | rfl | (simp; done) | (simp [*]; done), by repeat (first | exact Drawn0.refl _ | apply Drawn0.step)⟩

/-! ### laws_eqRepair: function 95 -/
def laws_eqRepair.f (a0_0 : ByteArray) (a0_1 : Int) (a0_2 : Int) (a0_3 : Int) (a1_0 : ByteArray) (a1_1 : Int) (a1_2 : Int) (a1_3 : Int) : Option (Bool) := if a0_0.toList = a1_0.toList then (if a0_1 = a1_1 then (if a0_2 = a1_2 then (if a0_3 = a1_3 then (some true) else (some false)) else (some false)) else (some false)) else (some false)
set_option maxHeartbeats 8000000 in
set_option maxRecDepth 100000 in
theorem laws_eqRepair.calls (a0_0 : ByteArray) (a0_1 : Int) (a0_2 : Int) (a0_3 : Int) (a1_0 : ByteArray) (a1_1 : Int) (a1_2 : Int) (a1_3 : Int) (r : Bool) (w : World) (h : laws_eqRepair.f a0_0 a0_1 a0_2 a0_3 a1_0 a1_1 a1_2 a1_3 = some r) :
  Calls Try.prog 95 #[.agg #[.string a0_0, .int .i64 a0_1, .int .i64 a0_2, .int .i64 a0_3], .agg #[.string a1_0, .int .i64 a1_1, .int .i64 a1_2, .int .i64 a1_3]] w fun e w' => e = .returned (.bool r) ∧ Below w.heap.size w w' := by
 have hu43 := Try.underlying43
 have HB := Aside0.mk (Below.refl w.heap.size w)
 have H : (if a0_0.toList = a1_0.toList then (if a0_1 = a1_1 then (if a0_2 = a1_2 then (if a0_3 = a1_3 then (some true) else (some false)) else (some false)) else (some false)) else (some false)) = some r := h
 clear h
 by_cases c3 : a0_0.toList = a1_0.toList
 ·
  rw [if_pos c3] at H
  have c3b0 : (a0_0.toList == a1_0.toList) = true := beq_iff_eq.mpr c3
  have c3b1 : (a0_0.toList != a1_0.toList) = false := bne_eq_false_iff_eq.mpr c3
  clear c3
  by_cases c4 : a0_1 = a1_1
  ·
   rw [if_pos c4] at H
   have c4b0 : (a0_1 == a1_1) = true := beq_iff_eq.mpr c4
   have c4b1 : (a0_1 != a1_1) = false := bne_eq_false_iff_eq.mpr c4
   clear c4
   by_cases c5 : a0_2 = a1_2
   ·
    rw [if_pos c5] at H
    have c5b0 : (a0_2 == a1_2) = true := beq_iff_eq.mpr c5
    have c5b1 : (a0_2 != a1_2) = false := bne_eq_false_iff_eq.mpr c5
    clear c5
    by_cases c6 : a0_3 = a1_3
    ·
     rw [if_pos c6] at H
     have c6b0 : (a0_3 == a1_3) = true := beq_iff_eq.mpr c6
     have c6b1 : (a0_3 != a1_3) = false := bne_eq_false_iff_eq.mpr c6
     clear c6
     obtain rfl := Option.some.inj H
     go_enter Try.func95, Try.ntmps95
     go_wp2_with (first | ((with_reducible refine gate_dst (N := 2) rfl ?_); refine box_event ?hg (N := 2) ?hd (cs := #[.string a0_0, .int .i64 a0_1, .int .i64 a0_2, .int .i64 a0_3]) (t := 43) ?hr ?_; (case hd => rfl); (case hg => rfl); (case hr => first | (go_simp; done) | (go_simp; rfl)); intro gb197 hg w7 hbox hb; have n0_ := Aside0.mk (below_step (by repeat (first | (with_reducible first | exact HB.out | apply below_alloc | apply pw_below_drewN | apply below_drew1) | exact HB.out)) hb); have n1_ := Aside0.mk (hbox); have n2_ := Aside0.mk ((by rw [hg]; exact (below_size (by repeat (first | (with_reducible first | exact HB.out | apply below_alloc | apply pw_below_drewN | apply below_drew1) | exact HB.out))) : w.heap.size ≤ gb197)); have n3_ := Aside0.mk ((by rw [hg]; exact (below_size (by repeat (first | (with_reducible first | exact HB.out | apply below_alloc | apply pw_below_drewN | apply below_drew1) | exact HB.out))) : w.heap.size ≤ gb197)); clear HB; have HB := n0_; have BK197 := n1_; have GW197 := n2_; have GE197 := n3_; clear n0_ n1_ n2_ n3_; clear hb hbox hg) | ((with_reducible refine gate_dst (N := 3) rfl ?_); refine box_event ?hg (N := 3) ?hd (cs := #[.string a1_0, .int .i64 a1_1, .int .i64 a1_2, .int .i64 a1_3]) (t := 43) ?hr ?_; (case hd => rfl); (case hg => rfl); (case hr => first | (go_simp; done) | (go_simp; rfl)); intro gb198 hg w8 hbox hb; have n0_ := Aside0.mk (blk_below (g := gb197) (o := .cells #[.string a0_0, .int .i64 a0_1, .int .i64 a0_2, .int .i64 a0_3] 43 (0, 0)) (by (with_reducible repeat (first | refine blk_drewN ?_ _ | refine blk_drew ?_ | refine blk_alloc ?_ _)); exact BK197.out) hb); have n1_ := Aside0.mk (below_step (by repeat (first | (with_reducible first | exact HB.out | apply below_alloc | apply pw_below_drewN | apply below_drew1 | refine below_set ?_ GE197.out) | exact HB.out)) hb); have n2_ := Aside0.mk (hbox); have n3_ := Aside0.mk ((by rw [hg]; exact (below_size (by repeat (first | (with_reducible first | exact HB.out | apply below_alloc | apply pw_below_drewN | apply below_drew1 | refine below_set ?_ GE197.out) | exact HB.out))) : w.heap.size ≤ gb198)); have n4_ := Aside0.mk ((by rw [hg]; exact (below_size (by repeat (first | (with_reducible first | exact HB.out | apply below_alloc | apply pw_below_drewN | apply below_drew1 | refine below_set ?_ GE197.out) | exact HB.out))) : w.heap.size ≤ gb198)); have n5_ := Aside0.mk ((by rw [hg]; exact Nat.ne_of_lt (blk_lt (g := gb197) (o := .cells #[.string a0_0, .int .i64 a0_1, .int .i64 a0_2, .int .i64 a0_3] 43 (0, 0)) (by (with_reducible repeat (first | refine blk_drewN ?_ _ | refine blk_drew ?_ | refine blk_alloc ?_ _)); exact BK197.out)) : gb197 ≠ gb198)); have n6_ := Aside0.mk ((by rw [hg]; exact Nat.ne_of_gt (blk_lt (g := gb197) (o := .cells #[.string a0_0, .int .i64 a0_1, .int .i64 a0_2, .int .i64 a0_3] 43 (0, 0)) (by (with_reducible repeat (first | refine blk_drewN ?_ _ | refine blk_drew ?_ | refine blk_alloc ?_ _)); exact BK197.out)) : gb198 ≠ gb197)); clear BK197; clear HB; have BK197 := n0_; have HB := n1_; have BK198 := n2_; have GW198 := n3_; have GE198 := n4_; have NB197_198 := n5_; have NB198_197 := n6_; clear n0_ n1_ n2_ n3_ n4_ n5_ n6_; clear hb hbox hg; have hnb9 := NB197_198.out; have hnc9 := NB198_197.out; have hcz10_0 : w8.cell? ⟨gb197, 0, none⟩ = some (.string a0_0) := (blk_cell BK197.out 0).trans rfl; have hcz10_1 : w8.cell? ⟨gb197, 1, none⟩ = some (.int .i64 a0_1) := (blk_cell BK197.out 1).trans rfl; have hcz10_2 : w8.cell? ⟨gb197, 2, none⟩ = some (.int .i64 a0_2) := (blk_cell BK197.out 2).trans rfl; have hcz10_3 : w8.cell? ⟨gb197, 3, none⟩ = some (.int .i64 a0_3) := (blk_cell BK197.out 3).trans rfl; have hfz10_0 := blk_frozen BK197.out 0; have hfz10_1 := blk_frozen BK197.out 1; have hfz10_2 := blk_frozen BK197.out 2; have hfz10_3 := blk_frozen BK197.out 3; have hcz11_0 : w8.cell? ⟨gb198, 0, none⟩ = some (.string a1_0) := (blk_cell BK198.out 0).trans rfl; have hcz11_1 : w8.cell? ⟨gb198, 1, none⟩ = some (.int .i64 a1_1) := (blk_cell BK198.out 1).trans rfl; have hcz11_2 : w8.cell? ⟨gb198, 2, none⟩ = some (.int .i64 a1_2) := (blk_cell BK198.out 2).trans rfl; have hcz11_3 : w8.cell? ⟨gb198, 3, none⟩ = some (.int .i64 a1_3) := (blk_cell BK198.out 3).trans rfl; have hfz11_0 := blk_frozen BK198.out 0; have hfz11_1 := blk_frozen BK198.out 1; have hfz11_2 := blk_frozen BK198.out 2; have hfz11_3 := blk_frozen BK198.out 3))
     go_ret
     exact ⟨by first | rfl | (simp [errW_none, errW_some] <;> rfl) | (simp [*, errW_none, errW_some] <;> rfl), by repeat (first | (with_reducible first | exact HB.out | apply below_alloc | apply pw_below_drewN | apply below_drew1 | refine below_set ?_ GE197.out | refine below_set ?_ GE198.out) | exact HB.out)⟩
    ·
     rw [if_neg c6] at H
     have c6b0 : (a0_3 == a1_3) = false := beq_eq_false_iff_ne.mpr c6
     have c6b1 : (a0_3 != a1_3) = true := bne_iff_ne.mpr c6
     obtain rfl := Option.some.inj H
     go_enter Try.func95, Try.ntmps95
     go_wp2_with (first | ((with_reducible refine gate_dst (N := 2) rfl ?_); refine box_event ?hg (N := 2) ?hd (cs := #[.string a0_0, .int .i64 a0_1, .int .i64 a0_2, .int .i64 a0_3]) (t := 43) ?hr ?_; (case hd => rfl); (case hg => rfl); (case hr => first | (go_simp; done) | (go_simp; rfl)); intro gb197 hg w12 hbox hb; have n0_ := Aside0.mk (below_step (by repeat (first | (with_reducible first | exact HB.out | apply below_alloc | apply pw_below_drewN | apply below_drew1) | exact HB.out)) hb); have n1_ := Aside0.mk (hbox); have n2_ := Aside0.mk ((by rw [hg]; exact (below_size (by repeat (first | (with_reducible first | exact HB.out | apply below_alloc | apply pw_below_drewN | apply below_drew1) | exact HB.out))) : w.heap.size ≤ gb197)); have n3_ := Aside0.mk ((by rw [hg]; exact (below_size (by repeat (first | (with_reducible first | exact HB.out | apply below_alloc | apply pw_below_drewN | apply below_drew1) | exact HB.out))) : w.heap.size ≤ gb197)); clear HB; have HB := n0_; have BK197 := n1_; have GW197 := n2_; have GE197 := n3_; clear n0_ n1_ n2_ n3_; clear hb hbox hg) | ((with_reducible refine gate_dst (N := 3) rfl ?_); refine box_event ?hg (N := 3) ?hd (cs := #[.string a1_0, .int .i64 a1_1, .int .i64 a1_2, .int .i64 a1_3]) (t := 43) ?hr ?_; (case hd => rfl); (case hg => rfl); (case hr => first | (go_simp; done) | (go_simp; rfl)); intro gb198 hg w13 hbox hb; have n0_ := Aside0.mk (blk_below (g := gb197) (o := .cells #[.string a0_0, .int .i64 a0_1, .int .i64 a0_2, .int .i64 a0_3] 43 (0, 0)) (by (with_reducible repeat (first | refine blk_drewN ?_ _ | refine blk_drew ?_ | refine blk_alloc ?_ _)); exact BK197.out) hb); have n1_ := Aside0.mk (below_step (by repeat (first | (with_reducible first | exact HB.out | apply below_alloc | apply pw_below_drewN | apply below_drew1 | refine below_set ?_ GE197.out) | exact HB.out)) hb); have n2_ := Aside0.mk (hbox); have n3_ := Aside0.mk ((by rw [hg]; exact (below_size (by repeat (first | (with_reducible first | exact HB.out | apply below_alloc | apply pw_below_drewN | apply below_drew1 | refine below_set ?_ GE197.out) | exact HB.out))) : w.heap.size ≤ gb198)); have n4_ := Aside0.mk ((by rw [hg]; exact (below_size (by repeat (first | (with_reducible first | exact HB.out | apply below_alloc | apply pw_below_drewN | apply below_drew1 | refine below_set ?_ GE197.out) | exact HB.out))) : w.heap.size ≤ gb198)); have n5_ := Aside0.mk ((by rw [hg]; exact Nat.ne_of_lt (blk_lt (g := gb197) (o := .cells #[.string a0_0, .int .i64 a0_1, .int .i64 a0_2, .int .i64 a0_3] 43 (0, 0)) (by (with_reducible repeat (first | refine blk_drewN ?_ _ | refine blk_drew ?_ | refine blk_alloc ?_ _)); exact BK197.out)) : gb197 ≠ gb198)); have n6_ := Aside0.mk ((by rw [hg]; exact Nat.ne_of_gt (blk_lt (g := gb197) (o := .cells #[.string a0_0, .int .i64 a0_1, .int .i64 a0_2, .int .i64 a0_3] 43 (0, 0)) (by (with_reducible repeat (first | refine blk_drewN ?_ _ | refine blk_drew ?_ | refine blk_alloc ?_ _)); exact BK197.out)) : gb198 ≠ gb197)); clear BK197; clear HB; have BK197 := n0_; have HB := n1_; have BK198 := n2_; have GW198 := n3_; have GE198 := n4_; have NB197_198 := n5_; have NB198_197 := n6_; clear n0_ n1_ n2_ n3_ n4_ n5_ n6_; clear hb hbox hg; have hnb14 := NB197_198.out; have hnc14 := NB198_197.out; have hcz15_0 : w13.cell? ⟨gb197, 0, none⟩ = some (.string a0_0) := (blk_cell BK197.out 0).trans rfl; have hcz15_1 : w13.cell? ⟨gb197, 1, none⟩ = some (.int .i64 a0_1) := (blk_cell BK197.out 1).trans rfl; have hcz15_2 : w13.cell? ⟨gb197, 2, none⟩ = some (.int .i64 a0_2) := (blk_cell BK197.out 2).trans rfl; have hcz15_3 : w13.cell? ⟨gb197, 3, none⟩ = some (.int .i64 a0_3) := (blk_cell BK197.out 3).trans rfl; have hfz15_0 := blk_frozen BK197.out 0; have hfz15_1 := blk_frozen BK197.out 1; have hfz15_2 := blk_frozen BK197.out 2; have hfz15_3 := blk_frozen BK197.out 3; have hcz16_0 : w13.cell? ⟨gb198, 0, none⟩ = some (.string a1_0) := (blk_cell BK198.out 0).trans rfl; have hcz16_1 : w13.cell? ⟨gb198, 1, none⟩ = some (.int .i64 a1_1) := (blk_cell BK198.out 1).trans rfl; have hcz16_2 : w13.cell? ⟨gb198, 2, none⟩ = some (.int .i64 a1_2) := (blk_cell BK198.out 2).trans rfl; have hcz16_3 : w13.cell? ⟨gb198, 3, none⟩ = some (.int .i64 a1_3) := (blk_cell BK198.out 3).trans rfl; have hfz16_0 := blk_frozen BK198.out 0; have hfz16_1 := blk_frozen BK198.out 1; have hfz16_2 := blk_frozen BK198.out 2; have hfz16_3 := blk_frozen BK198.out 3))
     go_ret
     exact ⟨by first | rfl | (simp [errW_none, errW_some] <;> rfl) | (simp [*, errW_none, errW_some] <;> rfl), by repeat (first | (with_reducible first | exact HB.out | apply below_alloc | apply pw_below_drewN | apply below_drew1 | refine below_set ?_ GE197.out | refine below_set ?_ GE198.out) | exact HB.out)⟩
   ·
    rw [if_neg c5] at H
    have c5b0 : (a0_2 == a1_2) = false := beq_eq_false_iff_ne.mpr c5
    have c5b1 : (a0_2 != a1_2) = true := bne_iff_ne.mpr c5
    obtain rfl := Option.some.inj H
    go_enter Try.func95, Try.ntmps95
    go_wp2_with (first | ((with_reducible refine gate_dst (N := 2) rfl ?_); refine box_event ?hg (N := 2) ?hd (cs := #[.string a0_0, .int .i64 a0_1, .int .i64 a0_2, .int .i64 a0_3]) (t := 43) ?hr ?_; (case hd => rfl); (case hg => rfl); (case hr => first | (go_simp; done) | (go_simp; rfl)); intro gb197 hg w17 hbox hb; have n0_ := Aside0.mk (below_step (by repeat (first | (with_reducible first | exact HB.out | apply below_alloc | apply pw_below_drewN | apply below_drew1) | exact HB.out)) hb); have n1_ := Aside0.mk (hbox); have n2_ := Aside0.mk ((by rw [hg]; exact (below_size (by repeat (first | (with_reducible first | exact HB.out | apply below_alloc | apply pw_below_drewN | apply below_drew1) | exact HB.out))) : w.heap.size ≤ gb197)); have n3_ := Aside0.mk ((by rw [hg]; exact (below_size (by repeat (first | (with_reducible first | exact HB.out | apply below_alloc | apply pw_below_drewN | apply below_drew1) | exact HB.out))) : w.heap.size ≤ gb197)); clear HB; have HB := n0_; have BK197 := n1_; have GW197 := n2_; have GE197 := n3_; clear n0_ n1_ n2_ n3_; clear hb hbox hg) | ((with_reducible refine gate_dst (N := 3) rfl ?_); refine box_event ?hg (N := 3) ?hd (cs := #[.string a1_0, .int .i64 a1_1, .int .i64 a1_2, .int .i64 a1_3]) (t := 43) ?hr ?_; (case hd => rfl); (case hg => rfl); (case hr => first | (go_simp; done) | (go_simp; rfl)); intro gb198 hg w18 hbox hb; have n0_ := Aside0.mk (blk_below (g := gb197) (o := .cells #[.string a0_0, .int .i64 a0_1, .int .i64 a0_2, .int .i64 a0_3] 43 (0, 0)) (by (with_reducible repeat (first | refine blk_drewN ?_ _ | refine blk_drew ?_ | refine blk_alloc ?_ _)); exact BK197.out) hb); have n1_ := Aside0.mk (below_step (by repeat (first | (with_reducible first | exact HB.out | apply below_alloc | apply pw_below_drewN | apply below_drew1 | refine below_set ?_ GE197.out) | exact HB.out)) hb); have n2_ := Aside0.mk (hbox); have n3_ := Aside0.mk ((by rw [hg]; exact (below_size (by repeat (first | (with_reducible first | exact HB.out | apply below_alloc | apply pw_below_drewN | apply below_drew1 | refine below_set ?_ GE197.out) | exact HB.out))) : w.heap.size ≤ gb198)); have n4_ := Aside0.mk ((by rw [hg]; exact (below_size (by repeat (first | (with_reducible first | exact HB.out | apply below_alloc | apply pw_below_drewN | apply below_drew1 | refine below_set ?_ GE197.out) | exact HB.out))) : w.heap.size ≤ gb198)); have n5_ := Aside0.mk ((by rw [hg]; exact Nat.ne_of_lt (blk_lt (g := gb197) (o := .cells #[.string a0_0, .int .i64 a0_1, .int .i64 a0_2, .int .i64 a0_3] 43 (0, 0)) (by (with_reducible repeat (first | refine blk_drewN ?_ _ | refine blk_drew ?_ | refine blk_alloc ?_ _)); exact BK197.out)) : gb197 ≠ gb198)); have n6_ := Aside0.mk ((by rw [hg]; exact Nat.ne_of_gt (blk_lt (g := gb197) (o := .cells #[.string a0_0, .int .i64 a0_1, .int .i64 a0_2, .int .i64 a0_3] 43 (0, 0)) (by (with_reducible repeat (first | refine blk_drewN ?_ _ | refine blk_drew ?_ | refine blk_alloc ?_ _)); exact BK197.out)) : gb198 ≠ gb197)); clear BK197; clear HB; have BK197 := n0_; have HB := n1_; have BK198 := n2_; have GW198 := n3_; have GE198 := n4_; have NB197_198 := n5_; have NB198_197 := n6_; clear n0_ n1_ n2_ n3_ n4_ n5_ n6_; clear hb hbox hg; have hnb19 := NB197_198.out; have hnc19 := NB198_197.out; have hcz20_0 : w18.cell? ⟨gb197, 0, none⟩ = some (.string a0_0) := (blk_cell BK197.out 0).trans rfl; have hcz20_1 : w18.cell? ⟨gb197, 1, none⟩ = some (.int .i64 a0_1) := (blk_cell BK197.out 1).trans rfl; have hcz20_2 : w18.cell? ⟨gb197, 2, none⟩ = some (.int .i64 a0_2) := (blk_cell BK197.out 2).trans rfl; have hcz20_3 : w18.cell? ⟨gb197, 3, none⟩ = some (.int .i64 a0_3) := (blk_cell BK197.out 3).trans rfl; have hfz20_0 := blk_frozen BK197.out 0; have hfz20_1 := blk_frozen BK197.out 1; have hfz20_2 := blk_frozen BK197.out 2; have hfz20_3 := blk_frozen BK197.out 3; have hcz21_0 : w18.cell? ⟨gb198, 0, none⟩ = some (.string a1_0) := (blk_cell BK198.out 0).trans rfl; have hcz21_1 : w18.cell? ⟨gb198, 1, none⟩ = some (.int .i64 a1_1) := (blk_cell BK198.out 1).trans rfl; have hcz21_2 : w18.cell? ⟨gb198, 2, none⟩ = some (.int .i64 a1_2) := (blk_cell BK198.out 2).trans rfl; have hcz21_3 : w18.cell? ⟨gb198, 3, none⟩ = some (.int .i64 a1_3) := (blk_cell BK198.out 3).trans rfl; have hfz21_0 := blk_frozen BK198.out 0; have hfz21_1 := blk_frozen BK198.out 1; have hfz21_2 := blk_frozen BK198.out 2; have hfz21_3 := blk_frozen BK198.out 3))
    go_ret
    exact ⟨by first | rfl | (simp [errW_none, errW_some] <;> rfl) | (simp [*, errW_none, errW_some] <;> rfl), by repeat (first | (with_reducible first | exact HB.out | apply below_alloc | apply pw_below_drewN | apply below_drew1 | refine below_set ?_ GE197.out | refine below_set ?_ GE198.out) | exact HB.out)⟩
  ·
   rw [if_neg c4] at H
   have c4b0 : (a0_1 == a1_1) = false := beq_eq_false_iff_ne.mpr c4
   have c4b1 : (a0_1 != a1_1) = true := bne_iff_ne.mpr c4
   obtain rfl := Option.some.inj H
   go_enter Try.func95, Try.ntmps95
   go_wp2_with (first | ((with_reducible refine gate_dst (N := 2) rfl ?_); refine box_event ?hg (N := 2) ?hd (cs := #[.string a0_0, .int .i64 a0_1, .int .i64 a0_2, .int .i64 a0_3]) (t := 43) ?hr ?_; (case hd => rfl); (case hg => rfl); (case hr => first | (go_simp; done) | (go_simp; rfl)); intro gb197 hg w22 hbox hb; have n0_ := Aside0.mk (below_step (by repeat (first | (with_reducible first | exact HB.out | apply below_alloc | apply pw_below_drewN | apply below_drew1) | exact HB.out)) hb); have n1_ := Aside0.mk (hbox); have n2_ := Aside0.mk ((by rw [hg]; exact (below_size (by repeat (first | (with_reducible first | exact HB.out | apply below_alloc | apply pw_below_drewN | apply below_drew1) | exact HB.out))) : w.heap.size ≤ gb197)); have n3_ := Aside0.mk ((by rw [hg]; exact (below_size (by repeat (first | (with_reducible first | exact HB.out | apply below_alloc | apply pw_below_drewN | apply below_drew1) | exact HB.out))) : w.heap.size ≤ gb197)); clear HB; have HB := n0_; have BK197 := n1_; have GW197 := n2_; have GE197 := n3_; clear n0_ n1_ n2_ n3_; clear hb hbox hg) | ((with_reducible refine gate_dst (N := 3) rfl ?_); refine box_event ?hg (N := 3) ?hd (cs := #[.string a1_0, .int .i64 a1_1, .int .i64 a1_2, .int .i64 a1_3]) (t := 43) ?hr ?_; (case hd => rfl); (case hg => rfl); (case hr => first | (go_simp; done) | (go_simp; rfl)); intro gb198 hg w23 hbox hb; have n0_ := Aside0.mk (blk_below (g := gb197) (o := .cells #[.string a0_0, .int .i64 a0_1, .int .i64 a0_2, .int .i64 a0_3] 43 (0, 0)) (by (with_reducible repeat (first | refine blk_drewN ?_ _ | refine blk_drew ?_ | refine blk_alloc ?_ _)); exact BK197.out) hb); have n1_ := Aside0.mk (below_step (by repeat (first | (with_reducible first | exact HB.out | apply below_alloc | apply pw_below_drewN | apply below_drew1 | refine below_set ?_ GE197.out) | exact HB.out)) hb); have n2_ := Aside0.mk (hbox); have n3_ := Aside0.mk ((by rw [hg]; exact (below_size (by repeat (first | (with_reducible first | exact HB.out | apply below_alloc | apply pw_below_drewN | apply below_drew1 | refine below_set ?_ GE197.out) | exact HB.out))) : w.heap.size ≤ gb198)); have n4_ := Aside0.mk ((by rw [hg]; exact (below_size (by repeat (first | (with_reducible first | exact HB.out | apply below_alloc | apply pw_below_drewN | apply below_drew1 | refine below_set ?_ GE197.out) | exact HB.out))) : w.heap.size ≤ gb198)); have n5_ := Aside0.mk ((by rw [hg]; exact Nat.ne_of_lt (blk_lt (g := gb197) (o := .cells #[.string a0_0, .int .i64 a0_1, .int .i64 a0_2, .int .i64 a0_3] 43 (0, 0)) (by (with_reducible repeat (first | refine blk_drewN ?_ _ | refine blk_drew ?_ | refine blk_alloc ?_ _)); exact BK197.out)) : gb197 ≠ gb198)); have n6_ := Aside0.mk ((by rw [hg]; exact Nat.ne_of_gt (blk_lt (g := gb197) (o := .cells #[.string a0_0, .int .i64 a0_1, .int .i64 a0_2, .int .i64 a0_3] 43 (0, 0)) (by (with_reducible repeat (first | refine blk_drewN ?_ _ | refine blk_drew ?_ | refine blk_alloc ?_ _)); exact BK197.out)) : gb198 ≠ gb197)); clear BK197; clear HB; have BK197 := n0_; have HB := n1_; have BK198 := n2_; have GW198 := n3_; have GE198 := n4_; have NB197_198 := n5_; have NB198_197 := n6_; clear n0_ n1_ n2_ n3_ n4_ n5_ n6_; clear hb hbox hg; have hnb24 := NB197_198.out; have hnc24 := NB198_197.out; have hcz25_0 : w23.cell? ⟨gb197, 0, none⟩ = some (.string a0_0) := (blk_cell BK197.out 0).trans rfl; have hcz25_1 : w23.cell? ⟨gb197, 1, none⟩ = some (.int .i64 a0_1) := (blk_cell BK197.out 1).trans rfl; have hcz25_2 : w23.cell? ⟨gb197, 2, none⟩ = some (.int .i64 a0_2) := (blk_cell BK197.out 2).trans rfl; have hcz25_3 : w23.cell? ⟨gb197, 3, none⟩ = some (.int .i64 a0_3) := (blk_cell BK197.out 3).trans rfl; have hfz25_0 := blk_frozen BK197.out 0; have hfz25_1 := blk_frozen BK197.out 1; have hfz25_2 := blk_frozen BK197.out 2; have hfz25_3 := blk_frozen BK197.out 3; have hcz26_0 : w23.cell? ⟨gb198, 0, none⟩ = some (.string a1_0) := (blk_cell BK198.out 0).trans rfl; have hcz26_1 : w23.cell? ⟨gb198, 1, none⟩ = some (.int .i64 a1_1) := (blk_cell BK198.out 1).trans rfl; have hcz26_2 : w23.cell? ⟨gb198, 2, none⟩ = some (.int .i64 a1_2) := (blk_cell BK198.out 2).trans rfl; have hcz26_3 : w23.cell? ⟨gb198, 3, none⟩ = some (.int .i64 a1_3) := (blk_cell BK198.out 3).trans rfl; have hfz26_0 := blk_frozen BK198.out 0; have hfz26_1 := blk_frozen BK198.out 1; have hfz26_2 := blk_frozen BK198.out 2; have hfz26_3 := blk_frozen BK198.out 3))
   go_ret
   exact ⟨by first | rfl | (simp [errW_none, errW_some] <;> rfl) | (simp [*, errW_none, errW_some] <;> rfl), by repeat (first | (with_reducible first | exact HB.out | apply below_alloc | apply pw_below_drewN | apply below_drew1 | refine below_set ?_ GE197.out | refine below_set ?_ GE198.out) | exact HB.out)⟩
 ·
  rw [if_neg c3] at H
  have c3b0 : (a0_0.toList == a1_0.toList) = false := beq_eq_false_iff_ne.mpr c3
  have c3b1 : (a0_0.toList != a1_0.toList) = true := bne_iff_ne.mpr c3
  obtain rfl := Option.some.inj H
  go_enter Try.func95, Try.ntmps95
  go_wp2_with (first | ((with_reducible refine gate_dst (N := 2) rfl ?_); refine box_event ?hg (N := 2) ?hd (cs := #[.string a0_0, .int .i64 a0_1, .int .i64 a0_2, .int .i64 a0_3]) (t := 43) ?hr ?_; (case hd => rfl); (case hg => rfl); (case hr => first | (go_simp; done) | (go_simp; rfl)); intro gb197 hg w27 hbox hb; have n0_ := Aside0.mk (below_step (by repeat (first | (with_reducible first | exact HB.out | apply below_alloc | apply pw_below_drewN | apply below_drew1) | exact HB.out)) hb); have n1_ := Aside0.mk (hbox); have n2_ := Aside0.mk ((by rw [hg]; exact (below_size (by repeat (first | (with_reducible first | exact HB.out | apply below_alloc | apply pw_below_drewN | apply below_drew1) | exact HB.out))) : w.heap.size ≤ gb197)); have n3_ := Aside0.mk ((by rw [hg]; exact (below_size (by repeat (first | (with_reducible first | exact HB.out | apply below_alloc | apply pw_below_drewN | apply below_drew1) | exact HB.out))) : w.heap.size ≤ gb197)); clear HB; have HB := n0_; have BK197 := n1_; have GW197 := n2_; have GE197 := n3_; clear n0_ n1_ n2_ n3_; clear hb hbox hg) | ((with_reducible refine gate_dst (N := 3) rfl ?_); refine box_event ?hg (N := 3) ?hd (cs := #[.string a1_0, .int .i64 a1_1, .int .i64 a1_2, .int .i64 a1_3]) (t := 43) ?hr ?_; (case hd => rfl); (case hg => rfl); (case hr => first | (go_simp; done) | (go_simp; rfl)); intro gb198 hg w28 hbox hb; have n0_ := Aside0.mk (blk_below (g := gb197) (o := .cells #[.string a0_0, .int .i64 a0_1, .int .i64 a0_2, .int .i64 a0_3] 43 (0, 0)) (by (with_reducible repeat (first | refine blk_drewN ?_ _ | refine blk_drew ?_ | refine blk_alloc ?_ _)); exact BK197.out) hb); have n1_ := Aside0.mk (below_step (by repeat (first | (with_reducible first | exact HB.out | apply below_alloc | apply pw_below_drewN | apply below_drew1 | refine below_set ?_ GE197.out) | exact HB.out)) hb); have n2_ := Aside0.mk (hbox); have n3_ := Aside0.mk ((by rw [hg]; exact (below_size (by repeat (first | (with_reducible first | exact HB.out | apply below_alloc | apply pw_below_drewN | apply below_drew1 | refine below_set ?_ GE197.out) | exact HB.out))) : w.heap.size ≤ gb198)); have n4_ := Aside0.mk ((by rw [hg]; exact (below_size (by repeat (first | (with_reducible first | exact HB.out | apply below_alloc | apply pw_below_drewN | apply below_drew1 | refine below_set ?_ GE197.out) | exact HB.out))) : w.heap.size ≤ gb198)); have n5_ := Aside0.mk ((by rw [hg]; exact Nat.ne_of_lt (blk_lt (g := gb197) (o := .cells #[.string a0_0, .int .i64 a0_1, .int .i64 a0_2, .int .i64 a0_3] 43 (0, 0)) (by (with_reducible repeat (first | refine blk_drewN ?_ _ | refine blk_drew ?_ | refine blk_alloc ?_ _)); exact BK197.out)) : gb197 ≠ gb198)); have n6_ := Aside0.mk ((by rw [hg]; exact Nat.ne_of_gt (blk_lt (g := gb197) (o := .cells #[.string a0_0, .int .i64 a0_1, .int .i64 a0_2, .int .i64 a0_3] 43 (0, 0)) (by (with_reducible repeat (first | refine blk_drewN ?_ _ | refine blk_drew ?_ | refine blk_alloc ?_ _)); exact BK197.out)) : gb198 ≠ gb197)); clear BK197; clear HB; have BK197 := n0_; have HB := n1_; have BK198 := n2_; have GW198 := n3_; have GE198 := n4_; have NB197_198 := n5_; have NB198_197 := n6_; clear n0_ n1_ n2_ n3_ n4_ n5_ n6_; clear hb hbox hg; have hnb29 := NB197_198.out; have hnc29 := NB198_197.out; have hcz30_0 : w28.cell? ⟨gb197, 0, none⟩ = some (.string a0_0) := (blk_cell BK197.out 0).trans rfl; have hcz30_1 : w28.cell? ⟨gb197, 1, none⟩ = some (.int .i64 a0_1) := (blk_cell BK197.out 1).trans rfl; have hcz30_2 : w28.cell? ⟨gb197, 2, none⟩ = some (.int .i64 a0_2) := (blk_cell BK197.out 2).trans rfl; have hcz30_3 : w28.cell? ⟨gb197, 3, none⟩ = some (.int .i64 a0_3) := (blk_cell BK197.out 3).trans rfl; have hfz30_0 := blk_frozen BK197.out 0; have hfz30_1 := blk_frozen BK197.out 1; have hfz30_2 := blk_frozen BK197.out 2; have hfz30_3 := blk_frozen BK197.out 3; have hcz31_0 : w28.cell? ⟨gb198, 0, none⟩ = some (.string a1_0) := (blk_cell BK198.out 0).trans rfl; have hcz31_1 : w28.cell? ⟨gb198, 1, none⟩ = some (.int .i64 a1_1) := (blk_cell BK198.out 1).trans rfl; have hcz31_2 : w28.cell? ⟨gb198, 2, none⟩ = some (.int .i64 a1_2) := (blk_cell BK198.out 2).trans rfl; have hcz31_3 : w28.cell? ⟨gb198, 3, none⟩ = some (.int .i64 a1_3) := (blk_cell BK198.out 3).trans rfl; have hfz31_0 := blk_frozen BK198.out 0; have hfz31_1 := blk_frozen BK198.out 1; have hfz31_2 := blk_frozen BK198.out 2; have hfz31_3 := blk_frozen BK198.out 3))
  go_ret
  exact ⟨by first | rfl | (simp [errW_none, errW_some] <;> rfl) | (simp [*, errW_none, errW_some] <;> rfl), by repeat (first | (with_reducible first | exact HB.out | apply below_alloc | apply pw_below_drewN | apply below_drew1 | refine below_set ?_ GE197.out | refine below_set ?_ GE198.out) | exact HB.out)⟩

end Go.Proofs.Ytffmkjnjopflnaa.PFnExactBestOrder
