-- PRINTED by print.py (a twelfth state) out of the translation. Not trusted: Lean checks it.
import Derived.Test.YtffmkjnjopflnaaPFnExactBestGangsx0
import Derived.Test.YtffmkjnjopflnaaPFnExactBestGangsx4
import Derived.Test.YtffmkjnjopflnaaPFnExactBestGangsx6
import Derived.Test.YtffmkjnjopflnaaPFnExactBestGangsx7
import Derived.Test.YtffmkjnjopflnaaPFnExactBestGangsx8
namespace Go.Proofs.Ytffmkjnjopflnaa.PFnExactBestGangs
open Go.RowKit Go.Proofs.YtffmkjnjopflnaaW.PrintWords Go.Proofs.YtffmkjnjopflnaaW.PrintLast Go.Proofs.YtffmkjnjopflnaaW.PrintMore
attribute [local go_sem] max2_int min2_int max_two min_two max_three min_three max_four min_four   -- for this text's walks alone
set_option linter.unusedVariables false
set_option linter.unusedSimpArgs false

/-! ### spec_BestGangs: function 43 -/
/-- A search's state: a block of cells, among them two rows of ints of the call's own. -/
structure SxG (w0 w : World) (B T : Nat) (cs : Array Value) (vo vb : Value) (ord best : List Int) : Prop where
 blk : w.heap[B]? = some (.cells cs T (0, 0))
 o : Kd.R (Kd.int .i64) 2 w w0.heap.size (fun k_ => k_ ≠ B) vo ord
 b : Kd.R (Kd.int .i64) 2 w w0.heap.size (fun k_ => k_ ≠ B ∧ some k_ ≠ vo.ownBlock) vb best
 bel : Below w0.heap.size w0 w
theorem SxG.below {w0 w w1 : World} {B T cs vo vb ord best} (h : SxG w0 w B T cs vo vb ord best) (hb : Below w.heap.size w w1) : SxG w0 w1 B T cs vo vb ord best :=
 ⟨blk_below h.blk hb, Kd.R_below h.o hb, Kd.R_below h.b hb, h.bel.trans (hb.mono h.bel.size)⟩
theorem SxG.put {w0 w w1 : World} {B T cs vo vb ord best} (h : SxG w0 w B T cs vo vb ord best) (hB : w0.heap.size ≤ B) (i : Nat) (u : Value) (cs' : Array Value) (ec : cs.setIfInBounds i u = cs') (e : w1 = w.setCell ⟨B, i, none⟩ u) : SxG w0 w1 B T cs' vo vb ord best := by
 subst e
 exact ⟨blk_put h.blk i _ ec, Kd.R_far (p := ⟨B, i, none⟩) h.o (fun _ hk => hk) _, Kd.R_far (p := ⟨B, i, none⟩) h.b (fun _ hk => hk.1) _, below_set h.bel hB⟩
theorem SxG.grow {w0 w w1 w2 : World} {B T cs vo vb ord best} (h : SxG w0 w B T cs vo vb ord best) (hB : w0.heap.size ≤ B) {v : Value} {ord' : List Int} (i : Nat) (cs' : Array Value) (ec : cs.setIfInBounds i v = cs') (hr : Kd.R (Kd.int .i64) 2 w1 w0.heap.size (fun k_ => k_ ≠ B) v ord') (hb : Below w0.heap.size w0 w1) (hg : w.grownBy w1 vo.ownBlock) (hat : v.ownBlock = vo.ownBlock ∨ ∃ b, v.ownBlock = some b ∧ w.heap.size ≤ b) (e : w2 = w1.setCell ⟨B, i, none⟩ v) :
  SxG w0 w2 B T cs' v vb ord' best := by
 subst e
 have h1 := blk_grown h.blk hg (fun e_ => h.o.1 B e_.symm rfl)
 exact ⟨blk_put h1 i _ ec, Kd.R_far (p := ⟨B, i, none⟩) hr (fun _ hk => hk) _, Kd.R_far (p := ⟨B, i, none⟩) (Kd.R_after h.b hg hat) (fun _ hk => hk.1) _, below_set hb hB⟩
theorem SxG.cut {w0 w w1 : World} {B T cs vb best A m co} {ord : List Int} {x : Int} (h : SxG w0 w B T cs (.slice A m co) vb (ord ++ [x]) best) (hB : w0.heap.size ≤ B) (i : Nat) (cs' : Array Value) (ec : cs.setIfInBounds i (.slice A ord.length co) = cs') (e : w1 = w.setCell ⟨B, i, none⟩ (.slice A ord.length co)) :
  SxG w0 w1 B T cs' (.slice A ord.length co) vb ord best := by
 subst e
 have h2 := Kd.R_take (m := ord.length) h.o (by simp)
 rw [List.take_left] at h2
 have h3 : Kd.R (Kd.int .i64) 2 w w0.heap.size (fun k_ => k_ ≠ B ∧ some k_ ≠ (Value.slice A ord.length co).ownBlock) vb best := Kd.R_mono h.b (fun k hk => ⟨hk.1, by cases A <;> exact hk.2⟩)
 exact ⟨blk_put h.blk i _ ec, Kd.R_far (p := ⟨B, i, none⟩) h2 (fun _ hk => hk) _, Kd.R_far (p := ⟨B, i, none⟩) h3 (fun _ hk => hk.1) _, below_set h.bel hB⟩
theorem SxG.best_ {w0 w w1 w2 : World} {B T cs vo vb ord best} (h : SxG w0 w B T cs vo vb ord best) (hB : w0.heap.size ≤ B) (hb : Below w.heap.size w w1) {v : Value} {o : List Int} (i : Nat) (cs' : Array Value) (ec : cs.setIfInBounds i v = cs') (hr : Kd.R (Kd.int .i64) 2 w1 w.heap.size (fun _ => True) v o) (e : w2 = w1.setCell ⟨B, i, none⟩ v) :
  SxG w0 w2 B T cs' vo v ord o := by
 subst e
 have h1 := h.below hb
 have h3 : Kd.R (Kd.int .i64) 2 w1 w0.heap.size (fun k_ => k_ ≠ B ∧ some k_ ≠ vo.ownBlock) v o := Kd.R_mono (Kd.R_newB (Kd.R_newR hr h.o) h.blk |> fun z => Kd.R_lower z h.bel.size) (fun k hk => ⟨hk.2, hk.1.2⟩)
 exact ⟨blk_put h1.blk i _ ec, Kd.R_far (p := ⟨B, i, none⟩) h1.o (fun _ hk => hk) _, Kd.R_far (p := ⟨B, i, none⟩) h3 (fun _ hk => hk.1) _, below_set h1.bel hB⟩

/-- The search of spec, by rounds: entered (none), or at the loop's head with a counter. -/
def srS : Nat → List S43 → Int → Int → Option Nat → Int → Bool → List Int → Int → List Int → Option (Int × Bool × List Int × Int)
 | 0, _, _, _, _, _, _, _, _, _ => none
 | k + 1, l, g, nb, none, nodes, full, best, least, ord =>
  if ord.length = l.length then (spec_l20Ends.f k l ord g).bind fun e => (spec_l20Heat.f k l e).bind fun h => if least < 0 ∨ h < least then (spec_l00Own.f ord).bind fun o => some (nodes, full, o, h) else some (nodes, full, best, least)
  else srS k l g nb (some 0) nodes full best least ord
 | k + 1, l, g, nb, some i, nodes, full, best, least, ord =>
  if i < l.length then (if full = true then some (nodes, full, best, least) else (spec_l00Has.f k ord (i : Int)).bind fun t => if t = true then srS k l g nb (some (i + 1)) nodes full best least ord
   else if nodes = nb then some (nodes, true, best, least)
   else if ord.length < 1000 then (srS k l g nb none (wrap64 (nodes + 1)) full best least (ord ++ [(i : Int)])).bind fun st => srS k l g nb (some (i + 1)) st.1 st.2.1 st.2.2.1 st.2.2.2 ord
   else none)
  else some (nodes, full, best, least)
def SxT (w0 w : World) (B : Nat) (A0 : Option Addr) (n c0 : Nat) (g nb : Int) (r : Int × Bool × List Int × Int) (ord : List Int) : Prop := ∃ vo vb, SxG w0 w B 135 (#[.slice A0 n c0, .int .i64 g, vo, vb, .int .i64 r.2.2.2, .int .i64 r.1, .int .i64 nb, .bool r.2.1]) vo vb ord r.2.2.1
set_option maxHeartbeats 2400000 in
set_option maxRecDepth 100000 in
theorem srS_leaf (k : Nat) (w0 w : World) (B : Nat) (A0 : Option Addr) (c0 : Nat) (l : List S43) (n : Nat) (hn : l.length = n) (g nb : Int) (nodes : Int) (full : Bool) (vo vb : Value) (least : Int) (ord best : List Int) (r : Int × Bool × List Int × Int) (hB : w0.heap.size ≤ B) (hl : Kd.C k43 w0 A0 l.length l) (hc0 : l.length ≤ c0)
  (hs : SxG w0 w B 135 (#[.slice A0 n c0, .int .i64 g, vo, vb, .int .i64 least, .int .i64 nodes, .int .i64 nb, .bool full]) vo vb ord best) (he : ord.length = n) (h : srS (k + 1) l g nb none nodes full best least ord = some r) :
  Calls Try.prog 93 #[.pointer (some ⟨B, 0, none⟩)] w fun e w' => e = .returned (.tuple #[]) ∧ SxT w0 w' B A0 n c0 g nb r ord := by
 simp only [srS, he, hn, if_true] at h
 obtain ⟨en, hen, h⟩ := Option.bind_eq_some_iff.mp h
 obtain ⟨t, ht, h⟩ := Option.bind_eq_some_iff.mp h
 obtain ⟨Ao, co, rfl⟩ := Kd.R_slice hs.o
 have hco := (Kd.R_reads' hs.o).2.1
 have hro := (Kd.R_reads' hs.o).2.2
 have HG := Aside0.mk (fun (W : World) (hb : Below w.heap.size w W) => spec_l20Ends.calls k A0 c0 l Ao co ord g en W (Kd.C_below hl (hs.bel.trans (hb.mono hs.bel.size))) hc0 (Kd.C_below hro hb) hco hen)
 have HH := Aside0.mk (fun (W : World) (Ae : Option Addr) (ce : Nat) (hb : Below w.heap.size w W) (hr : Kd.C (Kd.int .i64) W Ae en.length en) (hc : en.length ≤ ce) => spec_l20Heat.calls k A0 c0 l Ae ce en t W (Kd.C_below hl (hs.bel.trans (hb.mono hs.bel.size))) hc0 hr hc ht)
 have HE := Aside0.mk he
 have HCO := Aside0.mk hco
 rw [hn] at HG HH
 rw [he] at HG
 have HS := Aside0.mk hs
 rw [he] at HS
 have hx0 : w.cell? ⟨B, 0, none⟩ = some (.slice A0 n c0) := (blk_cell HS.out.blk 0).trans rfl; have hx1 : w.cell? ⟨B, 1, none⟩ = some (.int .i64 g) := (blk_cell HS.out.blk 1).trans rfl; have hx2 : w.cell? ⟨B, 2, none⟩ = some (.slice Ao n co) := (blk_cell HS.out.blk 2).trans rfl; have hx3 : w.cell? ⟨B, 3, none⟩ = some (vb) := (blk_cell HS.out.blk 3).trans rfl; have hx4 : w.cell? ⟨B, 4, none⟩ = some (.int .i64 least) := (blk_cell HS.out.blk 4).trans rfl; have hx5 : w.cell? ⟨B, 5, none⟩ = some (.int .i64 nodes) := (blk_cell HS.out.blk 5).trans rfl; have hx6 : w.cell? ⟨B, 6, none⟩ = some (.int .i64 nb) := (blk_cell HS.out.blk 6).trans rfl; have hx7 : w.cell? ⟨B, 7, none⟩ = some (.bool full) := (blk_cell HS.out.blk 7).trans rfl
 clear hs hro hco hen ht he hl hc0 hx1 hx3 hx5 hx6 hx7
 by_cases hlt : least < 0 ∨ t < least
 ·
  rw [if_pos hlt] at h
  obtain ⟨o, ho, h2⟩ := Option.bind_eq_some_iff.mp h
  obtain rfl := Option.some.inj h2
  have HOW := Aside0.mk (fun (W : World) (hr : Kd.C (Kd.int .i64) W Ao n ord) => spec_l00Own.calls Ao co ord o W (by rw [HE.out]; exact hr) (HCO.out) ho)
  rw [HE.out] at HOW
  clear h h2 ho
  have hcases : decide (least < 0) = true ∨ (decide (least < 0) = false ∧ decide (t < least) = true) := by
   by_cases h0 : least < 0
   ·
    exact .inl (decide_eq_true h0)
   ·
    exact .inr ⟨decide_eq_false h0, decide_eq_true (hlt.resolve_left h0)⟩
  clear hlt hn
  have hx1 : True := trivial
  have hx3 : True := trivial
  have hx5 : True := trivial
  have hx6 : True := trivial
  have hx7 : True := trivial
  go_enter Try.func93, Try.ntmps93
  go_wp2
  go_quiet (fail)
  go_wp2
  rw [drewN_self w]; generalize hq_ : World.drewN w _ = w1
  have hb1 : Below w.heap.size w w1 := hq_ ▸ pw_below_drewN (Below.refl _ _) _
  have HB1 := Aside0.mk hb1
  have HS1 := Aside0.mk (HS.out.below hb1)
  clear hq_ hb1
  clear hx0 hx1 hx2 hx3 hx4 hx5 hx6 hx7; have hx0 : w1.cell? ⟨B, 0, none⟩ = some (.slice A0 n c0) := (blk_cell HS1.out.blk 0).trans rfl; have hx1 : w1.cell? ⟨B, 1, none⟩ = some (.int .i64 g) := (blk_cell HS1.out.blk 1).trans rfl; have hx2 : w1.cell? ⟨B, 2, none⟩ = some (.slice Ao n co) := (blk_cell HS1.out.blk 2).trans rfl; have hx3 : w1.cell? ⟨B, 3, none⟩ = some (vb) := (blk_cell HS1.out.blk 3).trans rfl; have hx4 : w1.cell? ⟨B, 4, none⟩ = some (.int .i64 least) := (blk_cell HS1.out.blk 4).trans rfl; have hx5 : w1.cell? ⟨B, 5, none⟩ = some (.int .i64 nodes) := (blk_cell HS1.out.blk 5).trans rfl; have hx6 : w1.cell? ⟨B, 6, none⟩ = some (.int .i64 nb) := (blk_cell HS1.out.blk 6).trans rfl; have hx7 : w1.cell? ⟨B, 7, none⟩ = some (.bool full) := (blk_cell HS1.out.blk 7).trans rfl
  go_region_held3 (fun w' => w'.cell? ⟨B, 0, none⟩ = some (.slice A0 n c0) ∧ w'.cell? ⟨B, 1, none⟩ = some (.int .i64 g) ∧ w'.cell? ⟨B, 2, none⟩ = some (.slice Ao n co) ∧ Aside0 (Below w.heap.size w w')) (first | exact ⟨hx0, hx1, hx2, ⟨below_drew1 HB1.out⟩⟩ | (have hq_ := HB3.out; exact ⟨(blk_cell (blk_below HS.out.blk hq_) 0).trans rfl, (blk_cell (blk_below HS.out.blk hq_) 1).trans rfl, (blk_cell (blk_below HS.out.blk hq_) 2).trans rfl, ⟨hq_⟩⟩) | (have hq_ := HB2.out; exact ⟨(blk_cell (blk_below HS.out.blk hq_) 0).trans rfl, (blk_cell (blk_below HS.out.blk hq_) 1).trans rfl, (blk_cell (blk_below HS.out.blk hq_) 2).trans rfl, ⟨hq_⟩⟩)) (first | (go_at_call 164; refine (HG.out _ (below_drew1 HB1.out)).mono ?_; rintro e w2 ⟨ve, rfl, hr, hb⟩; obtain ⟨Ae, ce, rfl⟩ := Kd.R_slice hr; have HB2 := Aside0.mk ((below_drew1 HB1.out).trans (hb.mono HB1.out.size)); have HRE := Aside0.mk (Kd.R_reads' hr).2.2; have HCE := Aside0.mk (Kd.R_reads' hr).2.1; clear hr hb) | (go_at_call 163; refine (HH.out _ Ae ce HB2.out HRE.out HCE.out).mono ?_; rintro e w3 ⟨rfl, hd⟩; have HB3 := Aside0.mk (HB2.out.trans ((Drawn0.below hd).mono HB2.out.size)); clear hd))
  have HS3 := Aside0.mk (HS.out.below HB3.out)
  clear hx0 hx1 hx2 hx3 hx4 hx5 hx6 hx7; have hx0 : w3.cell? ⟨B, 0, none⟩ = some (.slice A0 n c0) := (blk_cell HS3.out.blk 0).trans rfl; have hx1 : w3.cell? ⟨B, 1, none⟩ = some (.int .i64 g) := (blk_cell HS3.out.blk 1).trans rfl; have hx2 : w3.cell? ⟨B, 2, none⟩ = some (.slice Ao n co) := (blk_cell HS3.out.blk 2).trans rfl; have hx3 : w3.cell? ⟨B, 3, none⟩ = some (vb) := (blk_cell HS3.out.blk 3).trans rfl; have hx4 : w3.cell? ⟨B, 4, none⟩ = some (.int .i64 least) := (blk_cell HS3.out.blk 4).trans rfl; have hx5 : w3.cell? ⟨B, 5, none⟩ = some (.int .i64 nodes) := (blk_cell HS3.out.blk 5).trans rfl; have hx6 : w3.cell? ⟨B, 6, none⟩ = some (.int .i64 nb) := (blk_cell HS3.out.blk 6).trans rfl; have hx7 : w3.cell? ⟨B, 7, none⟩ = some (.bool full) := (blk_cell HS3.out.blk 7).trans rfl
  have hfb4 := blk_frozen HS3.out.blk 4
  rcases hcases with hd1 | ⟨hd1, hd2⟩
  all_goals
   go_wp2_with (first | ((with_reducible refine gate_store (t := 2) (p := 49) rfl ?_); refine store_event (t := 2) (p := 49) (v := ?vo_49) (w1 := (w3.setCell ⟨B, 4, none⟩ (.int .i64 t))) ?hg ?ho ?hn ?hr ?_; (case ho => rfl); (case hg => rfl); (case hn => rfl); (case hr => first | (go_simp; done) | (go_simp; rfl)); intro w4 hw; have HS4 := Aside0.mk (HS3.out.put hB 4 _ _ rfl hw); have HRO := Aside0.mk (show Kd.C (Kd.int .i64) w4 Ao n ord by have h_ := (Kd.R_reads' HS4.out.o).2.2; rw [HE.out] at h_; exact h_); clear hw hfb4; clear hx0 hx1 hx2 hx3 hx4 hx5 hx6 hx7; have hx0 : w4.cell? ⟨B, 0, none⟩ = some (.slice A0 n c0) := (blk_cell HS4.out.blk 0).trans rfl; have hx1 : w4.cell? ⟨B, 1, none⟩ = some (.int .i64 g) := (blk_cell HS4.out.blk 1).trans rfl; have hx2 : w4.cell? ⟨B, 2, none⟩ = some (.slice Ao n co) := (blk_cell HS4.out.blk 2).trans rfl; have hx3 : w4.cell? ⟨B, 3, none⟩ = some (vb) := (blk_cell HS4.out.blk 3).trans rfl; have hx4 : w4.cell? ⟨B, 4, none⟩ = some (.int .i64 t) := (blk_cell HS4.out.blk 4).trans rfl; have hx5 : w4.cell? ⟨B, 5, none⟩ = some (.int .i64 nodes) := (blk_cell HS4.out.blk 5).trans rfl; have hx6 : w4.cell? ⟨B, 6, none⟩ = some (.int .i64 nb) := (blk_cell HS4.out.blk 6).trans rfl; have hx7 : w4.cell? ⟨B, 7, none⟩ = some (.bool full) := (blk_cell HS4.out.blk 7).trans rfl) | (go_at_call 165; refine (HOW.out w4 HRO.out).mono ?_; rintro e w5 ⟨v0, rfl, hr, hb⟩; obtain ⟨Ab, cb, rfl⟩ := Kd.R_slice hr; have HR5 := Aside0.mk hr; have HB5 := Aside0.mk hb; have BK5 := Aside0.mk (blk_below HS4.out.blk hb); clear hr hb hx0 hx1 hx2 hx3 hx4 hx5 hx6 hx7; have hy3 : w5.cell? ⟨B, 3, none⟩ = some vb := (blk_cell BK5.out 3).trans rfl; have hf3 := blk_frozen BK5.out 3) | ((with_reducible refine gate_store (t := 35) (p := 57) rfl ?_); refine store_event (t := 35) (p := 57) (v := ?vo_57) (w1 := (w5.setCell ⟨B, 3, none⟩ (.slice Ab o.length cb))) ?hg ?ho ?hn ?hr ?_; (case ho => rfl); (case hg => rfl); (case hn => rfl); (case hr => first | (go_simp; done) | (go_simp; rfl)); intro w6 hw; have HS6 := Aside0.mk (HS4.out.best_ hB HB5.out 3 _ rfl HR5.out hw); clear hw))
   refine bodyPost_ret (results_none rfl _ _ _) rfl ?_
   exact ⟨rfl, _, _, by have h2 := HS6.out; exact h2⟩
 ·
  rw [if_neg hlt] at h
  obtain rfl := Option.some.inj h
  have hd1 : decide (least < 0) = false := decide_eq_false (fun z => hlt (.inl z))
  have hd2 : decide (t < least) = false := decide_eq_false (fun z => hlt (.inr z))
  clear hlt h hn
  have hx1 : True := trivial
  have hx3 : True := trivial
  have hx5 : True := trivial
  have hx6 : True := trivial
  have hx7 : True := trivial
  go_enter Try.func93, Try.ntmps93
  go_wp2
  go_quiet (fail)
  go_wp2
  rw [drewN_self w]; generalize hq_ : World.drewN w _ = w1
  have hb1 : Below w.heap.size w w1 := hq_ ▸ pw_below_drewN (Below.refl _ _) _
  have HB1 := Aside0.mk hb1
  have HS1 := Aside0.mk (HS.out.below hb1)
  clear hq_ hb1
  clear hx0 hx1 hx2 hx3 hx4 hx5 hx6 hx7; have hx0 : w1.cell? ⟨B, 0, none⟩ = some (.slice A0 n c0) := (blk_cell HS1.out.blk 0).trans rfl; have hx1 : w1.cell? ⟨B, 1, none⟩ = some (.int .i64 g) := (blk_cell HS1.out.blk 1).trans rfl; have hx2 : w1.cell? ⟨B, 2, none⟩ = some (.slice Ao n co) := (blk_cell HS1.out.blk 2).trans rfl; have hx3 : w1.cell? ⟨B, 3, none⟩ = some (vb) := (blk_cell HS1.out.blk 3).trans rfl; have hx4 : w1.cell? ⟨B, 4, none⟩ = some (.int .i64 least) := (blk_cell HS1.out.blk 4).trans rfl; have hx5 : w1.cell? ⟨B, 5, none⟩ = some (.int .i64 nodes) := (blk_cell HS1.out.blk 5).trans rfl; have hx6 : w1.cell? ⟨B, 6, none⟩ = some (.int .i64 nb) := (blk_cell HS1.out.blk 6).trans rfl; have hx7 : w1.cell? ⟨B, 7, none⟩ = some (.bool full) := (blk_cell HS1.out.blk 7).trans rfl
  go_region_held3 (fun w' => w'.cell? ⟨B, 0, none⟩ = some (.slice A0 n c0) ∧ w'.cell? ⟨B, 1, none⟩ = some (.int .i64 g) ∧ w'.cell? ⟨B, 2, none⟩ = some (.slice Ao n co) ∧ Aside0 (Below w.heap.size w w')) (first | exact ⟨hx0, hx1, hx2, ⟨below_drew1 HB1.out⟩⟩ | (have hq_ := HB3.out; exact ⟨(blk_cell (blk_below HS.out.blk hq_) 0).trans rfl, (blk_cell (blk_below HS.out.blk hq_) 1).trans rfl, (blk_cell (blk_below HS.out.blk hq_) 2).trans rfl, ⟨hq_⟩⟩) | (have hq_ := HB2.out; exact ⟨(blk_cell (blk_below HS.out.blk hq_) 0).trans rfl, (blk_cell (blk_below HS.out.blk hq_) 1).trans rfl, (blk_cell (blk_below HS.out.blk hq_) 2).trans rfl, ⟨hq_⟩⟩)) (first | (go_at_call 164; refine (HG.out _ (below_drew1 HB1.out)).mono ?_; rintro e w2 ⟨ve, rfl, hr, hb⟩; obtain ⟨Ae, ce, rfl⟩ := Kd.R_slice hr; have HB2 := Aside0.mk ((below_drew1 HB1.out).trans (hb.mono HB1.out.size)); have HRE := Aside0.mk (Kd.R_reads' hr).2.2; have HCE := Aside0.mk (Kd.R_reads' hr).2.1; clear hr hb) | (go_at_call 163; refine (HH.out _ Ae ce HB2.out HRE.out HCE.out).mono ?_; rintro e w3 ⟨rfl, hd⟩; have HB3 := Aside0.mk (HB2.out.trans ((Drawn0.below hd).mono HB2.out.size)); clear hd))
  have HS3 := Aside0.mk (HS.out.below HB3.out)
  clear hx0 hx1 hx2 hx3 hx4 hx5 hx6 hx7; have hx0 : w3.cell? ⟨B, 0, none⟩ = some (.slice A0 n c0) := (blk_cell HS3.out.blk 0).trans rfl; have hx1 : w3.cell? ⟨B, 1, none⟩ = some (.int .i64 g) := (blk_cell HS3.out.blk 1).trans rfl; have hx2 : w3.cell? ⟨B, 2, none⟩ = some (.slice Ao n co) := (blk_cell HS3.out.blk 2).trans rfl; have hx3 : w3.cell? ⟨B, 3, none⟩ = some (vb) := (blk_cell HS3.out.blk 3).trans rfl; have hx4 : w3.cell? ⟨B, 4, none⟩ = some (.int .i64 least) := (blk_cell HS3.out.blk 4).trans rfl; have hx5 : w3.cell? ⟨B, 5, none⟩ = some (.int .i64 nodes) := (blk_cell HS3.out.blk 5).trans rfl; have hx6 : w3.cell? ⟨B, 6, none⟩ = some (.int .i64 nb) := (blk_cell HS3.out.blk 6).trans rfl; have hx7 : w3.cell? ⟨B, 7, none⟩ = some (.bool full) := (blk_cell HS3.out.blk 7).trans rfl
  have hfb4 := blk_frozen HS3.out.blk 4
  go_wp2
  refine bodyPost_ret (results_none rfl _ _ _) rfl ?_
  exact ⟨rfl, _, _, by have h2 := HS3.out; exact h2⟩
set_option maxHeartbeats 2400000 in
set_option maxRecDepth 100000 in
theorem srS_loop (w0 : World) (B : Nat) (A0 : Option Addr) (n c0 : Nat) (l : List S43) (g nb : Int) (m : Nat) (hn : l.length = n) (hmax : n ≤ 9223372036854775807) (hB : w0.heap.size ≤ B)
  (IH : ∀ m2, m2 < m → ∀ (w : World) (nodes : Int) (full : Bool) (vo vb : Value) (least : Int) (ord best : List Int) (r : Int × Bool × List Int × Int), SxG w0 w B 135 (#[.slice A0 n c0, .int .i64 g, vo, vb, .int .i64 least, .int .i64 nodes, .int .i64 nb, .bool full]) vo vb ord best → srS m2 l g nb none nodes full best least ord = some r → Calls Try.prog 93 #[.pointer (some ⟨B, 0, none⟩)] w fun e w' => e = .returned (.tuple #[]) ∧ SxT w0 w' B A0 n c0 g nb r ord)
  (w : World) (nodes : Int) (full : Bool) (vo vb : Value) (least : Int) (ord best : List Int) (r : Int × Bool × List Int × Int) (hs : SxG w0 w B 135 (#[.slice A0 n c0, .int .i64 g, vo, vb, .int .i64 least, .int .i64 nodes, .int .i64 nb, .bool full]) vo vb ord best) (hne : ord.length ≠ n) (h : srS m l g nb (some 0) nodes full best least ord = some r) :
  Calls Try.prog 93 #[.pointer (some ⟨B, 0, none⟩)] w fun e w' => e = .returned (.tuple #[]) ∧ SxT w0 w' B A0 n c0 g nb r ord := by
 have HI := Aside0.mk IH
 have HN := Aside0.mk hn
 have H0 := Aside0.mk h
 have HS := Aside0.mk hs
 obtain ⟨Ao, co, rfl⟩ := Kd.R_slice hs.o
 have hx0 : w.cell? ⟨B, 0, none⟩ = some (.slice A0 n c0) := (blk_cell HS.out.blk 0).trans rfl
 have hx2 : w.cell? ⟨B, 2, none⟩ = some (.slice Ao ord.length co) := (blk_cell HS.out.blk 2).trans rfl
 have hq0 : ¬ (ord.length : Int) = (n : Int) := by omega
 have hq1 : ((ord.length : Int) == (n : Int)) = false := by simpa using hq0
 have hq2 : (ord.length == n) = false := by simpa using hne
 clear IH hn h hs hne hq0
 go_enter Try.func93, Try.ntmps93
 go_wp2
 go_quiet (fail)
 go_wp2
 rw [drewN_self w]; generalize hq_ : World.drewN w _ = w1
 have HS1 := Aside0.mk (HS.out.below (hq_ ▸ pw_below_drewN (Below.refl _ _) _))
 clear hq_ HS hq1 hq2 hx0 hx2
 go_loopg [3] m (fun gg s3 wr => ∃ (i : Nat) (nodes : Int) (full : Bool) (best : List Int) (least : Int) (vo vb : Value), s3 = .int .i64 (i : Int) ∧ Aside0 (SxG w0 wr B 135 (#[.slice A0 n c0, .int .i64 g, vo, vb, .int .i64 least, .int .i64 nodes, .int .i64 nb, .bool full]) vo vb ord best) ∧ Aside0 (srS gg l g nb (some i) nodes full best least ord = some r) ∧ Aside0 (gg ≤ m))
 case atStart => exact ⟨0, _, _, _, _, _, _, rfl, HS1, H0, ⟨Nat.le_refl _⟩⟩
 case round =>
  clear HS1 H0
  obtain ⟨i, nodes, full, best, least, vo, vb, rfl, HS, HA, HK⟩ := hrel
  cases gk with
  | zero => exact absurd HA.out (by simp [srS])
  | succ k1 =>
   have H := HA.out
   clear HA
   simp only [srS, HN.out] at H
   obtain ⟨Ao, co, rfl⟩ := Kd.R_slice HS.out.o
   have hx0 : wr.cell? ⟨B, 0, none⟩ = some (.slice A0 n c0) := (blk_cell HS.out.blk 0).trans rfl; have hx1 : wr.cell? ⟨B, 1, none⟩ = some (.int .i64 g) := (blk_cell HS.out.blk 1).trans rfl; have hx2 : wr.cell? ⟨B, 2, none⟩ = some (.slice Ao ord.length co) := (blk_cell HS.out.blk 2).trans rfl; have hx3 : wr.cell? ⟨B, 3, none⟩ = some (vb) := (blk_cell HS.out.blk 3).trans rfl; have hx4 : wr.cell? ⟨B, 4, none⟩ = some (.int .i64 least) := (blk_cell HS.out.blk 4).trans rfl; have hx5 : wr.cell? ⟨B, 5, none⟩ = some (.int .i64 nodes) := (blk_cell HS.out.blk 5).trans rfl; have hx6 : wr.cell? ⟨B, 6, none⟩ = some (.int .i64 nb) := (blk_cell HS.out.blk 6).trans rfl; have hx7 : wr.cell? ⟨B, 7, none⟩ = some (.bool full) := (blk_cell HS.out.blk 7).trans rfl
   have hnb : (n : Int) ≤ 9223372036854775807 := by omega
   have hi0 : 0 ≤ (i : Int) := by omega
   by_cases hlt : i < n
   ·
    rw [if_pos hlt] at H
    have hltz : decide ((i : Int) < (n : Int)) = true := decide_eq_true (by omega)
    have hltz2 : decide (i < n) = true := decide_eq_true hlt
    cases full with
    | true =>
     rw [if_pos rfl] at H
     obtain rfl := Option.some.inj H
     clear H
     go_wp2
     refine bodyPost_end (results_none rfl _ _ _) rfl ?_
     exact ⟨rfl, _, _, by have h2 := HS.out; exact h2⟩
    | false =>
     rw [if_neg (by decide)] at H
     obtain ⟨t, ht, H⟩ := Option.bind_eq_some_iff.mp H
     have HCN := Aside0.mk (fun (W : World) (hb : Below wr.heap.size wr W) => spec_l00Has.calls k1 Ao co ord (i : Int) t W (Kd.C_below (Kd.R_reads' HS.out.o).2.2 hb) (Kd.R_reads' HS.out.o).2.1 ht)
     clear ht
     cases t with
     | true =>
      simp only [if_true] at H
      have H' := Aside0.mk H
      clear H
      go_wp2_with (first | (go_at_call 133; refine (HCN.out wr (Below.refl _ _)).mono ?_; rintro e w2 ⟨rfl, hd⟩; have HS2 := Aside0.mk (HS.out.below (Drawn0.below hd)); clear hd; clear hx0 hx1 hx2 hx3 hx4 hx5 hx6 hx7; have hx0 : w2.cell? ⟨B, 0, none⟩ = some (.slice A0 n c0) := (blk_cell HS2.out.blk 0).trans rfl; have hx1 : w2.cell? ⟨B, 1, none⟩ = some (.int .i64 g) := (blk_cell HS2.out.blk 1).trans rfl; have hx2 : w2.cell? ⟨B, 2, none⟩ = some (.slice Ao ord.length co) := (blk_cell HS2.out.blk 2).trans rfl; have hx3 : w2.cell? ⟨B, 3, none⟩ = some (vb) := (blk_cell HS2.out.blk 3).trans rfl; have hx4 : w2.cell? ⟨B, 4, none⟩ = some (.int .i64 least) := (blk_cell HS2.out.blk 4).trans rfl; have hx5 : w2.cell? ⟨B, 5, none⟩ = some (.int .i64 nodes) := (blk_cell HS2.out.blk 5).trans rfl; have hx6 : w2.cell? ⟨B, 6, none⟩ = some (.int .i64 nb) := (blk_cell HS2.out.blk 6).trans rfl; have hx7 : w2.cell? ⟨B, 7, none⟩ = some (.bool false) := (blk_cell HS2.out.blk 7).trans rfl))
      go_roundg k1
      case measure => omega
      case rel => exact ⟨i + 1, _, _, _, _, _, _, by go_num, HS2, H', ⟨by have := HK.out; omega⟩⟩
     | false =>
      simp only [Bool.false_eq_true, if_false] at H
      by_cases hcb : nodes = nb
      ·
       rw [if_pos hcb] at H
       obtain rfl := Option.some.inj H
       have hd1 : (nodes == nb) = true := beq_iff_eq.mpr hcb
       clear H hcb
       go_wp2_with (first | (go_at_call 133; refine (HCN.out wr (Below.refl _ _)).mono ?_; rintro e w2 ⟨rfl, hd⟩; have HS2 := Aside0.mk (HS.out.below (Drawn0.below hd)); clear hd; clear hx0 hx1 hx2 hx3 hx4 hx5 hx6 hx7; have hx0 : w2.cell? ⟨B, 0, none⟩ = some (.slice A0 n c0) := (blk_cell HS2.out.blk 0).trans rfl; have hx1 : w2.cell? ⟨B, 1, none⟩ = some (.int .i64 g) := (blk_cell HS2.out.blk 1).trans rfl; have hx2 : w2.cell? ⟨B, 2, none⟩ = some (.slice Ao ord.length co) := (blk_cell HS2.out.blk 2).trans rfl; have hx3 : w2.cell? ⟨B, 3, none⟩ = some (vb) := (blk_cell HS2.out.blk 3).trans rfl; have hx4 : w2.cell? ⟨B, 4, none⟩ = some (.int .i64 least) := (blk_cell HS2.out.blk 4).trans rfl; have hx5 : w2.cell? ⟨B, 5, none⟩ = some (.int .i64 nodes) := (blk_cell HS2.out.blk 5).trans rfl; have hx6 : w2.cell? ⟨B, 6, none⟩ = some (.int .i64 nb) := (blk_cell HS2.out.blk 6).trans rfl; have hx7 : w2.cell? ⟨B, 7, none⟩ = some (.bool false) := (blk_cell HS2.out.blk 7).trans rfl))
       go_quiet (fail)
       rw [drewN_self w2]; generalize hq_ : World.drewN w2 _ = w3
       have HS3 := Aside0.mk (HS2.out.below (hq_ ▸ pw_below_drewN (Below.refl _ _) _))
       clear hq_ hd1
       clear hx0 hx1 hx2 hx3 hx4 hx5 hx6 hx7; have hx0 : w3.cell? ⟨B, 0, none⟩ = some (.slice A0 n c0) := (blk_cell HS3.out.blk 0).trans rfl; have hx1 : w3.cell? ⟨B, 1, none⟩ = some (.int .i64 g) := (blk_cell HS3.out.blk 1).trans rfl; have hx2 : w3.cell? ⟨B, 2, none⟩ = some (.slice Ao ord.length co) := (blk_cell HS3.out.blk 2).trans rfl; have hx3 : w3.cell? ⟨B, 3, none⟩ = some (vb) := (blk_cell HS3.out.blk 3).trans rfl; have hx4 : w3.cell? ⟨B, 4, none⟩ = some (.int .i64 least) := (blk_cell HS3.out.blk 4).trans rfl; have hx5 : w3.cell? ⟨B, 5, none⟩ = some (.int .i64 nodes) := (blk_cell HS3.out.blk 5).trans rfl; have hx6 : w3.cell? ⟨B, 6, none⟩ = some (.int .i64 nb) := (blk_cell HS3.out.blk 6).trans rfl; have hx7 : w3.cell? ⟨B, 7, none⟩ = some (.bool false) := (blk_cell HS3.out.blk 7).trans rfl
       have hfb7 := blk_frozen HS3.out.blk 7
       go_wp2_with (first | ((with_reducible refine gate_store (t := 4) (p := 91) rfl ?_); refine store_event (t := 4) (p := 91) (v := ?vo_91) (w1 := (w3.setCell ⟨B, 7, none⟩ (.bool true))) ?hg ?ho ?hn ?hr ?_; (case ho => rfl); (case hg => rfl); (case hn => rfl); (case hr => first | (go_simp; done) | (go_simp; rfl)); intro w4 hw; have HS4 := Aside0.mk (HS3.out.put hB 7 _ _ rfl hw); clear hw))
       refine bodyPost_ret (results_none rfl _ _ _) rfl ?_
       exact ⟨rfl, _, _, by have h2 := HS4.out; exact h2⟩
      ·
       rw [if_neg hcb] at H
       have hd1 : (nodes == nb) = false := beq_eq_false_iff_ne.mpr hcb
       clear hcb
       by_cases hol : ord.length < 1000
       ·
        rw [if_pos hol] at H
        obtain ⟨st, hrec, H⟩ := Option.bind_eq_some_iff.mp H
        have HREC := Aside0.mk hrec
        have HL := Aside0.mk hol
        have HLN := Aside0.mk (show (ord ++ [(i : Int)]).length = ord.length + 1 by simp)
        have H' := Aside0.mk H
        clear H hrec hol
        go_wp2_with (first | (go_at_call 133; refine (HCN.out wr (Below.refl _ _)).mono ?_; rintro e w2 ⟨rfl, hd⟩; have HS2 := Aside0.mk (HS.out.below (Drawn0.below hd)); clear hd; clear hx0 hx1 hx2 hx3 hx4 hx5 hx6 hx7; have hx0 : w2.cell? ⟨B, 0, none⟩ = some (.slice A0 n c0) := (blk_cell HS2.out.blk 0).trans rfl; have hx1 : w2.cell? ⟨B, 1, none⟩ = some (.int .i64 g) := (blk_cell HS2.out.blk 1).trans rfl; have hx2 : w2.cell? ⟨B, 2, none⟩ = some (.slice Ao ord.length co) := (blk_cell HS2.out.blk 2).trans rfl; have hx3 : w2.cell? ⟨B, 3, none⟩ = some (vb) := (blk_cell HS2.out.blk 3).trans rfl; have hx4 : w2.cell? ⟨B, 4, none⟩ = some (.int .i64 least) := (blk_cell HS2.out.blk 4).trans rfl; have hx5 : w2.cell? ⟨B, 5, none⟩ = some (.int .i64 nodes) := (blk_cell HS2.out.blk 5).trans rfl; have hx6 : w2.cell? ⟨B, 6, none⟩ = some (.int .i64 nb) := (blk_cell HS2.out.blk 6).trans rfl; have hx7 : w2.cell? ⟨B, 7, none⟩ = some (.bool false) := (blk_cell HS2.out.blk 7).trans rfl))
        go_quiet (fail)
        rw [drewN_self w2]; generalize hq_ : World.drewN w2 _ = w3
        have HS3 := Aside0.mk (HS2.out.below (hq_ ▸ pw_below_drewN (Below.refl _ _) _))
        clear hq_ hd1
        clear hx0 hx1 hx2 hx3 hx4 hx5 hx6 hx7; have hx0 : w3.cell? ⟨B, 0, none⟩ = some (.slice A0 n c0) := (blk_cell HS3.out.blk 0).trans rfl; have hx1 : w3.cell? ⟨B, 1, none⟩ = some (.int .i64 g) := (blk_cell HS3.out.blk 1).trans rfl; have hx2 : w3.cell? ⟨B, 2, none⟩ = some (.slice Ao ord.length co) := (blk_cell HS3.out.blk 2).trans rfl; have hx3 : w3.cell? ⟨B, 3, none⟩ = some (vb) := (blk_cell HS3.out.blk 3).trans rfl; have hx4 : w3.cell? ⟨B, 4, none⟩ = some (.int .i64 least) := (blk_cell HS3.out.blk 4).trans rfl; have hx5 : w3.cell? ⟨B, 5, none⟩ = some (.int .i64 nodes) := (blk_cell HS3.out.blk 5).trans rfl; have hx6 : w3.cell? ⟨B, 6, none⟩ = some (.int .i64 nb) := (blk_cell HS3.out.blk 6).trans rfl; have hx7 : w3.cell? ⟨B, 7, none⟩ = some (.bool false) := (blk_cell HS3.out.blk 7).trans rfl
        have hfb5 := blk_frozen HS3.out.blk 5
        go_wp2_with (first | ((with_reducible refine gate_store (t := 2) (p := 98) rfl ?_); refine store_event (t := 2) (p := 98) (v := ?vo_98) (w1 := (w3.setCell ⟨B, 5, none⟩ (.int .i64 (wrap64 (nodes + 1))))) ?hg ?ho ?hn ?hr ?_; (case ho => rfl); (case hg => rfl); (case hn => rfl); (case hr => first | (go_simp; done) | (go_simp; rfl)); intro w4 hw; have HS4 := Aside0.mk (HS3.out.put hB 5 _ _ rfl hw); clear hw hfb5; clear hx0 hx1 hx2 hx3 hx4 hx5 hx6 hx7; have hx0 : w4.cell? ⟨B, 0, none⟩ = some (.slice A0 n c0) := (blk_cell HS4.out.blk 0).trans rfl; have hx1 : w4.cell? ⟨B, 1, none⟩ = some (.int .i64 g) := (blk_cell HS4.out.blk 1).trans rfl; have hx2 : w4.cell? ⟨B, 2, none⟩ = some (.slice Ao ord.length co) := (blk_cell HS4.out.blk 2).trans rfl; have hx3 : w4.cell? ⟨B, 3, none⟩ = some (vb) := (blk_cell HS4.out.blk 3).trans rfl; have hx4 : w4.cell? ⟨B, 4, none⟩ = some (.int .i64 least) := (blk_cell HS4.out.blk 4).trans rfl; have hx5 : w4.cell? ⟨B, 5, none⟩ = some (.int .i64 (wrap64 (nodes + 1))) := (blk_cell HS4.out.blk 5).trans rfl; have hx6 : w4.cell? ⟨B, 6, none⟩ = some (.int .i64 nb) := (blk_cell HS4.out.blk 6).trans rfl; have hx7 : w4.cell? ⟨B, 7, none⟩ = some (.bool false) := (blk_cell HS4.out.blk 7).trans rfl) | ((with_reducible refine gate_builtin (b := .append) (xs := #[.tmp 103, .tmp 105]) rfl ?_); (try (refine gate_guard (by rfl) ?_; dsimp only)); at_builtin; refine Kd.R_append (Kd.int .i64) (w0 := w0) w0.heap.size rfl (.tmp 103) (.tmp 105) 35 2 (.int .i64 0) 8 rfl Try.underlying35 info2 rfl (by decide) (by omega) (.slice Ao ord.length co) ord (i : Int) [.int .i64 (i : Int)] (fun k_ => k_ ≠ B) (fun _ => False) rfl rfl rfl (fun _ hk => hk.elim) ?aF ?aO ?aB ?aS ?aL ?_; (case aF => intro k_ hk e_; subst e_; exact absurd (blk_lt HS4.out.blk) (Nat.not_lt.2 hk)); (case aO => exact HS4.out.o); (case aB => exact HS4.out.bel); (case aS => exact HS4.out.bel.size); (case aL => have := HL.out; omega); intro v6 w6 ho hb6 hg6 hat; obtain ⟨A6, c6, e6⟩ := Kd.R_slice ho; rw [HLN.out] at e6; subst e6; have BK6 := Aside0.mk (blk_grown HS4.out.blk hg6 (fun e_ => HS4.out.o.1 B e_.symm rfl)); have HO6 := Aside0.mk ho; have HB6 := Aside0.mk hb6; have HG6 := Aside0.mk hg6; have HAT := Aside0.mk hat; clear ho hb6 hg6 hat hx0 hx1 hx2 hx3 hx4 hx5 hx6 hx7; have hy2 : w6.cell? ⟨B, 2, none⟩ = some (.slice Ao ord.length co) := (blk_cell BK6.out 2).trans rfl; have hf2 := blk_frozen BK6.out 2) | ((with_reducible refine gate_store (t := 35) (p := 108) rfl ?_); refine store_event (t := 35) (p := 108) (v := ?vo_108) (w1 := (w6.setCell ⟨B, 2, none⟩ (.slice A6 (ord.length + 1) c6))) ?hg ?ho ?hn ?hr ?_; (case ho => rfl); (case hg => rfl); (case hn => rfl); (case hr => first | (go_simp; done) | (go_simp; rfl)); intro w7 hw; have HS7 := Aside0.mk (HS4.out.grow hB 2 _ rfl HO6.out HB6.out HG6.out HAT.out hw); clear hw hy2 hf2) | (go_at_call 93; refine (HI.out k1 (by have := HK.out; omega) w7 _ _ _ _ _ _ _ st HS7.out HREC.out).mono ?_; rintro e w8 ⟨rfl, vo8, vb8, hs8⟩; obtain ⟨A8, c8, e8⟩ := Kd.R_slice hs8.o; rw [HLN.out] at e8; subst e8; have HS8 := Aside0.mk hs8; have hc8 := (Kd.R_reads' hs8.o).2.1; clear hs8))
        obtain ⟨sn, sf, sb, sl⟩ := st
        have hx0 : w8.cell? ⟨B, 0, none⟩ = some (.slice A0 n c0) := (blk_cell HS8.out.blk 0).trans rfl
        have hx2 : w8.cell? ⟨B, 2, none⟩ = some (.slice A8 (ord.length + 1) c8) := (blk_cell HS8.out.blk 2).trans rfl
        have hcut := cut64 A8 (ord.length + 1) c8 ord.length (Nat.le_succ _) hc8
        have hw3 : IntKind.i64.wrap (ord.length : Int) = (ord.length : Int) := by have := HL.out; rw [IntKind.wrap_i64]; omega
        have HSQ := Aside0.mk (HS8.out.below (below_drew1 (Below.refl _ _)))
        go_still_tail 14, (by kernel_rfl)
        change wpList _ _ _ _ _ w8.drew
        generalize w8.drew = w9 at HSQ ⊢
        have HS9 := HSQ
        clear hx0 hx2
        have hx0 : w9.cell? ⟨B, 0, none⟩ = some (.slice A0 n c0) := (blk_cell HS9.out.blk 0).trans rfl; have hx1 : w9.cell? ⟨B, 1, none⟩ = some (.int .i64 g) := (blk_cell HS9.out.blk 1).trans rfl; have hx2 : w9.cell? ⟨B, 2, none⟩ = some (.slice A8 (ord.length + 1) c8) := (blk_cell HS9.out.blk 2).trans rfl; have hx3 : w9.cell? ⟨B, 3, none⟩ = some (vb8) := (blk_cell HS9.out.blk 3).trans rfl; have hx4 : w9.cell? ⟨B, 4, none⟩ = some (.int .i64 sl) := (blk_cell HS9.out.blk 4).trans rfl; have hx5 : w9.cell? ⟨B, 5, none⟩ = some (.int .i64 sn) := (blk_cell HS9.out.blk 5).trans rfl; have hx6 : w9.cell? ⟨B, 6, none⟩ = some (.int .i64 nb) := (blk_cell HS9.out.blk 6).trans rfl; have hx7 : w9.cell? ⟨B, 7, none⟩ = some (.bool sf) := (blk_cell HS9.out.blk 7).trans rfl
        have hfb2 := blk_frozen HS9.out.blk 2
        go_wp2_with ((with_reducible refine gate_store (t := 35) (p := 124) rfl ?_); refine store_event (t := 35) (p := 124) (v := ?vo_124) (w1 := (w9.setCell ⟨B, 2, none⟩ (.slice A8 ord.length c8))) ?hg ?ho ?hn ?hr ?_; (case ho => rfl); (case hg => rfl); (case hn => rfl); (case hr => first | (go_simp; done) | (go_simp; rfl)); intro w10 hw; have HS10 := Aside0.mk (HS9.out.cut hB 2 _ rfl hw); clear hw hfb2; clear hx0 hx1 hx2 hx3 hx4 hx5 hx6 hx7; have hx0 : w10.cell? ⟨B, 0, none⟩ = some (.slice A0 n c0) := (blk_cell HS10.out.blk 0).trans rfl; have hx1 : w10.cell? ⟨B, 1, none⟩ = some (.int .i64 g) := (blk_cell HS10.out.blk 1).trans rfl; have hx2 : w10.cell? ⟨B, 2, none⟩ = some (.slice A8 ord.length c8) := (blk_cell HS10.out.blk 2).trans rfl; have hx3 : w10.cell? ⟨B, 3, none⟩ = some (vb8) := (blk_cell HS10.out.blk 3).trans rfl; have hx4 : w10.cell? ⟨B, 4, none⟩ = some (.int .i64 sl) := (blk_cell HS10.out.blk 4).trans rfl; have hx5 : w10.cell? ⟨B, 5, none⟩ = some (.int .i64 sn) := (blk_cell HS10.out.blk 5).trans rfl; have hx6 : w10.cell? ⟨B, 6, none⟩ = some (.int .i64 nb) := (blk_cell HS10.out.blk 6).trans rfl; have hx7 : w10.cell? ⟨B, 7, none⟩ = some (.bool sf) := (blk_cell HS10.out.blk 7).trans rfl)
        go_roundg k1
        case measure => omega
        case rel => exact ⟨i + 1, _, _, _, _, _, _, by go_num, HS10, H', ⟨by have := HK.out; omega⟩⟩
       ·
        rw [if_neg hol] at H
        cases H
   ·
    rw [if_neg hlt] at H
    obtain rfl := Option.some.inj H
    have hltz : decide ((i : Int) < (n : Int)) = false := decide_eq_false (by omega)
    have hltz2 : decide (i < n) = false := decide_eq_false hlt
    clear H hlt
    go_wp2
    refine bodyPost_end (results_none rfl _ _ _) rfl ?_
    exact ⟨rfl, _, _, by have h2 := HS.out; exact h2⟩
theorem srS_calls (w0 : World) (B : Nat) (A0 : Option Addr) (n c0 : Nat) (l : List S43) (g nb : Int) (hn : l.length = n) (hB : w0.heap.size ≤ B) (hl : Kd.C k43 w0 A0 n l) (hc0 : n ≤ c0) (k : Nat) :
  ∀ m2, m2 ≤ k → ∀ (w : World) (nodes : Int) (full : Bool) (vo vb : Value) (least : Int) (ord best : List Int) (r : Int × Bool × List Int × Int), SxG w0 w B 135 (#[.slice A0 n c0, .int .i64 g, vo, vb, .int .i64 least, .int .i64 nodes, .int .i64 nb, .bool full]) vo vb ord best → srS m2 l g nb none nodes full best least ord = some r → Calls Try.prog 93 #[.pointer (some ⟨B, 0, none⟩)] w fun e w' => e = .returned (.tuple #[]) ∧ SxT w0 w' B A0 n c0 g nb r ord := by
 subst hn
 induction k with
 | zero =>
  intro m hm w nodes full vo vb least ord best r hs h
  obtain rfl : m = 0 := by omega
  exact absurd h (by simp [srS])
 | succ k ih =>
  intro m hm w nodes full vo vb least ord best r hs h
  cases m with
  | zero => exact absurd h (by simp [srS])
  | succ m =>
   by_cases he : ord.length = l.length
   ·
    exact srS_leaf m w0 w B A0 c0 l _ rfl g nb nodes full vo vb least ord best r hB hl hc0 hs he h
   ·
    simp only [srS, if_neg he] at h
    exact srS_loop w0 B A0 l.length c0 l g nb m rfl (Kd.C_max hl) hB (fun m2 h2 => ih m2 (by omega)) w nodes full vo vb least ord best r hs he h


def spec_BestGangs.f (k : Nat) (l0 : List S43) (a1 a2 : Int) : Option (List Int × Int × Int) := (spec_l20Ok.f k l0).bind fun t => if t = true then ((spec_l00In.f a1 1 3).bind fun u => if u = true then ((spec_l00In.f a2 1 20000).bind fun v => if v = true then ((srS k l0 a1 a2 none 0 false [] (-1) []).bind fun st => if st.2.1 = true then some ([], 0, 5) else some (st.2.2.1, st.2.2.2, 0)) else some ([], 0, 2)) else some ([], 0, 2)) else some ([], 0, 1)
set_option maxHeartbeats 4000000 in
set_option maxRecDepth 100000 in
theorem spec_BestGangs.calls (k : Nat) (A0 : Option Addr) (c0 : Nat) (l0 : List S43) (a1 a2 : Int) (r1 : List Int) (r2 : Int) (r3 : Int) (w : World) (hr0 : Kd.C k43 w A0 l0.length l0) (hc0 : l0.length ≤ c0) (h : spec_BestGangs.f k l0 a1 a2 = some (r1, r2, r3)) :
  Calls Try.prog 43 #[.slice A0 l0.length c0, .int .i64 a1, .int .i64 a2] w fun e w' => ∃ v0_ : Value, e = .returned (.tuple #[v0_, .int .i64 r2, .int .i64 r3]) ∧ Kd.R (Kd.int .i64) 2 w' w.heap.size (fun _ => True) v0_ r1 ∧ Below w.heap.size w w' := by
 unfold spec_BestGangs.f at h
 obtain ⟨n, hn⟩ : ∃ n, l0.length = n := ⟨_, rfl⟩
 have HN := Aside0.mk hn
 have HR0 := Aside0.mk hr0
 have HC0 := Aside0.mk hc0
 rw [hn]
 clear hr0 hc0 hn
 obtain ⟨t, ht, h⟩ := Option.bind_eq_some_iff.mp h
 have HT := Aside0.mk ht
 clear ht
 cases t with
 | false =>
  simp only [Bool.false_eq_true, if_false, Option.some.injEq, Prod.mk.injEq] at h
  obtain ⟨rfl, rfl, rfl⟩ := h
  have HVC := fun W (hr : Kd.C k43 W A0 l0.length l0) => spec_l20Ok.calls k A0 c0 l0 false W hr HC0.out HT.out
  rw [HN.out] at HVC HR0 HC0
  have HV_ := Aside0.mk HVC
  clear HVC
  go_enter Try.func43, Try.ntmps43
  go_wp2_with (go_at_call 92; refine (HV_.out _ HR0.out).mono ?_; rintro e w1 ⟨rfl, hd⟩; have B1 := Aside0.mk (Drawn0.below hd); clear hd)
  go_ret3
  exact ⟨_, rfl, Kd.R_nil _ _ _ _ _, B1.out⟩
 | true =>
  simp only [if_true] at h
  have HVC := fun W (hr : Kd.C k43 W A0 l0.length l0) => spec_l20Ok.calls k A0 c0 l0 true W hr HC0.out HT.out
  rw [HN.out] at HVC HR0 HC0
  have HV_ := Aside0.mk HVC
  clear HVC
  obtain ⟨u, hu, h⟩ := Option.bind_eq_some_iff.mp h
  have HU := Aside0.mk hu
  clear hu
  cases u with
  | false =>
   simp only [Bool.false_eq_true, if_false, Option.some.injEq, Prod.mk.injEq] at h
   obtain ⟨rfl, rfl, rfl⟩ := h
   go_enter Try.func43, Try.ntmps43
   go_wp2_with (first | (go_at_call 92; refine (HV_.out _ HR0.out).mono ?_; rintro e w1 ⟨rfl, hd⟩; have B1 := Aside0.mk (Drawn0.below hd); clear hd) | (go_at_call_of 107 (Value.int .i64 a1); refine (spec_l00In.calls a1 1 3 false _ HU.out).mono ?_; rintro e w2 ⟨rfl, hd⟩; have B2 := Aside0.mk (B1.out.trans ((Drawn0.below hd).mono B1.out.size)); clear hd))
   go_ret3
   exact ⟨_, rfl, Kd.R_nil _ _ _ _ _, B2.out⟩
  | true =>
   simp only [if_true] at h
   obtain ⟨v, hv, h⟩ := Option.bind_eq_some_iff.mp h
   have HV := Aside0.mk hv
   clear hv
   cases v with
   | false =>
    simp only [Bool.false_eq_true, if_false, Option.some.injEq, Prod.mk.injEq] at h
    obtain ⟨rfl, rfl, rfl⟩ := h
    go_enter Try.func43, Try.ntmps43
    go_wp2_with (first | (go_at_call 92; refine (HV_.out _ HR0.out).mono ?_; rintro e w1 ⟨rfl, hd⟩; have B1 := Aside0.mk (Drawn0.below hd); clear hd) | (go_at_call_of 107 (Value.int .i64 a1); refine (spec_l00In.calls a1 1 3 true _ HU.out).mono ?_; rintro e w2 ⟨rfl, hd⟩; have B2 := Aside0.mk (B1.out.trans ((Drawn0.below hd).mono B1.out.size)); clear hd) | (go_at_call_of 107 (Value.int .i64 a2); refine (spec_l00In.calls a2 1 20000 false _ HV.out).mono ?_; rintro e w3 ⟨rfl, hd⟩; have B3 := Aside0.mk (B2.out.trans ((Drawn0.below hd).mono B2.out.size)); clear hd))
    go_ret3
    exact ⟨_, rfl, Kd.R_nil _ _ _ _ _, B3.out⟩
   | true =>
    simp only [if_true] at h
    obtain ⟨st, hst, h⟩ := Option.bind_eq_some_iff.mp h
    have HST := Aside0.mk hst
    clear hst
    by_cases hsb : st.2.1 = true
    ·
     rw [if_pos hsb] at h
     simp only [Option.some.injEq, Prod.mk.injEq] at h
     obtain ⟨rfl, rfl, rfl⟩ := h
     obtain ⟨s1, s2⟩ := st
     obtain ⟨sf, sb, sl⟩ := s2
     obtain rfl : sf = true := hsb
     go_enter Try.func43, Try.ntmps43
     go_wp2_with (first | (go_at_call 92; refine (HV_.out _ HR0.out).mono ?_; rintro e w1 ⟨rfl, hd⟩; have B1 := Aside0.mk (Drawn0.below hd); clear hd) | (go_at_call_of 107 (Value.int .i64 a1); refine (spec_l00In.calls a1 1 3 true _ HU.out).mono ?_; rintro e w2 ⟨rfl, hd⟩; have B2 := Aside0.mk (B1.out.trans ((Drawn0.below hd).mono B1.out.size)); clear hd) | (go_at_call_of 107 (Value.int .i64 a2); refine (spec_l00In.calls a2 1 20000 true _ HV.out).mono ?_; rintro e w3 ⟨rfl, hd⟩; have B3 := Aside0.mk (B2.out.trans ((Drawn0.below hd).mono B2.out.size)); clear hd) | ((with_reducible refine gate_dst (N := 25) rfl ?_); refine box_event ?hg (N := 25) ?hd (cs := #[.slice A0 n c0, .int .i64 a1, .slice none 0 0, .slice none 0 0, .int .i64 (-1), .int .i64 0, .int .i64 a2, .bool false]) (t := 135) ?hr ?_; (case hd => rfl); (case hg => rfl); (case hr => first | (go_simp; done) | (go_simp; rfl)); intro B hgB w7 hbox hb; have HS7 := Aside0.mk (show SxG w w7 B 135 #[.slice A0 n c0, .int .i64 a1, .slice none 0 0, .slice none 0 0, .int .i64 (-1), .int .i64 0, .int .i64 a2, .bool false] (.slice none 0 0) (.slice none 0 0) [] [] from ⟨hbox, Kd.R_nil _ _ _ _ _, Kd.R_nil _ _ _ _ _, B3.out.trans (hb.mono B3.out.size)⟩); have BG := Aside0.mk (show w.heap.size ≤ B by rw [hgB]; exact B3.out.size); clear hgB hbox hb) | (go_at_call 93; refine (srS_calls w B A0 n c0 l0 a1 a2 HN.out BG.out HR0.out HC0.out k k (Nat.le_refl _) w7 _ _ _ _ _ _ _ _ HS7.out HST.out).mono ?_; rintro e w8 ⟨rfl, vo8, vb8, hs8⟩; obtain ⟨A8, c8, rfl⟩ := Kd.R_slice hs8.b; have HS8 := Aside0.mk hs8; have hx3 : w8.cell? ⟨B, 3, none⟩ = some (.slice A8 sb.length c8) := (blk_cell hs8.blk 3).trans rfl; have hx4 : w8.cell? ⟨B, 4, none⟩ = some (.int .i64 sl) := (blk_cell hs8.blk 4).trans rfl; have hx7 : w8.cell? ⟨B, 7, none⟩ = some (.bool true) := (blk_cell hs8.blk 7).trans rfl; clear hs8))
     go_ret3
     exact ⟨_, rfl, Kd.R_nil _ _ _ _ _, HS8.out.bel⟩
    ·
     rw [if_neg hsb] at h
     simp only [Option.some.injEq, Prod.mk.injEq] at h
     obtain ⟨rfl, rfl, rfl⟩ := h
     obtain ⟨s1, s2⟩ := st
     obtain ⟨sf, sb, sl⟩ := s2
     obtain rfl : sf = false := by cases sf; rfl; exact absurd rfl hsb
     clear hsb
     go_enter Try.func43, Try.ntmps43
     go_wp2_with (first | (go_at_call 92; refine (HV_.out _ HR0.out).mono ?_; rintro e w1 ⟨rfl, hd⟩; have B1 := Aside0.mk (Drawn0.below hd); clear hd) | (go_at_call_of 107 (Value.int .i64 a1); refine (spec_l00In.calls a1 1 3 true _ HU.out).mono ?_; rintro e w2 ⟨rfl, hd⟩; have B2 := Aside0.mk (B1.out.trans ((Drawn0.below hd).mono B1.out.size)); clear hd) | (go_at_call_of 107 (Value.int .i64 a2); refine (spec_l00In.calls a2 1 20000 true _ HV.out).mono ?_; rintro e w3 ⟨rfl, hd⟩; have B3 := Aside0.mk (B2.out.trans ((Drawn0.below hd).mono B2.out.size)); clear hd) | ((with_reducible refine gate_dst (N := 25) rfl ?_); refine box_event ?hg (N := 25) ?hd (cs := #[.slice A0 n c0, .int .i64 a1, .slice none 0 0, .slice none 0 0, .int .i64 (-1), .int .i64 0, .int .i64 a2, .bool false]) (t := 135) ?hr ?_; (case hd => rfl); (case hg => rfl); (case hr => first | (go_simp; done) | (go_simp; rfl)); intro B hgB w7 hbox hb; have HS7 := Aside0.mk (show SxG w w7 B 135 #[.slice A0 n c0, .int .i64 a1, .slice none 0 0, .slice none 0 0, .int .i64 (-1), .int .i64 0, .int .i64 a2, .bool false] (.slice none 0 0) (.slice none 0 0) [] [] from ⟨hbox, Kd.R_nil _ _ _ _ _, Kd.R_nil _ _ _ _ _, B3.out.trans (hb.mono B3.out.size)⟩); have BG := Aside0.mk (show w.heap.size ≤ B by rw [hgB]; exact B3.out.size); clear hgB hbox hb) | (go_at_call 93; refine (srS_calls w B A0 n c0 l0 a1 a2 HN.out BG.out HR0.out HC0.out k k (Nat.le_refl _) w7 _ _ _ _ _ _ _ _ HS7.out HST.out).mono ?_; rintro e w8 ⟨rfl, vo8, vb8, hs8⟩; obtain ⟨A8, c8, rfl⟩ := Kd.R_slice hs8.b; have HS8 := Aside0.mk hs8; have hx3 : w8.cell? ⟨B, 3, none⟩ = some (.slice A8 sb.length c8) := (blk_cell hs8.blk 3).trans rfl; have hx4 : w8.cell? ⟨B, 4, none⟩ = some (.int .i64 sl) := (blk_cell hs8.blk 4).trans rfl; have hx7 : w8.cell? ⟨B, 7, none⟩ = some (.bool false) := (blk_cell hs8.blk 7).trans rfl; clear hs8))
     go_quiet (fail)
     try go_wp2
     go_ret3
     refine ⟨_, rfl, Kd.R_drewN (Kd.R_mono HS8.out.b (fun _ _ => trivial)) _, pw_below_drewN HS8.out.bel _⟩


end Go.Proofs.Ytffmkjnjopflnaa.PFnExactBestGangs
