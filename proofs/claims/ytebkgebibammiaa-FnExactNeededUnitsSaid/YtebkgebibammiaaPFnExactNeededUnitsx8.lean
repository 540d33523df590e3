-- PRINTED by print.py (a twelfth state) out of the translation. Not trusted: Lean checks it.
import Derived.Test.YtebkgebibammiaaPFnExactNeededUnitsx0
import Derived.Test.YtebkgebibammiaaPFnExactNeededUnitsx5
import Derived.Test.YtebkgebibammiaaPFnExactNeededUnitsx6
import Derived.Test.YtebkgebibammiaaPFnExactNeededUnitsx7
namespace Go.Proofs.Ytebkgebibammiaa.PFnExactNeededUnits
open Go.RowKit Go.Proofs.YtebkgebibammiaaW.PrintWords Go.Proofs.YtebkgebibammiaaW.PrintLast Go.Proofs.YtebkgebibammiaaW.PrintMore
attribute [local go_sem] max2_int min2_int max_two min_two max_three min_three max_four min_four   -- for this text's walks alone
set_option linter.unusedVariables false
set_option linter.unusedSimpArgs false

/-! ### impl_NeededUnits: function 29 -/
theorem bcell_ {W w1 : World} (hb : Below W.heap.size W w1) : (∀ b o, b < W.heap.size → w1.cell? ⟨b, o, none⟩ = W.cell? ⟨b, o, none⟩) ∧ (∀ b o, b < W.heap.size → w1.frozen? ⟨b, o, none⟩ = W.frozen? ⟨b, o, none⟩) :=
 ⟨fun b o h => hb.cell (p := ⟨b, o, none⟩) h, fun b o h => hb.frozen (p := ⟨b, o, none⟩) h⟩

set_option maxHeartbeats 4000000 in
set_option maxRecDepth 100000 in
theorem pdq_small (k : Nat) (P0_ : Nat → Prop) (v : Value) (lim : Int) (l r : List Int) (w0 w : World) (hB : Below w0.heap.size w0 w) (ho0 : Kd.R (Kd.int .i64) 2 w w0.heap.size P0_ v l) (hl : l.length ≤ 12) (h : slices_insertionSortOrdered_int64.f k l 0 (l.length : Int) = some r) :
  Calls Try.prog 118 #[v, .int .i64 0, .int .i64 (l.length : Int), .int .i64 lim] w fun e w' => e = .returned (.tuple #[]) ∧ Kd.R (Kd.int .i64) 2 w' w0.heap.size (fun k_ => P0_ k_ ∨ w.heap.size ≤ k_) v r ∧ Below w0.heap.size w0 w' ∧ Kept w w' (fun k_ => P0_ k_) := by
 have HI := Aside0.mk (slices_insertionSortOrdered_int64.calls k P0_ v l 0 (l.length : Int) r w0 w hB ho0 h)
 clear hB ho0 h
 generalize l.length = n at *
 have hz : (n : Int) ≤ 12 := by omega
 have hz0 : 0 ≤ (n : Int) := by omega
 go_enter Try.func118, Try.ntmps118
 go_wp2
 go_loopg [1, 2] 0 (fun gg s1 s2 wr => s1 = .int .i64 0 ∧ s2 = .int .i64 (n : Int) ∧ wr = w)
 case atStart => exact ⟨rfl, rfl, rfl⟩
 case round =>
  obtain ⟨rfl, rfl, rfl⟩ := hrel
  go_wp2_with (go_at_call 147; refine HI.out.mono ?_; rintro e w' ⟨rfl, q1, q2, q3⟩)
  refine bodyPost_ret (results_none rfl _ _ _) rfl ?_
  exact ⟨rfl, q1, q2, q3⟩
set_option maxHeartbeats 4000000 in
set_option maxRecDepth 100000 in
theorem sort_small (k : Nat) (P0_ : Nat → Prop) (v : Value) (l r : List Int) (w0 w : World) (hB : Below w0.heap.size w0 w) (ho0 : Kd.R (Kd.int .i64) 2 w w0.heap.size P0_ v l) (hl : l.length ≤ 12) (h : slices_insertionSortOrdered_int64.f k l 0 (l.length : Int) = some r) :
  Calls Try.prog 73 #[v] w fun e w' => e = .returned (.tuple #[]) ∧ Kd.R (Kd.int .i64) 2 w' w0.heap.size (fun k_ => P0_ k_ ∨ w.heap.size ≤ k_) v r ∧ Below w0.heap.size w0 w' ∧ Kept w w' (fun k_ => P0_ k_) := by
 obtain ⟨A, c, rfl⟩ := Kd.R_slice ho0
 have HI := fun lim => Aside0.mk (pdq_small k P0_ _ lim l r w0 w hB ho0 hl h)
 clear hB ho0 h
 generalize l.length = n at *
 have hz0 : 0 ≤ (n : Int) := by omega
 have hz1 : (n : Int) ≤ 18446744073709551615 := by omega
 have hu : IntKind.u64.wrap (n : Int) = (n : Int) := by unfold IntKind.wrap; simp [IntKind.bits, IntKind.signed]; omega
 go_enter Try.func73, Try.ntmps73
 go_wp2_with (first | (go_at_call 119; refine (Try.bits_Len (n : Int) _ hz0 hz1).mono ?_; rintro e w' ⟨rfl, rfl⟩) | (go_at_call 118; refine (HI _).out.mono ?_; rintro e w' ⟨rfl, q1, q2, q3⟩))
 go_end0
 exact ⟨rfl, q1, q2, q3⟩

def neededHas (k : Nat) (rv : List Int) (d : Int) (n : Nat) : Bool := match impl_sumOf.f k (rv.take n) with | some t => decide (t ≥ d) | none => false
def lst (has : Nat → Bool) (hi : Nat) : Int × Bool := match (List.range (hi + 1)).find? has with | some n => ((n : Int), true) | none => (0, false)
def impl_NeededUnits.f (k : Nat) (l0 : List S77) (a1 : Int) : Option (Int × Int) :=
 (impl_ValidUnits.f k l0).bind fun t => if t = true then ((impl_demandOk.f a1).bind fun u => if u = true then (if 0 < l0.length ∧ l0.length ≤ 12 then
  ((slices_insertionSortOrdered_int64.f k (l0.map fun x => x.f2) 0 (l0.length : Int)).bind fun s => (slices_Reverse_int64_int64.f k s).bind fun rv =>
   if s.length = l0.length ∧ rv.length = l0.length ∧ ((List.range (l0.length + 1)).all fun n => (impl_sumOf.f k (rv.take n)).isSome) = true then impl_orNotFound.f (lst (neededHas k rv a1) l0.length).1 (lst (neededHas k rv a1) l0.length).2 else none) else none) else some (0, 2)) else some (0, 1)
set_option maxHeartbeats 4000000 in
theorem needed_1 (k : Nat) (w1 : World) (B C : Nat) (ad : Addr) (c0 : Nat) (rv : List Int) (d : Int) (hB : B < w1.heap.size) (hC : C < w1.heap.size)
  (hb : w1.cell? ⟨B, 0, none⟩ = some (.slice (some ad) rv.length c0)) (hc : w1.cell? ⟨C, 0, none⟩ = some (.int .i64 d)) (hr : Kd.C (Kd.int .i64) w1 (some ad) rv.length rv) (hc0 : rv.length ≤ c0) (n : Nat) (hn : n ≤ rv.length) (t : Int) (hs : impl_sumOf.f k (rv.take n) = some t) (W : World) (hW : Below w1.heap.size w1 W) :
  Calls Try.prog 77 #[.int .i64 (n : Int), .pointer (some ⟨B, 0, none⟩), .pointer (some ⟨C, 0, none⟩)] W fun e w' => e = .returned (.bool (decide (t ≥ d))) ∧ Drawn0 W w' := by
 have hb' : W.cell? ⟨B, 0, none⟩ = some (.slice (some ad) rv.length c0) := (hW.cell (p := ⟨B, 0, none⟩) hB).trans hb
 have hc' : W.cell? ⟨C, 0, none⟩ = some (.int .i64 d) := (hW.cell (p := ⟨C, 0, none⟩) hC).trans hc
 have HT := Aside0.mk (Kd.C_take (Kd.C_below hr hW) hn)
 have HS := Aside0.mk hs
 have hl : (rv.take n).length = n := by rw [List.length_take]; omega
 have hnz : 0 ≤ (n : Int) := by omega
 have hnc : (n : Int) ≤ (c0 : Int) := by omega
 have hnl : (n : Int) ≤ (rv.length : Int) := by omega
 clear hr hs hb hc
 generalize rv.take n = q at *
 subst hl
 have HC := fun (m : Nat) => Aside0.mk (impl_sumOf.calls k (some ad) c0 q t (W.drewN m) (Kd.C_drewN HT.out m) (by omega) HS.out)
 have HC0 := Aside0.mk (impl_sumOf.calls k (some ad) c0 q t W HT.out (by omega) HS.out)
 go_enter Try.func77, Try.ntmps77
 go_wp2
 go_quiet (first | (go_at_call 78; refine (impl_sumOf.calls k (some ad) c0 q t _ (by (with_reducible repeat (first | apply Kd.C_drewN | apply Kd.C_drew)); exact HT.out) (by omega) HS.out).mono ?_; rintro e w' ⟨rfl, ⟨nd, rfl⟩⟩; (try first | exact ⟨rfl, _, World.drewN_drewN _ _ _⟩ | exact ⟨rfl, _, Eq.trans (World.drewN_drewN _ _ _) (congrArg (World.drewN _) (Nat.add_assoc _ _ _))⟩)))
 try go_wp2
 go_ret
 refine ⟨by first | rfl | simp, ?_⟩
 first | exact ⟨_, rfl⟩ | exact ⟨_, World.drewN_drewN _ _ _⟩ | (have h : Drawn0 W _ := (by repeat (first | exact Drawn0.refl _ | apply Drawn0.step)); exact h)
theorem lst_hit (has : Nat → Bool) (hi i : Nat) (hi2 : i ≤ hi) (h0 : ∀ j, j < i → has j = false) (h1 : has i = true) : lst has hi = ((i : Int), true) := by
 have e : (List.range (hi + 1)).find? has = some i := by
  rw [List.find?_eq_some_iff_append]
  refine ⟨h1, List.range i, (List.range (hi - i)).map (fun j => i + 1 + j), ?_, fun j hj => by simp [h0 j (List.mem_range.1 hj)]⟩
  refine List.ext_getElem (by simp; omega) fun k h2 h3 => ?_
  rw [List.getElem_range, List.getElem_append]
  split
  ·
   rw [List.getElem_range]
  ·
   rename_i hk
   rw [List.length_range] at hk
   rw [List.getElem_cons]
   split
   ·
    rename_i hk2
    rw [List.length_range] at hk2
    omega
   ·
    rename_i hk2
    rw [List.length_range] at hk2
    simp
    omega
 unfold lst
 rw [e]
theorem lst_miss (has : Nat → Bool) (hi : Nat) (h0 : ∀ j, j ≤ hi → has j = false) : lst has hi = (0, false) := by
 have e : (List.range (hi + 1)).find? has = none := by
  rw [List.find?_eq_none]
  intro j hj
  have := List.mem_range.1 hj
  simp [h0 j (by omega)]
 unfold lst
 rw [e]
set_option maxHeartbeats 4000000 in
theorem least_ (has : Nat → Bool) (hi : Nat) (hbig : hi ≤ 1000000) (g : Nat) (cb : Array Value) (eg : ∀ args w, (callFunc g args).run Try.prog w = .ok (.enter g args) w) (w1 : World)
  (hp : ∀ n, n ≤ hi → ∀ W, Below w1.heap.size w1 W → Calls Try.prog g (#[.int .i64 (n : Int)] ++ cb) W fun e w' => e = .returned (.bool (has n)) ∧ Drawn0 W w') :
  Calls Try.prog 76 #[.int .i64 0, .int .i64 (hi : Int), .func (.func g) #[] cb] w1 fun e w' => e = .returned (.tuple #[.int .i64 (lst has hi).1, .bool (lst has hi).2]) ∧ Below w1.heap.size w1 w' := by
 have HP := Aside0.mk hp
 clear hp
 go_enter Try.func76, Try.ntmps76
 go_wp2
 go_loopg [8] (hi + 1) (fun gg s8 wr => ∃ i : Nat, i ≤ hi + 1 ∧ hi + 1 - i ≤ gg ∧ s8 = .int .i64 i ∧ Aside0 (Below w1.heap.size w1 wr) ∧ Aside0 (∀ j, j < i → has j = false))
 case atStart => exact ⟨0, Nat.zero_le _, by omega, rfl, ⟨Below.refl _ w1⟩, ⟨fun j hj => absurd hj (Nat.not_lt_zero _)⟩⟩
 case round =>
  obtain ⟨i, hi1, hg, rfl, BW, A0⟩ := hrel
  by_cases hlt : i ≤ hi
  ·
   have hltz : (i : Int) ≤ (hi : Int) := by omega
   have hcall := HP.out i hlt wr BW.out
   have hiz : 0 ≤ (i : Int) := by omega
   cases hq : has i with
   | true =>
    rw [hq] at hcall
    have e := lst_hit has hi i hlt A0.out hq
    have HE := Aside0.mk e
    clear e hq
    go_wp2_with (go_at_fn g; refine hcall.mono ?_; rintro e w' ⟨rfl, hb'⟩)
    go_ret2
    refine ⟨?_, BW.out.trans ((Drawn0.below hb').mono BW.out.size)⟩
    rw [HE.out]
    rfl
   | false =>
    rw [hq] at hcall
    have HQ := Aside0.mk hq
    clear hq
    go_wp2_with (go_at_fn g; refine hcall.mono ?_; rintro e w' ⟨rfl, hb'⟩)
    go_roundg (hi + 1 - (i + 1))
    case measure => omega
    case rel =>
     refine ⟨i + 1, by omega, by omega, by go_num, ⟨BW.out.trans ((Drawn0.below hb').mono BW.out.size)⟩, ⟨fun j hj => ?_⟩⟩
     by_cases e : j = i
     ·
      subst e
      exact HQ.out
     ·
      exact A0.out j (by omega)
  ·
   have hltz : ¬ (i : Int) ≤ (hi : Int) := by omega
   have hm := lst_miss has hi (fun j hj => A0.out j (by omega))
   have HE := Aside0.mk hm
   clear hm
   go_wp2
   go_ret2
   refine ⟨?_, BW.out⟩
   rw [HE.out]
   rfl
set_option maxHeartbeats 2400000 in
set_option maxRecDepth 100000 in
theorem impl_NeededUnits.calls (k : Nat) (A0 : Option Addr) (c0 : Nat) (l0 : List S77) (a1 : Int) (r1 : Int) (r2 : Int) (w : World) (hr0 : Kd.C k77 w A0 l0.length l0) (hc0 : l0.length ≤ c0) (h : impl_NeededUnits.f k l0 a1 = some (r1, r2)) :
  Calls Try.prog 29 #[.slice A0 l0.length c0, .int .i64 a1] w fun e w' => e = .returned (.tuple #[.int .i64 r1, .int .i64 r2]) ∧ Below w.heap.size w w' := by
 unfold impl_NeededUnits.f at h
 have HR0 := Aside0.mk hr0
 have HC0 := Aside0.mk hc0
 clear hr0 hc0
 obtain ⟨t, ht, h⟩ := Option.bind_eq_some_iff.mp h
 have HT := Aside0.mk ht
 clear ht
 cases t with
 | false =>
  simp only [Bool.false_eq_true, if_false, Option.some.injEq, Prod.mk.injEq] at h
  obtain ⟨rfl, rfl⟩ := h
  go_enter Try.func29, Try.ntmps29
  go_wp2_with (first | ((with_reducible refine gate_dst (N := 3) rfl ?_); refine box_event ?hg (N := 3) ?hd (cs := #[.int .i64 a1]) (t := 2) ?hr ?_; (case hd => rfl); (case hg => rfl); (case hr => first | (go_simp; done) | (go_simp; rfl)); intro B hgB w1 hbox hb; have BX1 := Aside0.mk hbox; have B1 := Aside0.mk hb; clear hbox hgB hb) | (go_at_call 67; refine (impl_ValidUnits.calls k A0 c0 l0 false _ (Kd.C_below HR0.out B1.out) HC0.out HT.out).mono ?_; rintro e w2 ⟨rfl, hb2⟩))
  go_ret2
  exact ⟨rfl, B1.out.trans (hb2.mono B1.out.size)⟩
 | true =>
  simp only [if_true] at h
  obtain ⟨u, hu, h⟩ := Option.bind_eq_some_iff.mp h
  have HU := Aside0.mk hu
  clear hu
  cases u with
  | false =>
   simp only [Bool.false_eq_true, if_false, Option.some.injEq, Prod.mk.injEq] at h
   obtain ⟨rfl, rfl⟩ := h
   go_enter Try.func29, Try.ntmps29
   go_wp2_with (first | ((with_reducible refine gate_dst (N := 3) rfl ?_); refine box_event ?hg (N := 3) ?hd (cs := #[.int .i64 a1]) (t := 2) ?hr ?_; (case hd => rfl); (case hg => rfl); (case hr => first | (go_simp; done) | (go_simp; rfl)); intro B hgB w1 hbox hb; have BX1 := Aside0.mk hbox; have B1 := Aside0.mk hb; clear hbox hgB hb) | (go_at_call 67; refine (impl_ValidUnits.calls k A0 c0 l0 true _ (Kd.C_below HR0.out B1.out) HC0.out HT.out).mono ?_; rintro e w2 ⟨rfl, hb2⟩; have BX2 := Aside0.mk (blk_below BX1.out hb2); have B2 := Aside0.mk (B1.out.trans (hb2.mono B1.out.size)); have hx : w2.cell? ⟨B, 0, none⟩ = some (.int .i64 a1) := (blk_cell BX2.out 0).trans rfl; clear hb2) | (go_at_call 68; refine (impl_demandOk.calls a1 false _ HU.out).mono ?_; rintro e w3 ⟨rfl, hd⟩))
   go_ret2
   exact ⟨rfl, B2.out.trans ((Drawn0.below hd).mono B2.out.size)⟩
  | true =>
   simp only [if_true] at h
   split at h
   ·
    rename_i hlen
    obtain ⟨s, hs, h⟩ := Option.bind_eq_some_iff.mp h
    obtain ⟨rv, hrv, h⟩ := Option.bind_eq_some_iff.mp h
    split at h
    ·
     rename_i hall
     obtain ⟨hsl, hrl, hsum⟩ := hall
     have hsum2 : ∀ n, n ≤ l0.length → ∃ t, impl_sumOf.f k (rv.take n) = some t ∧ neededHas k rv a1 n = decide (t ≥ a1) := fun n hn => by
      have h2 := List.all_eq_true.1 hsum n (List.mem_range.2 (by omega))
      obtain ⟨t, ht⟩ := Option.isSome_iff_exists.1 h2
      refine ⟨t, ht, ?_⟩
      unfold neededHas
      rw [ht]
     have hml : (l0.map fun x => x.f2).length = l0.length := List.length_map ..
     have HS := Aside0.mk hs
     have HRV := Aside0.mk hrv
     have HSUM := Aside0.mk hsum2
     have HOR := Aside0.mk h
     have HL := Aside0.mk hlen
     have HSL := Aside0.mk hsl
     have HRL := Aside0.mk hrl
     have HML := Aside0.mk hml
     clear hs hrv hsum2 h hlen hsl hrl hml hsum
     go_enter Try.func29, Try.ntmps29
     go_wp2_with (first | ((with_reducible refine gate_dst (N := 3) rfl ?_); refine box_event ?hg (N := 3) ?hd (cs := #[.int .i64 a1]) (t := 2) ?hr ?_; (case hd => rfl); (case hg => rfl); (case hr => first | (go_simp; done) | (go_simp; rfl)); intro B hgB w1 hbox hb; have BX1 := Aside0.mk hbox; have B1 := Aside0.mk hb; clear hbox hgB hb) | (go_at_call 67; refine (impl_ValidUnits.calls k A0 c0 l0 true _ (Kd.C_below HR0.out B1.out) HC0.out HT.out).mono ?_; rintro e w2 ⟨rfl, hb2⟩; have BX2 := Aside0.mk (blk_below BX1.out hb2); have B2 := Aside0.mk (B1.out.trans (hb2.mono B1.out.size)); have hx : w2.cell? ⟨B, 0, none⟩ = some (.int .i64 a1) := (blk_cell BX2.out 0).trans rfl; clear hb2) | (go_at_call 68; refine (impl_demandOk.calls a1 true _ HU.out).mono ?_; rintro e w3 ⟨rfl, hd⟩; have BX3 := Aside0.mk (blk_below BX2.out (Drawn0.below hd)); have B3 := Aside0.mk (B2.out.trans ((Drawn0.below hd).mono B2.out.size)); clear hd hx) | ((with_reducible refine gate_dst (N := 6) rfl ?_); refine box_event ?hg (N := 6) ?hd (cs := #[.slice none 0 0]) (t := 23) ?hr ?_; (case hd => rfl); (case hg => rfl); (case hr => first | (go_simp; done) | (go_simp; rfl)); intro G hgG w4 hbox hb; have BM := Aside0.mk hbox; have B4 := Aside0.mk hb; have GG := Aside0.mk hgG; clear hbox hb hgG))
     go_loopg [19] l0.length (fun gg s19 wr => ∃ (i : Nat) (v : Value), i ≤ l0.length ∧ l0.length - i ≤ gg ∧ s19 = .int .i64 i ∧ Aside0 (wr.heap[G]? = some (.cells #[v] 23 (0, 0))) ∧ Aside0 (Kd.R (Kd.int .i64) 2 wr w3.heap.size (fun k_ => k_ ≠ G) v ((l0.take i).map fun x => x.f2)) ∧ Aside0 (Below w3.heap.size w3 wr))
     case atStart => exact ⟨0, .slice none 0 0, by omega, by omega, rfl, BM, ⟨Kd.R_nil _ _ _ _ _⟩, B4⟩
     case round =>
      clear BM B4
      obtain ⟨i, v, hi, hg, rfl, BM, HN, BW⟩ := hrel
      by_cases hlt : i < l0.length
      ·
       have hltz : (i : Int) < (l0.length : Int) := by omega
       obtain ⟨ad, rfl, hx0, hx1, hx2, hx3, hx4, hx5, hx6⟩ := at_T77 (Kd.C_below HR0.out (B3.out.trans (BW.out.mono B3.out.size))) (i : Int) (by omega) hltz
       rw [Int.toNat_natCast] at hx0 hx1 hx2 hx3 hx4 hx5 hx6
       have htk : (l0.take (i + 1)).map (fun x => x.f2) = (l0.take i).map (fun x => x.f2) ++ [(rd_T77 l0 (i : Int)).f2] := by
        rw [List.take_succ_eq_append_getElem hlt, List.map_append]
        congr 1
        unfold rd_T77
        rw [Int.toNat_natCast, List.getD_eq_getElem?_getD, List.getElem?_eq_getElem hlt]
        rfl
       have hln : ((l0.take i).map fun x => x.f2).length ≤ 12 := by
        have := HL.out
        simp
        omega
       have HTL := Aside0.mk (show ((l0.take i).map (fun x => x.f2) ++ [(rd_T77 l0 (i : Int)).f2]).length = i + 1 by rw [← htk, List.length_map, List.length_take]; omega)
       have hi12 : (i : Int) < 12 := by have := HL.out; omega
       have hi0 : 0 ≤ (i : Int) := by omega
       have HTK := Aside0.mk htk
       have HLN := Aside0.mk hln
       clear htk hln
       generalize (rd_T77 l0 (i : Int)).f0 = x0 at *
       generalize (rd_T77 l0 (i : Int)).f1 = x1 at *
       generalize (rd_T77 l0 (i : Int)).f2 = x2 at *
       generalize (rd_T77 l0 (i : Int)).f3 = x3 at *
       generalize (rd_T77 l0 (i : Int)).f4 = x4 at *
       generalize (rd_T77 l0 (i : Int)).f5 = x5 at *
       generalize (rd_T77 l0 (i : Int)).f6 = x6 at *
       go_wp2_with (first | ((with_reducible refine gate_dst (N := 8) rfl ?_); refine box_event ?hg (N := 8) ?hd (cs := #[.string (⟨#[]⟩ : ByteArray), .int .i64 0, .int .i64 0, .int .i64 0, .int .i64 0, .int .i64 0, .int .i64 0]) (t := 77) ?hr ?_; (case hd => rfl); (case hg => rfl); (case hr => first | (go_simp; done) | (go_simp; rfl)); intro g hgg w5 hbox hb; have HB5 := Aside0.mk hb; have BK5 := Aside0.mk hbox; have HG5 := Aside0.mk (show wr.heap.size ≤ g by rw [hgg]; exact Nat.le_refl _); have hcz_0 : w5.cell? ⟨g, 0, none⟩ = some (.string (⟨#[]⟩ : ByteArray)) := (blk_cell hbox 0).trans rfl; have hfz_0 := blk_frozen hbox 0; have hcz_1 : w5.cell? ⟨g, 1, none⟩ = some (.int .i64 0) := (blk_cell hbox 1).trans rfl; have hfz_1 := blk_frozen hbox 1; have hcz_2 : w5.cell? ⟨g, 2, none⟩ = some (.int .i64 0) := (blk_cell hbox 2).trans rfl; have hfz_2 := blk_frozen hbox 2; have hcz_3 : w5.cell? ⟨g, 3, none⟩ = some (.int .i64 0) := (blk_cell hbox 3).trans rfl; have hfz_3 := blk_frozen hbox 3; have hcz_4 : w5.cell? ⟨g, 4, none⟩ = some (.int .i64 0) := (blk_cell hbox 4).trans rfl; have hfz_4 := blk_frozen hbox 4; have hcz_5 : w5.cell? ⟨g, 5, none⟩ = some (.int .i64 0) := (blk_cell hbox 5).trans rfl; have hfz_5 := blk_frozen hbox 5; have hcz_6 : w5.cell? ⟨g, 6, none⟩ = some (.int .i64 0) := (blk_cell hbox 6).trans rfl; have hfz_6 := blk_frozen hbox 6; clear hgg hbox hb) | ((with_reducible refine gate_store (t := 77) (p := 8) rfl ?_); refine store_event (t := 77) (p := 8) (v := ?vo_w7) (w1 := (((((((w5.setCell ⟨g, 0, none⟩ (.string x0)).setCell ⟨g, 1, none⟩ (.int .i64 x1)).setCell ⟨g, 2, none⟩ (.int .i64 x2)).setCell ⟨g, 3, none⟩ (.int .i64 x3)).setCell ⟨g, 4, none⟩ (.int .i64 x4)).setCell ⟨g, 5, none⟩ (.int .i64 x5)).setCell ⟨g, 6, none⟩ (.int .i64 x6))) ?hg ?ho ?hn ?hr ?_; (case ho => rfl); (case hg => rfl); (case hn => rfl); (case hr => first | (go_simp; done) | (go_simp; rfl)); intro w7 hw; have BK7 := Aside0.mk (show w7.heap[g]? = some (.cells #[.string x0, .int .i64 x1, .int .i64 x2, .int .i64 x3, .int .i64 x4, .int .i64 x5, .int .i64 x6] 77 (0, 0)) by rw [hw]; exact (blk_put (blk_put (blk_put (blk_put (blk_put (blk_put (blk_put BK5.out 0 (.string x0) rfl) 1 (.int .i64 x1) rfl) 2 (.int .i64 x2) rfl) 3 (.int .i64 x3) rfl) 4 (.int .i64 x4) rfl) 5 (.int .i64 x5) rfl) 6 (.int .i64 x6) rfl)); have HB7 := Aside0.mk (show Below wr.heap.size wr w7 by rw [hw]; exact (below_set (below_set (below_set (below_set (below_set (below_set (below_set HB5.out HG5.out) HG5.out) HG5.out) HG5.out) HG5.out) HG5.out) HG5.out)); have hcm : w7.cell? ⟨G, 0, none⟩ = some v := (blk_cell (blk_below BM.out HB7.out) 0).trans rfl; have hcu : w7.cell? ⟨g, 2, none⟩ = some (.int .i64 x2) := (blk_cell BK7.out 2).trans rfl; clear hw hcz_0 hcz_1 hcz_2 hcz_3 hcz_4 hcz_5 hcz_6 hfz_0 hfz_1 hfz_2 hfz_3 hfz_4 hfz_5 hfz_6) | ((with_reducible refine gate_builtin (b := .append) (xs := #[.tmp 23, .tmp 26]) rfl ?_); (try (refine gate_guard (by rfl) ?_; dsimp only)); at_builtin; refine Kd.R_append (Kd.int .i64) (w0 := w3) w3.heap.size rfl (.tmp 23) (.tmp 26) 23 2 (.int .i64 0) 8 rfl Try.underlying23 info2 rfl (by decide) (by omega) v ((l0.take i).map fun x => x.f2) x2 [.int .i64 x2] (fun k_ => k_ ≠ G) (fun _ => False) rfl rfl rfl (fun _ hk => hk.elim) ?aF ?aO ?aB ?aS ?aL ?_; (case aF => intro k_ hk e_; subst e_; exact absurd (Nat.lt_of_lt_of_le (blk_lt BM.out) HB7.out.size) (Nat.not_lt.2 hk)); (case aO => exact Kd.R_below HN.out HB7.out); (case aB => exact BW.out.trans (HB7.out.mono BW.out.size)); (case aS => exact Nat.le_trans BW.out.size HB7.out.size); (case aL => have := HLN.out; omega); intro v6 w6 ho hb6 hg6 hat; obtain ⟨A6, c6, rfl⟩ := Kd.R_slice ho; rw [HTL.out] at ho; have BM6 := Aside0.mk (blk_grown (blk_below BM.out HB7.out) hg6 (fun e_ => HN.out.1 G e_.symm rfl)); have HN6 := Aside0.mk ho; have BW6 := Aside0.mk hb6; have hcm6 : w6.cell? ⟨G, 0, none⟩ = some v := (blk_cell BM6.out 0).trans rfl; have hfm6 := blk_frozen BM6.out 0; clear ho hb6 hg6 hat hcm hcu))
       go_roundg (l0.length - (i + 1))
       case measure => omega
       case rel =>
        refine ⟨i + 1, _, by omega, by omega, by go_num, ⟨blk_put BM6.out 0 _ rfl⟩, ⟨?_⟩, ⟨below_set BW6.out (by rw [GG.out]; exact Nat.le_refl _)⟩⟩
        rw [HTK.out]
        exact Kd.R_far (p := ⟨G, 0, none⟩) HN6.out (fun _ hk => hk) _
      ·
       have hi4 : i = l0.length := by omega
       subst hi4
       rw [List.take_length] at HN
       obtain ⟨go, cap, rfl, hbg, hgl, _⟩ := Kd.R_form HN.out (by rw [HML.out]; exact HL.out.1)
       have hcm : wr.cell? ⟨G, 0, none⟩ = some (.slice (some ⟨go, 0, none⟩) (l0.map fun x => x.f2).length cap) := (blk_cell BM.out 0).trans rfl
       have hS := Aside0.mk (sort_small k (fun k_ => k_ ≠ G) _ _ s w3 wr BW.out HN.out (by rw [HML.out]; exact HL.out.2) (by rw [HML.out]; exact HS.out))
       have HGL := Aside0.mk hgl
       clear hbg hgl
       rw [HML.out] at hcm hS BM
       go_wp2_with (first | (go_at_call 73; refine hS.out.mono ?_; rintro e w7 ⟨rfl, hR7, hB7, hK7⟩; have BM7 := Aside0.mk (blk_kept BM.out hK7 (fun h_ => h_ rfl)); have HR7 := Aside0.mk (Kd.R_mono (ok' := fun k_ => k_ ≠ G) hR7 (fun k_ h_ => h_.elim id (fun h2 e_ => by have := blk_lt BM.out; omega))); have BW7 := Aside0.mk hB7; have hcm7 : w7.cell? ⟨G, 0, none⟩ = some (.slice (some ⟨go, 0, none⟩) l0.length cap) := (blk_cell BM7.out 0).trans rfl; have hRV := Aside0.mk (slices_Reverse_int64_int64.calls k (fun k_ => k_ ≠ G) _ s rv w3 w7 BW7.out HR7.out HRV.out); clear hR7 hB7 hK7)  | (go_at_call 74; refine hRV.out.mono ?_; rintro e w8 ⟨rfl, hR8, hB8, hK8⟩; have BM8 := Aside0.mk (blk_kept BM7.out hK8 (fun h_ => h_ rfl)); have BW8 := Aside0.mk hB8; have HR8 := Aside0.mk hR8; have BX8 := Aside0.mk (blk_below BX3.out hB8); have hLS := Aside0.mk (least_ (neededHas k rv a1) l0.length (by have := HL.out; omega) 77 #[.pointer (some ⟨G, 0, none⟩), .pointer (some ⟨B, 0, none⟩)] (enters_of Try.func77 (by kernel_rfl) rfl) w8 (fun n hn W hW => by obtain ⟨t, ht, he⟩ := HSUM.out n hn; rw [he]; have hq := Kd.R_reads' HR8.out; exact needed_1 k w8 G B ⟨go, 0, none⟩ cap rv a1 (blk_lt BM8.out) (blk_lt BX8.out) (by rw [HRL.out]; exact (blk_cell BM8.out 0).trans rfl) ((blk_cell BX8.out 0).trans rfl) hq.2.2 (by have := hq.2.1; have := HRL.out; omega) n (by rw [HRL.out]; exact hn) t ht W hW)); clear hR8 hB8 hK8)  | (go_at_call 76; refine hLS.out.mono ?_; rintro e w9 ⟨rfl, hb9⟩; have BW9 := Aside0.mk (BW8.out.trans (hb9.mono BW8.out.size)); clear hb9)  | (go_at_call 75; refine (impl_orNotFound.calls _ _ r1 r2 _ HOR.out).mono ?_; rintro e w10 ⟨rfl, hd10⟩))
       go_ret2
       refine ⟨by first | rfl | simp, ?_⟩
       exact B3.out.trans ((BW9.out.trans ((Drawn0.below hd10).mono BW9.out.size)).mono B3.out.size)
    ·
     cases h
   ·
    cases h


end Go.Proofs.Ytebkgebibammiaa.PFnExactNeededUnits
