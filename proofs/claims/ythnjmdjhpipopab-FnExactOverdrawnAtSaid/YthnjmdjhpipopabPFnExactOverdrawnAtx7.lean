-- PRINTED by print.py (a twelfth state) out of the translation. Not trusted: Lean checks it.
import Derived.Test.YthnjmdjhpipopabPFnExactOverdrawnAtx0
import Derived.Test.YthnjmdjhpipopabPFnExactOverdrawnAtx5
import Derived.Test.YthnjmdjhpipopabPFnExactOverdrawnAtx6
namespace Go.Proofs.Ythnjmdjhpipopab.PFnExactOverdrawnAt
open Go.RowKit Go.Proofs.YthnjmdjhpipopabW.PrintWords Go.Proofs.YthnjmdjhpipopabW.PrintLast Go.Proofs.YthnjmdjhpipopabW.PrintMore
attribute [local go_sem] max2_int min2_int max_two min_two max_three min_three max_four min_four   -- for this text's walks alone
set_option linter.unusedVariables false
set_option linter.unusedSimpArgs false

/-! ### impl_accountsOf: function 29 -/
def accL (l : List S52) : List (List UInt8) := Lib.compact ((l.map fun x => x.f0.data.toList).mergeSort fun x y => decide (x ≤ y))
def impl_accountsOf.f (l0 : List S52) : Option (List ByteArray) := if l0.length ≤ 1048576 then some ((accL l0).map fun x => (⟨x.toArray⟩ : ByteArray)) else none
open Go.Shelf Go.Sort in
set_option maxHeartbeats 8000000 in
set_option maxRecDepth 100000 in
theorem impl_accountsOf.calls (A0 : Option Addr) (c0 : Nat) (l0 : List S52) (r : List ByteArray) (w : World) (hr0 : Kd.C k52 w A0 l0.length l0) (hc0 : l0.length ≤ c0) (h : impl_accountsOf.f l0 = some r) :
    Calls Try.prog 29 #[.slice A0 l0.length c0] w fun e w' => ∃ v0_ : Value, e = .returned (v0_) ∧ Kd.R Kd.string 9 w' w.heap.size (fun _ => True) v0_ r ∧ Below w.heap.size w w' := by
  unfold impl_accountsOf.f at h
  split at h
  · rename_i hlen
    have HV := Aside0.mk (Option.some.inj h)
    have HR0 := Aside0.mk hr0
    clear h hc0 hr0
    go_enter Try.func29, Try.ntmps29
    go_wp2
    go_loopg [3, 8] l0.length (fun gg s3 s8 wr => ∃ i : Nat, i ≤ l0.length ∧ l0.length - i ≤ gg ∧ s8 = .int .i64 i ∧ Aside0 (Kd.R Kd.string 9 wr w.heap.size (fun _ => True) s3 ((l0.take i).map fun x => x.f0)) ∧ Aside0 (Below w.heap.size w wr))
    case atStart => exact ⟨0, by omega, by omega, rfl, ⟨Kd.R_nil _ _ _ _ _⟩, ⟨Below.refl _ _⟩⟩
    case round =>
      obtain ⟨i, hi, hg, rfl, HN, BW⟩ := hrel
      by_cases hlt : i < l0.length
      · have hltz : (i : Int) < (l0.length : Int) := by omega
        obtain ⟨ad, rfl, hx0, hx1, hx2⟩ := at_T52 (Kd.C_below HR0.out BW.out) (i : Int) (by omega) hltz
        rw [Int.toNat_natCast] at hx0 hx1 hx2
        have ht : (l0.take (i + 1)).map (fun x => x.f0) = (l0.take i).map (fun x => x.f0) ++ [(rd_T52 l0 (i : Int)).f0] := by
          rw [List.take_succ_eq_append_getElem hlt, List.map_append]
          congr 1
          unfold rd_T52
          rw [Int.toNat_natCast, List.getD_eq_getElem?_getD, List.getElem?_eq_getElem hlt]
          rfl
        have hln : ((l0.take i).map fun x => x.f0).length ≤ 1048576 := by simp; omega
        have HT := Aside0.mk ht
        have HL := Aside0.mk hln
        clear ht hln
        generalize (rd_T52 l0 (i : Int)).f0 = x0 at *
        generalize (rd_T52 l0 (i : Int)).f1 = x1 at *
        generalize (rd_T52 l0 (i : Int)).f2 = x2 at *
        go_wp2_with ((with_reducible refine gate_builtin (b := .append) (xs := #[.tmp 12, .tmp 15]) rfl ?_); (try (refine gate_guard (by rfl) ?_; dsimp only)); at_builtin; refine Kd.R_append Kd.string (w0 := w) w.heap.size rfl (.tmp 12) (.tmp 15) 24 9 (.string ⟨#[]⟩) 16 rfl Try.underlying24 info9 rfl (by decide) (by omega) _ ((l0.take i).map fun x => x.f0) x0 [.string x0] (fun _ => True) (fun _ => False) rfl ?aX rfl (fun _ hk => hk.elim) (fun _ _ => trivial) ?aO ?aB ?aS ?aL ?_; (case aX => first | rfl | (show Value.slice (some ⟨_, 0, none⟩) 1 1 = _; simp)); (case aO => exact (by (with_reducible repeat (first | apply Kd.R_alloc | apply Kd.R_drewN | apply Kd.R_drew)); exact HN.out)); (case aB => exact (by repeat (first | (with_reducible first | exact BW.out | apply below_alloc | apply pw_below_drewN | apply below_drew1) | exact BW.out))); (case aS => exact (below_size (by repeat (first | (with_reducible first | exact BW.out | apply below_alloc | apply pw_below_drewN | apply below_drew1) | exact BW.out)))); (case aL => have := HL.out; omega); intro v5 w5 ho hb hg hat; have HN5 := Aside0.mk ho; have BW5 := Aside0.mk hb; clear ho hb hg hat)
        go_roundg (l0.length - (i + 1))
        case measure => omega
        case rel =>
          refine ⟨i + 1, by omega, by omega, by go_num, ⟨?_⟩, ⟨BW5.out⟩⟩
          rw [HT.out]
          exact HN5.out
      · have hi4 : i = l0.length := by omega
        subst hi4
        rw [List.take_length] at HN
        have hown := Kd.own_of_R HN.out
        obtain ⟨A1, c1, rfl⟩ := Kd.R_slice HN.out
        by_cases h0 : l0.length = 0
        · have hl0 : l0 = [] := List.eq_nil_of_length_eq_zero h0
          subst hl0
          clear hown
          have hs0 := fun W => Try.slices_Sort_string_none A1 c1 W
          have hk0 := fun W => Try.slices_Compact_string_empty A1 c1 W
          go_wp2_with (first | (go_at_call 52; refine (hs0 _).mono ?_; rintro e w' ⟨rfl, rfl⟩) | (go_at_call 53; refine (hk0 _).mono ?_; rintro e w' ⟨rfl, rfl⟩))
          go_ret
          have hz : accL ([] : List S52) = [] := by simp [accL, Lib.compact, Lib.compactUpTo]
          refine ⟨_, rfl, ?_, BW.out⟩
          rw [← HV.out, hz]
          exact (show Kd.R Kd.string 9 _ w.heap.size (fun _ => True) (.slice A1 0 c1) [] from HN.out)
        · have hne : (Value.slice A1 (l0.map fun x => x.f0).length c1) ≠ .slice none 0 0 := by
            intro e
            injection e with _ e2 _
            simp at e2
            exact h0 (by rw [e2]; rfl)
          have e1 : encs Value.string (l0.map fun x => x.f0) = (l0.map fun x => x.f0.data.toList).map encStr := by
            rw [show (l0.map fun x => x.f0.data.toList) = (l0.map fun x => x.f0).map (·.data.toList) from by rw [List.map_map]; rfl, Lib.map_encStr]
            rfl
          rw [e1] at hown
          have hlen : (l0.map fun x => x.f0).length = l0.length := by simp
          have hlen2 : (l0.map fun x => x.f0.data.toList).length = l0.length := by simp
          rw [hlen] at hown hne
          have HV2 := HV.out
          unfold accL at HV2
          generalize (l0.map fun x => x.f0.data.toList) = ss at hown hlen2 HV2
          have HV3 := Aside0.mk HV2
          clear HV HV2 HN e1
          obtain ⟨g, cap, hv, hbg, hgl, hncap, hcm, hlz, hH⟩ := Lib.holds_of_ownsRow hown hne
          injection hv with hv1 _ hv3
          subst hv1
          subst hv3
          have hsort := Try.slices_Sort_string g 0 c1 ss _ hH hgl (by omega)
          rw [hlz] at hsort
          have X := Aside0.mk (And.intro hown hH)
          have Y := Aside0.mk (And.intro hgl hbg)
          clear hown hH hne
          go_wp2_with (go_at_call 52; refine hsort.mono ?_; rintro e w2 ⟨rfl, nn, os, rfl⟩)
          have hl2 : (ss.mergeSort fun x y => decide (x ≤ y)).length = l0.length := by rw [List.length_mergeSort]; exact hlz
          have hH2 : Holds encStr (grow (putRow encStr (Sort.ahead _ nn) g 0 (ss.mergeSort fun x y => decide (x ≤ y)).toArray) os) g 0 (ss.mergeSort fun x y => decide (x ≤ y)).toArray :=
            holds_grow encStr _ os g 0 _ (by simpa [putRow, mapBlock, Sort.ahead] using Y.out.1) (holds_putRow encStr _ g 0 _ _ (holds_ahead encStr _ nn g 0 _ X.out.2) (by simp))
          have hcomp := Try.slices_Compact_string g 0 c1 (ss.mergeSort fun x y => decide (x ≤ y)) _ hH2 (by omega) (by omega)
          rw [hl2] at hcomp
          clear hH2 hsort
          go_wp2_with (go_at_call 53; refine hcomp.mono ?_; rintro e w3 ⟨rfl, q, rfl⟩)
          go_ret
          have hle := Lib.compact_length_le (ss.mergeSort fun x y => decide (x ≤ y))
          rcases X.out.1.2 with ⟨h0', _⟩ | ⟨g', cap', cur, hv', hbase, hb', h1, h2, h3, h4⟩
          · cases h0'
          · cases hv'
            have hs := ownsRow_sorted (n := nn) (os := os) (ss := ss) (ts := ss.mergeSort fun x y => decide (x ≤ y)) (hl2.trans hlz.symm) hbase hb' (by omega) h2 h3
            rw [hlz] at hs
            have hc := Lib.ownsRow_putRow (q := q) (k := (Lib.compact (ss.mergeSort fun x y => decide (x ≤ y))).length) (ys := Lib.compact (ss.mergeSort fun x y => decide (x ≤ y)) ++ List.replicate (l0.length - (Lib.compact (ss.mergeSort fun x y => decide (x ≤ y))).length) []) hs (by simp; omega) (by omega)
            rw [List.take_left] at hc
            refine ⟨_, rfl, ?_, Lib.below_putRow (BW.out.grown (grownBy_sorted _) BW.out.size (fun j hj => by cases hj; exact hbase)) hbase⟩
            rw [← HV3.out]
            refine Kd.R_of_own ?_ (fun _ _ => trivial)
            have e2 : encs Value.string ((Lib.compact (ss.mergeSort fun x y => decide (x ≤ y))).map fun x => (⟨x.toArray⟩ : ByteArray)) = (Lib.compact (ss.mergeSort fun x y => decide (x ≤ y))).map encStr := by
              unfold encs
              rw [List.map_map]
              rfl
            rw [e2, List.length_map]
            exact hc
  · cases h

/-! ### impl_balanceOf: function 37 -/
def impl_balanceOf.l0 : Nat → ByteArray → Int → Int → List (S52) → Int → Int → Option (Int)
  | 0, _, _, _, _, _, _ => none
  | k + 1, x1, x2, x7, x10, x11, x12 => if x12 < x11 then (if 0 ≤ x12 then (if x12 < (x10.length : Int) then (if ((rd_T52 x10 x12).f0).toList = x1.toList then (if ((rd_T52 x10 x12).f2) ≤ x2 then (impl_balanceOf.l0 k x1 x2 (wrap64 (x7 + ((rd_T52 x10 x12).f1))) x10 x11 (wrap64 (x12 + 1))) else (impl_balanceOf.l0 k x1 x2 x7 x10 x11 (wrap64 (x12 + 1)))) else (impl_balanceOf.l0 k x1 x2 x7 x10 x11 (wrap64 (x12 + 1)))) else (none)) else (none)) else (some x7)
def impl_balanceOf.f (k : Nat) (l0 : List (S52)) (a1 : ByteArray) (a2 : Int) : Option (Int) := impl_balanceOf.l0 k a1 a2 0 l0 (l0.length : Int) 0
theorem impl_balanceOf.mono_l : ∀ k, (∀ y0 y1 y2 y3 y4 y5, LeO (impl_balanceOf.l0 k y0 y1 y2 y3 y4 y5) (impl_balanceOf.l0 (k + 1) y0 y1 y2 y3 y4 y5))
  | 0 => fun _ _ _ _ _ _ r h => by simp [impl_balanceOf.l0] at h
  | k + 1 => by
    have ih0 := impl_balanceOf.mono_l k
    · intro y0 y1 y2 y3 y4 y5
      unfold impl_balanceOf.l0
      repeat' first
      | (with_reducible exact ih0 _ _ _ _ _ _)
      | (with_reducible exact LeO.refl _)
      | (with_reducible exact LeO.none _)
      | (with_reducible refine LeO.ite ?_ ?_)
      | (with_reducible refine LeO.bind ?_ (fun _ => ?_))
      | exact ih0 _ _ _ _ _ _
      | exact LeO.none _
      | refine LeO.ite ?_ ?_
      | refine LeO.bind ?_ (fun _ => ?_)
theorem impl_balanceOf.mono : ∀ a0 a1 a2 k, LeO (impl_balanceOf.f k a0 a1 a2) (impl_balanceOf.f (k + 1) a0 a1 a2) := by
  intro a0 a1 a2 k
  have ih0 := impl_balanceOf.mono_l k
  unfold impl_balanceOf.f
  repeat' first
      | (with_reducible exact ih0 _ _ _ _ _ _)
      | (with_reducible exact LeO.refl _)
      | (with_reducible exact LeO.none _)
      | (with_reducible refine LeO.ite ?_ ?_)
      | (with_reducible refine LeO.bind ?_ (fun _ => ?_))
      | exact ih0 _ _ _ _ _ _
      | exact LeO.none _
      | refine LeO.ite ?_ ?_
      | refine LeO.bind ?_ (fun _ => ?_)
set_option maxHeartbeats 8000000 in
set_option maxRecDepth 100000 in
theorem impl_balanceOf.calls (k : Nat) (A0 : Option Addr) (c0 : Nat) (l0 : List (S52)) (a1 : ByteArray) (a2 : Int) (r : Int) (w : World) (hr0 : Kd.C k52 w A0 l0.length l0) (hc0 : l0.length ≤ c0) (h : impl_balanceOf.f k l0 a1 a2 = some r) :
    Calls Try.prog 37 #[.slice A0 l0.length c0, .string a1, .int .i64 a2] w fun e w' => e = .returned (.int .i64 r) ∧ Below w.heap.size w w' := by
  have hu52 := Try.underlying52
  have HR0 := Aside0.mk hr0
  have HC0 := Aside0.mk hc0
  clear hr0 hc0
  have HB := Aside0.mk (Below.refl w.heap.size w)
  have H : (impl_balanceOf.l0 k a1 a2 0 l0 (l0.length : Int) 0) = some r := h
  clear h
  have H' := Aside0.mk H
  clear H
  go_enter Try.func37, Try.ntmps37
  go_wp2
  go_loopg [7, 12] k (fun kq v7 v12 w' => ∃ (x7_1 : Int) (x12_1 : Int), v7 = .int .i64 x7_1 ∧ v12 = .int .i64 x12_1 ∧ Aside0 (impl_balanceOf.l0 kq a1 a2 x7_1 l0 (l0.length : Int) x12_1 = some r) ∧ Aside0 (kq ≤ k) ∧ Aside0 (Below w.heap.size w w'))
  case atStart => exact ⟨(0), (0), (by first | rfl | (simp; done) | (simp [*]; done)), (by first | rfl | (simp; done) | (simp [*]; done)), H', ⟨Nat.le_refl _⟩, ⟨by repeat (first | (with_reducible first | exact HB.out | apply below_alloc | apply pw_below_drewN | apply below_drew1) | exact HB.out)⟩⟩
  case round =>
    clear H'
    try clear p2
    try clear c3
    obtain ⟨x7_1, x12_1, rfl, rfl, HA, HK1, HB⟩ := hrel
    cases gk with
    | zero => exact absurd HA.out (by simp [impl_balanceOf.l0])
    | succ k1 =>
      have H := HA.out
      clear HA
      simp only [impl_balanceOf.l0] at H
      by_cases c4 : x12_1 < (l0.length : Int)
      · rw [if_pos c4] at H
        have c4b0 : decide (x12_1 < (l0.length : Int)) = true := decide_eq_true c4
        clear c4
        by_cases c5 : 0 ≤ x12_1
        · rw [if_pos c5] at H
          have c5b0 : decide (0 ≤ x12_1) = true := decide_eq_true c5
          clear c5
          by_cases c6 : x12_1 < (l0.length : Int)
          · rw [if_pos c6] at H
            have c6b0 : decide (x12_1 < (l0.length : Int)) = true := decide_eq_true c6
            clear c6
            by_cases c7 : ((rd_T52 l0 x12_1).f0).toList = a1.toList
            · rw [if_pos c7] at H
              have c7b0 : (((rd_T52 l0 x12_1).f0).toList == a1.toList) = true := beq_iff_eq.mpr c7
              have c7b1 : (((rd_T52 l0 x12_1).f0).toList != a1.toList) = false := bne_eq_false_iff_eq.mpr c7
              clear c7
              by_cases c8 : ((rd_T52 l0 x12_1).f2) ≤ a2
              · rw [if_pos c8] at H
                have c8b0 : decide (((rd_T52 l0 x12_1).f2) ≤ a2) = true := decide_eq_true c8
                clear c8
                have H' := Aside0.mk H
                clear H
                have p225 : 0 ≤ (x12_1 : Int) := of_decide_eq_true (by first | (with_reducible assumption) | assumption)
                have q225 : x12_1 < (l0.length : Int) := of_decide_eq_true (by first | (with_reducible assumption) | assumption)
                obtain ⟨ad225, e225, hx225_0, hx225_1, hx225_2⟩ := at_T52 HR0.out x12_1 p225 q225
                cases e225
                replace hx225_0 := (HB.out.cell (World.block_lt_of_cell? w _ hx225_0)).trans hx225_0
                replace hx225_1 := (HB.out.cell (World.block_lt_of_cell? w _ hx225_1)).trans hx225_1
                replace hx225_2 := (HB.out.cell (World.block_lt_of_cell? w _ hx225_2)).trans hx225_2
                replace p225 := eq_true p225
                replace q225 := eq_true q225
                go_wp2_with (first | ((with_reducible refine gate_dst (N := 9) rfl ?_); refine box_event ?hg (N := 9) ?hd (cs := #[.string (⟨#[]⟩ : ByteArray), .int .i64 0, .int .i64 0]) (t := 52) ?hr ?_; (case hd => rfl); (case hg => rfl); (case hr => first | (go_simp; done) | (go_simp; rfl)); intro gb226 hg w9 hbox hb; have n0_ := Aside0.mk (below_step (by repeat (first | (with_reducible first | exact HB.out | apply below_alloc | apply pw_below_drewN | apply below_drew1) | exact HB.out)) hb); have n1_ := Aside0.mk (hbox); have n2_ := Aside0.mk ((by rw [hg]; exact (below_size (by repeat (first | (with_reducible first | exact HB.out | apply below_alloc | apply pw_below_drewN | apply below_drew1) | exact HB.out))) : w.heap.size ≤ gb226)); have n3_ := Aside0.mk ((by rw [hg]; exact (below_size (by repeat (first | (with_reducible first | exact HB.out | apply below_alloc | apply pw_below_drewN | apply below_drew1) | exact HB.out))) : w.heap.size ≤ gb226)); clear HB; have HB := n0_; have BK226 := n1_; have GW226 := n2_; have GE226 := n3_; clear n0_ n1_ n2_ n3_; clear hb hbox hg; have hcz10_0 : w9.cell? ⟨gb226, 0, none⟩ = some (.string (⟨#[]⟩ : ByteArray)) := (blk_cell BK226.out 0).trans rfl; have hcz10_1 : w9.cell? ⟨gb226, 1, none⟩ = some (.int .i64 0) := (blk_cell BK226.out 1).trans rfl; have hcz10_2 : w9.cell? ⟨gb226, 2, none⟩ = some (.int .i64 0) := (blk_cell BK226.out 2).trans rfl; have hfz10_0 := blk_frozen BK226.out 0; have hfz10_1 := blk_frozen BK226.out 1; have hfz10_2 := blk_frozen BK226.out 2))
                go_roundg k1
                case measure => have := HK1.out; omega
                case rel => exact ⟨(wrap64 (x7_1 + ((rd_T52 l0 x12_1).f1))), (wrap64 (x12_1 + 1)), (by first | rfl | (simp; done) | (simp [*]; done)), (by first | rfl | (simp; done) | (simp [*]; done)), H', ⟨by have := HK1.out; omega⟩, ⟨by repeat (first | (with_reducible first | exact HB.out | apply below_alloc | apply pw_below_drewN | apply below_drew1 | refine below_set ?_ GE226.out) | exact HB.out)⟩⟩
              · rw [if_neg c8] at H
                have c8b0 : decide (((rd_T52 l0 x12_1).f2) ≤ a2) = false := decide_eq_false c8
                clear c8
                have H' := Aside0.mk H
                clear H
                have p225 : 0 ≤ (x12_1 : Int) := of_decide_eq_true (by first | (with_reducible assumption) | assumption)
                have q225 : x12_1 < (l0.length : Int) := of_decide_eq_true (by first | (with_reducible assumption) | assumption)
                obtain ⟨ad225, e225, hx225_0, hx225_1, hx225_2⟩ := at_T52 HR0.out x12_1 p225 q225
                cases e225
                replace hx225_0 := (HB.out.cell (World.block_lt_of_cell? w _ hx225_0)).trans hx225_0
                replace hx225_1 := (HB.out.cell (World.block_lt_of_cell? w _ hx225_1)).trans hx225_1
                replace hx225_2 := (HB.out.cell (World.block_lt_of_cell? w _ hx225_2)).trans hx225_2
                replace p225 := eq_true p225
                replace q225 := eq_true q225
                go_wp2_with (first | ((with_reducible refine gate_dst (N := 9) rfl ?_); refine box_event ?hg (N := 9) ?hd (cs := #[.string (⟨#[]⟩ : ByteArray), .int .i64 0, .int .i64 0]) (t := 52) ?hr ?_; (case hd => rfl); (case hg => rfl); (case hr => first | (go_simp; done) | (go_simp; rfl)); intro gb226 hg w11 hbox hb; have n0_ := Aside0.mk (below_step (by repeat (first | (with_reducible first | exact HB.out | apply below_alloc | apply pw_below_drewN | apply below_drew1) | exact HB.out)) hb); have n1_ := Aside0.mk (hbox); have n2_ := Aside0.mk ((by rw [hg]; exact (below_size (by repeat (first | (with_reducible first | exact HB.out | apply below_alloc | apply pw_below_drewN | apply below_drew1) | exact HB.out))) : w.heap.size ≤ gb226)); have n3_ := Aside0.mk ((by rw [hg]; exact (below_size (by repeat (first | (with_reducible first | exact HB.out | apply below_alloc | apply pw_below_drewN | apply below_drew1) | exact HB.out))) : w.heap.size ≤ gb226)); clear HB; have HB := n0_; have BK226 := n1_; have GW226 := n2_; have GE226 := n3_; clear n0_ n1_ n2_ n3_; clear hb hbox hg; have hcz12_0 : w11.cell? ⟨gb226, 0, none⟩ = some (.string (⟨#[]⟩ : ByteArray)) := (blk_cell BK226.out 0).trans rfl; have hcz12_1 : w11.cell? ⟨gb226, 1, none⟩ = some (.int .i64 0) := (blk_cell BK226.out 1).trans rfl; have hcz12_2 : w11.cell? ⟨gb226, 2, none⟩ = some (.int .i64 0) := (blk_cell BK226.out 2).trans rfl; have hfz12_0 := blk_frozen BK226.out 0; have hfz12_1 := blk_frozen BK226.out 1; have hfz12_2 := blk_frozen BK226.out 2))
                go_roundg k1
                case measure => have := HK1.out; omega
                case rel => exact ⟨(x7_1), (wrap64 (x12_1 + 1)), (by first | rfl | (simp; done) | (simp [*]; done)), (by first | rfl | (simp; done) | (simp [*]; done)), H', ⟨by have := HK1.out; omega⟩, ⟨by repeat (first | (with_reducible first | exact HB.out | apply below_alloc | apply pw_below_drewN | apply below_drew1 | refine below_set ?_ GE226.out) | exact HB.out)⟩⟩
            · rw [if_neg c7] at H
              have c7b0 : (((rd_T52 l0 x12_1).f0).toList == a1.toList) = false := beq_eq_false_iff_ne.mpr c7
              have c7b1 : (((rd_T52 l0 x12_1).f0).toList != a1.toList) = true := bne_iff_ne.mpr c7
              have H' := Aside0.mk H
              clear H
              have p225 : 0 ≤ (x12_1 : Int) := of_decide_eq_true (by first | (with_reducible assumption) | assumption)
              have q225 : x12_1 < (l0.length : Int) := of_decide_eq_true (by first | (with_reducible assumption) | assumption)
              obtain ⟨ad225, e225, hx225_0, hx225_1, hx225_2⟩ := at_T52 HR0.out x12_1 p225 q225
              cases e225
              replace hx225_0 := (HB.out.cell (World.block_lt_of_cell? w _ hx225_0)).trans hx225_0
              replace hx225_1 := (HB.out.cell (World.block_lt_of_cell? w _ hx225_1)).trans hx225_1
              replace hx225_2 := (HB.out.cell (World.block_lt_of_cell? w _ hx225_2)).trans hx225_2
              replace p225 := eq_true p225
              replace q225 := eq_true q225
              go_wp2_with (first | ((with_reducible refine gate_dst (N := 9) rfl ?_); refine box_event ?hg (N := 9) ?hd (cs := #[.string (⟨#[]⟩ : ByteArray), .int .i64 0, .int .i64 0]) (t := 52) ?hr ?_; (case hd => rfl); (case hg => rfl); (case hr => first | (go_simp; done) | (go_simp; rfl)); intro gb226 hg w13 hbox hb; have n0_ := Aside0.mk (below_step (by repeat (first | (with_reducible first | exact HB.out | apply below_alloc | apply pw_below_drewN | apply below_drew1) | exact HB.out)) hb); have n1_ := Aside0.mk (hbox); have n2_ := Aside0.mk ((by rw [hg]; exact (below_size (by repeat (first | (with_reducible first | exact HB.out | apply below_alloc | apply pw_below_drewN | apply below_drew1) | exact HB.out))) : w.heap.size ≤ gb226)); have n3_ := Aside0.mk ((by rw [hg]; exact (below_size (by repeat (first | (with_reducible first | exact HB.out | apply below_alloc | apply pw_below_drewN | apply below_drew1) | exact HB.out))) : w.heap.size ≤ gb226)); clear HB; have HB := n0_; have BK226 := n1_; have GW226 := n2_; have GE226 := n3_; clear n0_ n1_ n2_ n3_; clear hb hbox hg; have hcz14_0 : w13.cell? ⟨gb226, 0, none⟩ = some (.string (⟨#[]⟩ : ByteArray)) := (blk_cell BK226.out 0).trans rfl; have hcz14_1 : w13.cell? ⟨gb226, 1, none⟩ = some (.int .i64 0) := (blk_cell BK226.out 1).trans rfl; have hcz14_2 : w13.cell? ⟨gb226, 2, none⟩ = some (.int .i64 0) := (blk_cell BK226.out 2).trans rfl; have hfz14_0 := blk_frozen BK226.out 0; have hfz14_1 := blk_frozen BK226.out 1; have hfz14_2 := blk_frozen BK226.out 2))
              go_roundg k1
              case measure => have := HK1.out; omega
              case rel => exact ⟨(x7_1), (wrap64 (x12_1 + 1)), (by first | rfl | (simp; done) | (simp [*]; done)), (by first | rfl | (simp; done) | (simp [*]; done)), H', ⟨by have := HK1.out; omega⟩, ⟨by repeat (first | (with_reducible first | exact HB.out | apply below_alloc | apply pw_below_drewN | apply below_drew1 | refine below_set ?_ GE226.out) | exact HB.out)⟩⟩
          · rw [if_neg c6] at H
            exact absurd H (by simp)
        · rw [if_neg c5] at H
          exact absurd H (by simp)
      · rw [if_neg c4] at H
        have c4b0 : decide (x12_1 < (l0.length : Int)) = false := decide_eq_false c4
        clear c4
        obtain rfl := Option.some.inj H
        go_wp2
        go_ret
        exact ⟨by first | rfl | (simp [errW_none, errW_some] <;> rfl) | (simp [*, errW_none, errW_some] <;> rfl), by repeat (first | (with_reducible first | exact HB.out | apply below_alloc | apply pw_below_drewN | apply below_drew1) | exact HB.out)⟩

/-! ### impl_OverdrawnAt: function 16 -/
def GivesB (P : Program) (g : Nat) (lb : Array Value) (w0 : World) (x : Value) (b : Bool) : Prop :=
  ∀ W, Below w0.heap.size w0 W → Calls P g (#[x] ++ lb) W fun e w' => e = .returned (.bool b) ∧ Below w0.heap.size w0 w'
def idxF {α : Type} (p : α → Bool) : List α → Nat → Int
  | [], _ => -1
  | x :: xs, n => if p x then n else idxF p xs (n + 1)
theorem idxF_drop_hit {α : Type} (p : α → Bool) (d : α) : ∀ (l : List α) (k n : Nat), k < l.length → (∀ j, j < k → p (l.getD j d) = false) → p (l.getD k d) = true → idxF p l n = ((n + k : Nat) : Int)
  | [], k, n, h, _, _ => absurd h (by simp)
  | x :: xs, 0, n, h, h1, h2 => by simp at h2; simp [idxF, h2]
  | x :: xs, k + 1, n, h, h1, h2 => by
    have h0 := h1 0 (by omega)
    simp at h0
    simp only [idxF, h0]
    have := idxF_drop_hit p d xs k (n + 1) (by simpa using h) (fun j hj => by have := h1 (j + 1) (by omega); simpa using this) (by simpa using h2)
    simp only [Bool.false_eq_true, if_false, this]
    congr 1; omega
theorem idxF_miss {α : Type} (p : α → Bool) (d : α) : ∀ (l : List α) (n : Nat), (∀ j, j < l.length → p (l.getD j d) = false) → idxF p l n = -1
  | [], n, _ => rfl
  | x :: xs, n, h1 => by
    have h0 := h1 0 (by simp)
    simp at h0
    simp only [idxF, h0]
    have := idxF_miss p d xs (n + 1) (fun j hj => by have := h1 (j + 1) (by simpa using hj); simpa using this)
    simpa using this
theorem idxF_any {α : Type} (p : α → Bool) : ∀ (l : List α) (n : Nat), decide (0 ≤ idxF p l n) = l.any p
  | [], n => by simp [idxF]
  | x :: xs, n => by
    unfold idxF
    by_cases h : p x = true
    · simp [h]
    · simp only [Bool.not_eq_true] at h
      simp only [h, Bool.false_eq_true, if_false, List.any_cons, Bool.false_or]
      exact idxF_any p xs (n + 1)

/-- What a predicate that is handed over says of a value, in every world in which what was there stays. -/
def Gives2 (P : Program) (g : Nat) (lb : Array Value) (w0 : World) (x : Value) (b : Bool) : Prop :=
  ∀ W, Below w0.heap.size w0 W → Calls P g (#[x] ++ lb) W fun e w' => e = .returned (.bool b) ∧ Below W.heap.size W w'
theorem Gives2.later {P : Program} {g : Nat} {lb : Array Value} {w0 W : World} {x : Value} {b : Bool} (h : Gives2 P g lb w0 x b) (hb : Below w0.heap.size w0 W) : Gives2 P g lb W x b :=
  fun W2 h2 => h W2 (hb.trans (h2.mono hb.size))

set_option maxHeartbeats 2000000 in
theorem slices_IndexFunc_str (p : ByteArray → Bool) (g : Nat) (lb : Array Value) (eg : ∀ args w, (callFunc g args).run Try.prog w = .ok (.enter g args) w)
    (A : Option Addr) (c : Nat) (l : List ByteArray) (w : World) (hr : Kd.C Kd.string w A l.length l) (hbig : l.length < 9223372036854775807)
    (hp : ∀ x, x ∈ l → Gives2 Try.prog g lb w (.string x) (p x)) :
    Calls Try.prog 54 #[.slice A l.length c, .func (.func g) #[] lb] w fun e w' => e = .returned (.int .i64 (idxF p l 0)) ∧ Below w.heap.size w w' := by
  have HR := Aside0.mk hr
  have HP := Aside0.mk hp
  clear hr hp
  go_enter Try.func54, Try.ntmps54
  go_wp2
  go_loopg [5, 8] l.length (fun gg _ s8 wr => ∃ kk : Nat, kk ≤ l.length ∧ l.length - kk ≤ gg ∧ s8 = .int .i64 kk ∧ Aside0 (Below w.heap.size w wr) ∧ Aside0 (∀ j, j < kk → p (l.getD j ByteArray.empty) = false))
  case atStart => exact ⟨0, Nat.zero_le _, by omega, rfl, ⟨Below.refl _ w⟩, ⟨fun j hj => absurd hj (Nat.not_lt_zero _)⟩⟩
  case round =>
    obtain ⟨kk, hkk, hg, rfl, BW, A0⟩ := hrel
    by_cases hlt : kk < l.length
    · have hltz : (kk : Int) < (l.length : Int) := by omega
      have HR1 := Aside0.mk (Kd.C_below HR.out BW.out)
      obtain ⟨ad, rfl, hx⟩ := Kd.at_string HR1.out (kk : Int) (by omega) hltz
      rw [Int.toNat_natCast] at hx
      have hmem : rdOf ByteArray.empty l (kk : Int) ∈ l := by
        unfold rdOf
        rw [Int.toNat_natCast, List.getD_eq_getElem?_getD, List.getElem?_eq_getElem hlt]
        exact List.getElem_mem _
      have hcall := HP.out _ hmem wr BW.out
      have ey : rdOf ByteArray.empty l (kk : Int) = l.getD kk ByteArray.empty := by unfold rdOf; rw [Int.toNat_natCast]
      generalize rdOf ByteArray.empty l (kk : Int) = y at hx hcall ey
      have B := Aside0.mk ey
      clear ey hmem
      cases hq : p y with
      | true =>
        rw [hq] at hcall
        have HQ := Aside0.mk hq
        clear hq
        go_wp2_with (go_at_fn g; refine hcall.mono ?_; rintro e w' ⟨rfl, hb'⟩)
        go_ret
        refine ⟨?_, BW.out.trans (hb'.mono BW.out.size)⟩
        rw [idxF_drop_hit p ByteArray.empty l kk 0 hlt A0.out (by rw [← B.out]; exact HQ.out), Nat.zero_add]
        rfl
      | false =>
        rw [hq] at hcall
        have HQ := Aside0.mk hq
        clear hq
        go_wp2_with (go_at_fn g; refine hcall.mono ?_; rintro e w' ⟨rfl, hb'⟩)
        go_roundg (l.length - (kk + 1))
        case measure => omega
        case rel =>
          refine ⟨kk + 1, by omega, by omega, by go_num, ⟨BW.out.trans (hb'.mono BW.out.size)⟩, ⟨fun j hj => ?_⟩⟩
          by_cases e : j = kk
          · subst e
            rw [← B.out]; exact HQ.out
          · exact A0.out j (by omega)
    · have hltz : ¬ (kk : Int) < (l.length : Int) := by omega
      have : kk = l.length := by omega
      subst this
      go_wp2
      go_ret
      refine ⟨?_, BW.out⟩
      rw [idxF_miss p ByteArray.empty l 0 A0.out]
      rfl

theorem idxF_split {α : Type} (p : α → Bool) (d : α) : ∀ (l : List α), (idxF p l 0 = -1 ∧ l.filter (fun x => !p x) = l) ∨ ∃ k, k < l.length ∧ idxF p l 0 = (k : Int) ∧ (l.take (k + 1)).filter (fun x => !p x) = l.take k ∧ p (l.getD k d) = true := by
  intro l
  by_cases h : ∃ k, k < l.length ∧ p (l.getD k d) = true
  · obtain ⟨k, hk, hm⟩ : ∃ k, (k < l.length ∧ p (l.getD k d) = true) ∧ ∀ j, j < k → ¬ (j < l.length ∧ p (l.getD j d) = true) := by
      obtain ⟨k0, hk0⟩ := h
      induction k0 using Nat.strongRecOn with
      | ind k0 ih =>
        by_cases h2 : ∃ j, j < k0 ∧ (j < l.length ∧ p (l.getD j d) = true)
        · obtain ⟨j, hj, hj2⟩ := h2
          exact ih j hj hj2
        · exact ⟨k0, hk0, fun j hj h3 => h2 ⟨j, hj, h3⟩⟩
    have hb : ∀ j, j < k → p (l.getD j d) = false := fun j hj => by
      have := hm j hj
      cases hpj : p (l.getD j d) with
      | false => rfl
      | true => exact absurd ⟨by omega, hpj⟩ this
    refine .inr ⟨k, hk.1, ?_, ?_, hk.2⟩
    · rw [idxF_drop_hit p d l k 0 hk.1 hb hk.2, Nat.zero_add]
    · rw [List.take_succ_eq_append_getElem hk.1, List.filter_append]
      have h1 : l[k] = l.getD k d := by rw [List.getD_eq_getElem?_getD, List.getElem?_eq_getElem hk.1]; rfl
      rw [h1, List.filter_cons, hk.2]
      simp only [Bool.not_true, Bool.false_eq_true, if_false, List.filter_nil, List.append_nil]
      rw [List.filter_eq_self]
      intro a ha
      obtain ⟨j, hj, rfl⟩ := List.mem_iff_getElem.1 ha
      rw [List.length_take] at hj
      have h2 := hb j (by omega)
      rw [List.getD_eq_getElem?_getD, List.getElem?_eq_getElem (by omega)] at h2
      simp only [Option.getD_some] at h2
      simp [h2]
  · have hb : ∀ j, j < l.length → p (l.getD j d) = false := fun j hj => by
      cases hpj : p (l.getD j d) with
      | false => rfl
      | true => exact absurd ⟨j, hj, hpj⟩ h
    refine .inl ⟨idxF_miss p d l 0 hb, ?_⟩
    rw [List.filter_eq_self]
    intro a ha
    obtain ⟨j, hj, rfl⟩ := List.mem_iff_getElem.1 ha
    have h2 := hb j hj
    rw [List.getD_eq_getElem?_getD, List.getElem?_eq_getElem hj] at h2
    simp only [Option.getD_some] at h2
    simp [h2]
theorem R_clear_str {e base g n cap : Nat} {ok : Nat → Prop} (z : ByteArray) : ∀ (m i : Nat) (W : World) (xs : List ByteArray), Kd.R Kd.string e W base ok (.slice (some ⟨g, 0, none⟩) n cap) xs → i + m ≤ n →
    ∃ ys, Kd.R Kd.string e (W.setCells g i (List.replicate m (.string z))) base ok (.slice (some ⟨g, 0, none⟩) n cap) ys ∧ ys.take i = xs.take i ∧ ys.length = xs.length ∧ W.grownBy (W.setCells g i (List.replicate m (.string z))) (some g)
  | 0, i, W, xs, h, hi => ⟨xs, h, rfl, rfl, World.grownBy.refl _ _⟩
  | m + 1, i, W, xs, h, hi => by
    obtain ⟨h1, h2⟩ := Kd.R_putg h (i : Int) z
    rw [Int.toNat_natCast] at h1 h2
    obtain ⟨ys, h3, h4, h5, h6⟩ := R_clear_str z m (i + 1) _ _ h1 (by omega)
    refine ⟨ys, h3, ?_, by rw [h5, List.length_set], h2.trans h6⟩
    have h7 := congrArg (List.take i) h4
    rw [List.take_take, List.take_take, Nat.min_eq_left (by omega)] at h7
    rw [h7, List.take_set_of_le (by omega)]
set_option maxHeartbeats 4000000 in
set_option maxRecDepth 100000 in
theorem slices_DeleteFunc_str (p : ByteArray → Bool) (g : Nat) (lb : Array Value) (eg : ∀ args w, (callFunc g args).run Try.prog w = .ok (.enter g args) w)
    (v : Value) (l : List ByteArray) (ok : Nat → Prop) (w0 w : World) (hB : Below w0.heap.size w0 w) (hR : Kd.R Kd.string 9 w w0.heap.size ok v l) (hbig : l.length ≤ 1048576)
    (hp : ∀ x, x ∈ l → Gives2 Try.prog g lb w0 (.string x) (p x)) :
    Calls Try.prog 35 #[v, .func (.func g) #[] lb] w fun e w' => ∃ v', e = .returned v' ∧ Kd.R Kd.string 9 w' w0.heap.size ok v' (l.filter fun x => !p x) ∧ Below w0.heap.size w0 w' := by
  have HR := Aside0.mk hR
  have HP := Aside0.mk hp
  have HB := Aside0.mk hB
  clear hR hp hB
  rcases idxF_split p ByteArray.empty l with ⟨e1, e2⟩ | ⟨k0, hk0, e1, e2, _⟩
  · obtain ⟨A, c, rfl⟩ := Kd.R_slice HR.out
    have hidx := slices_IndexFunc_str p g lb eg A c l w (Kd.R_reads' HR.out).2.2 (by omega) (fun x hx => (HP.out x hx).later HB.out)
    rw [e1] at hidx
    rw [e2]
    clear e1 e2
    go_enter Try.func35, Try.ntmps35
    go_wp2_with (go_at_call 54; refine hidx.mono ?_; rintro e w' ⟨rfl, hb'⟩)
    go_ret
    exact ⟨_, rfl, Kd.R_below HR.out hb', HB.out.trans (hb'.mono HB.out.size)⟩
  · obtain ⟨gb, cap, rfl, gb0, gb1, gb2⟩ := Kd.R_form HR.out (by omega)
    have hidx := slices_IndexFunc_str p g lb eg _ cap l w (Kd.R_reads' HR.out).2.2 (by omega) (fun x hx => (HP.out x hx).later HB.out)
    rw [e1] at hidx
    have hcap : l.length ≤ cap := (Kd.R_reads' HR.out).2.1
    have E2 := Aside0.mk e2
    clear e1 e2 gb1 gb2
    have hk0z : (k0 : Int) < (l.length : Int) := by omega
    have hneq : ((k0 : Int) == -1) = false := beq_eq_false_iff_ne.2 (by omega)
    have GB0 := Aside0.mk gb0
    clear gb0
    go_enter Try.func35, Try.ntmps35
    go_wp2_with (go_at_call 54; refine hidx.mono ?_; rintro e w1 ⟨rfl, hb'⟩)
    have HR1 := Aside0.mk (Kd.R_below HR.out hb')
    have HB1 := Aside0.mk (HB.out.trans (hb'.mono HB.out.size))
    clear HR hidx hb' hneq
    go_loopg [5, 6, 7] l.length (fun gg s5 s6 _ wr => ∃ (i j : Nat) (ys : List ByteArray), i < j ∧ j ≤ l.length ∧ l.length - j ≤ gg ∧ s5 = .int .i64 i ∧ s6 = .int .i64 j ∧ Aside0 (Kd.R Kd.string 9 wr w0.heap.size ok (.slice (some ⟨gb, 0, none⟩) l.length cap) ys) ∧ Aside0 (Below w0.heap.size w0 wr) ∧ Aside0 (ys.length = l.length ∧ ys.take i = (l.take j).filter (fun x => !p x) ∧ ys.drop j = l.drop j))
    case atStart => exact ⟨k0, k0 + 1, l, by omega, by omega, by omega, rfl, by go_num, HR1, HB1, ⟨rfl, E2.out.symm, rfl⟩⟩
    case round =>
      obtain ⟨i, j, ys, hij, hj, hg, rfl, rfl, HRr, HBr, HY⟩ := hrel
      clear HR1 HB1
      by_cases hlt : j < l.length
      · have hltz : (j : Int) < (l.length : Int) := by omega
        have hyl := HY.out.1
        obtain ⟨hx, hxf⟩ := Kd.R_celln ByteArray.empty HRr.out (j : Int) (by omega) (by omega)
        rw [Int.toNat_natCast] at hx hxf
        have ey : rdOf ByteArray.empty ys (j : Int) = l.getD j ByteArray.empty := by
          unfold rdOf
          rw [Int.toNat_natCast]
          have h1 := congrArg (fun z => z.getD 0 ByteArray.empty) HY.out.2.2
          simpa [List.getD_eq_getElem?_getD] using h1
        have hmem : rdOf ByteArray.empty ys (j : Int) ∈ l := by
          rw [ey, List.getD_eq_getElem?_getD, List.getElem?_eq_getElem hlt]
          exact List.getElem_mem _
        have hcall := HP.out _ hmem wr HBr.out
        have hmk : l.take (j + 1) = l.take j ++ [rdOf ByteArray.empty ys (j : Int)] := by
          rw [ey, List.take_succ_eq_append_getElem hlt, List.getD_eq_getElem?_getD, List.getElem?_eq_getElem hlt]
          rfl
        generalize rdOf ByteArray.empty ys (j : Int) = y at hx hcall ey hmk
        have HM := Aside0.mk hmk
        have HE := Aside0.mk ey
        clear hmk ey hmem hxf
        cases hq : p y with
        | true =>
          rw [hq] at hcall
          have HQ := Aside0.mk hq
          clear hq hyl
          go_wp2_with (go_at_fn g; refine hcall.mono ?_; rintro e w2 ⟨rfl, hb2⟩)
          go_roundg (l.length - (j + 1))
          case measure => omega
          case rel =>
            refine ⟨i, j + 1, ys, by omega, by omega, by omega, rfl, by go_num, ⟨Kd.R_below HRr.out hb2⟩, ⟨HBr.out.trans (hb2.mono HBr.out.size)⟩, ⟨HY.out.1, ?_, ?_⟩⟩
            · rw [HM.out, List.filter_append, HY.out.2.1, List.filter_cons, HQ.out]
              simp
            · have h1 := congrArg (List.drop 1) HY.out.2.2
              rw [List.drop_drop, List.drop_drop] at h1
              exact h1
        | false =>
          rw [hq] at hcall
          have HQ := Aside0.mk hq
          clear hq hyl
          go_wp2_with (go_at_fn g; refine hcall.mono ?_; rintro e w2 ⟨rfl, hb2⟩; have HR2 := Aside0.mk (Kd.R_below HRr.out hb2); have hiz : (i : Int) < (l.length : Int) := (by omega); have hxi := Kd.R_celln ByteArray.empty HR2.out (i : Int) (by omega) (by omega); rw [Int.toNat_natCast] at hxi; obtain ⟨hxi1, hxi2⟩ := hxi)
          have hp2 := Kd.R_putg HR2.out (i : Int) y
          rw [Int.toNat_natCast] at hp2
          go_roundg (l.length - (j + 1))
          case measure => omega
          case rel =>
            refine ⟨i + 1, j + 1, ys.set i y, by omega, by omega, by omega, by go_num, by go_num, ⟨hp2.1⟩, ⟨(HBr.out.trans (hb2.mono HBr.out.size)).grown hp2.2 (HBr.out.trans (hb2.mono HBr.out.size)).size (fun k hk => by cases hk; exact GB0.out)⟩, ⟨by rw [List.length_set]; exact HY.out.1, ?_, ?_⟩⟩
            · rw [HM.out, List.filter_append, ← HY.out.2.1, List.filter_cons, HQ.out]
              have hil : i < ys.length := by rw [HY.out.1]; omega
              rw [List.take_succ_eq_append_getElem (by rw [List.length_set]; exact hil), List.getElem_set_self, List.take_set_of_le (Nat.le_refl _)]
              simp
            · rw [List.drop_set_of_lt (by omega)]
              have h1 := congrArg (List.drop 1) HY.out.2.2
              rw [List.drop_drop, List.drop_drop] at h1
              exact h1
      · have hltz : ¬ (j : Int) < (l.length : Int) := by omega
        have : j = l.length := by omega
        subst this
        have hcne : ¬ cap = i := by omega
        have hcf : ∀ W : World, (Instr.slice 24 (.slice (some ⟨gb, 0, none⟩) l.length cap) (some (.int .i64 (i : Int))) none none).run Try.prog W = .ok (.slice (some ⟨gb, i, none⟩) (l.length - i) (cap - i)) W := fun W => by
          obtain ⟨i0, hi0, hz0, hz1, hz2⟩ := info_parts info9
          have h1 := cut_from (P := Try.prog) 24 9 .i64 Try.underlying24 hi0 1 hz1 (some ⟨gb, 0, none⟩) l.length cap (i : Int) (by omega) (by omega) W
          rw [Int.toNat_natCast, if_neg hcne] at h1
          rw [h1]
          by_cases hi0 : i = 0
          · subst hi0; rfl
          · simp [Addr.add, hi0]
        have hcl : ∀ ty, (Builtin.clear_ #[24] ty #[.slice (some ⟨gb, i, none⟩) (l.length - i) (cap - i)]).run Try.prog wr = .ok (.tuple #[]) (wr.setCells gb i (List.replicate (l.length - i) (.string ⟨#[]⟩))) :=
          fun ty => Lib.run_clear_slice wr _ 9 ty (.string ⟨#[]⟩) Try.underlying24 (fun w => by kernel_rfl) rfl rfl gb i _ _ (by omega)
            (fun m hm => by have h1 := (Kd.R_celln ByteArray.empty HRr.out ((i + m : Nat) : Int) (by omega) (by omega)).1; rw [Int.toNat_natCast] at h1; rw [h1]; rfl)
            (fun m hm => by have h1 := (Kd.R_celln ByteArray.empty HRr.out ((i + m : Nat) : Int) (by omega) (by omega)).2; rw [Int.toNat_natCast] at h1; exact h1)
        obtain ⟨zs, hz1, hz2, hz3, hz4⟩ := R_clear_str ⟨#[]⟩ (l.length - i) i wr ys HRr.out (by omega)
        have HZ1 := Aside0.mk hz1
        have HZ2 := Aside0.mk hz2
        have HZ3 := Aside0.mk hz3
        have HZ4 := Aside0.mk hz4
        clear hz1 hz2 hz3 hz4 hcne
        have hiz : (i : Int) ≤ (l.length : Int) := by omega
        go_wp2
        go_ret
        have hf : zs.take i = l.filter (fun x => !p x) := by
          rw [HZ2.out, HY.out.2.1, List.take_length]
        refine ⟨_, rfl, ?_, HBr.out.grown HZ4.out HBr.out.size (fun k hk => by cases hk; exact GB0.out)⟩
        rw [← hf]
        exact Kd.R_take HZ1.out (by rw [HZ3.out, HY.out.1]; omega)

theorem overdrawn_1 (k : Nat) (w : World) (B C : Nat) (A0 : Option Addr) (c0 : Nat) (l0 : List S52) (a1 : Int) (hB : B < w.heap.size) (hC : C < w.heap.size)
    (hb : w.cell? ⟨B, 0, none⟩ = some (.slice A0 l0.length c0)) (hc : w.cell? ⟨C, 0, none⟩ = some (.int .i64 a1)) (hr0 : Kd.C k52 w A0 l0.length l0) (hc0 : l0.length ≤ c0) (x : ByteArray) (r : Int) (hbal : impl_balanceOf.f k l0 x a1 = some r) :
    Gives2 Try.prog 36 #[.pointer (some ⟨B, 0, none⟩), .pointer (some ⟨C, 0, none⟩)] w (.string x) (decide (0 ≤ r)) := fun W hbel => by
  have hb' : W.cell? ⟨B, 0, none⟩ = some (.slice A0 l0.length c0) := (hbel.cell (p := ⟨B, 0, none⟩) hB).trans hb
  have hc' : W.cell? ⟨C, 0, none⟩ = some (.int .i64 a1) := (hbel.cell (p := ⟨C, 0, none⟩) hC).trans hc
  have HR := Aside0.mk (Kd.C_below hr0 hbel)
  have HL := Aside0.mk hbal
  clear hr0 hbal hb hc
  go_enter Try.func36, Try.ntmps36
  go_wp2_with (go_at_call 37; refine (impl_balanceOf.calls k A0 c0 l0 x a1 r _ HR.out hc0 HL.out).mono ?_; rintro e w' ⟨rfl, hb2⟩)
  go_ret
  exact ⟨rfl, hb2⟩
def overB (k : Nat) (l0 : List S52) (a1 : Int) (x : ByteArray) : Int := (impl_balanceOf.f k l0 x a1).getD 0
def impl_OverdrawnAt.f (k : Nat) (l0 : List S52) (a1 : Int) : Option (List ByteArray × Int) :=
  (impl_ValidPostings.f k l0).bind fun t => if t = true then ((impl_accountDay.f a1).bind fun u => if u = true then ((impl_accountsOf.f l0).bind fun acc =>
    if acc.length ≤ 1048576 ∧ ∀ x ∈ acc, impl_balanceOf.f k l0 x a1 ≠ none then some (acc.filter fun x => !decide (0 ≤ overB k l0 a1 x), 0) else none) else some ([], 2)) else some ([], 1)
theorem bcell_ {W w1 : World} (hb : Below W.heap.size W w1) : (∀ b o, b < W.heap.size → w1.cell? ⟨b, o, none⟩ = W.cell? ⟨b, o, none⟩) ∧ (∀ b o, b < W.heap.size → w1.frozen? ⟨b, o, none⟩ = W.frozen? ⟨b, o, none⟩) :=
  ⟨fun b o h => hb.cell (p := ⟨b, o, none⟩) h, fun b o h => hb.frozen (p := ⟨b, o, none⟩) h⟩
set_option maxHeartbeats 4000000 in
theorem impl_OverdrawnAt.calls (k : Nat) (A0 : Option Addr) (c0 : Nat) (l0 : List S52) (a1 : Int) (r1 : List ByteArray) (r2 : Int) (w : World) (hr0 : Kd.C k52 w A0 l0.length l0) (hc0 : l0.length ≤ c0) (h : impl_OverdrawnAt.f k l0 a1 = some (r1, r2)) :
    Calls Try.prog 16 #[.slice A0 l0.length c0, .int .i64 a1] w fun e w' => ∃ v0_ : Value, e = .returned (.tuple #[v0_, .int .i64 r2]) ∧ Kd.R Kd.string 9 w' w.heap.size (fun _ => True) v0_ r1 ∧ Below w.heap.size w w' := by
  unfold impl_OverdrawnAt.f at h
  have HR0 := Aside0.mk hr0
  have HC0 := Aside0.mk hc0
  clear hr0 hc0
  obtain ⟨t, ht, h⟩ := Option.bind_eq_some_iff.mp h
  have HT := Aside0.mk ht
  clear ht
  cases t with
  | false =>
    simp only [Bool.false_eq_true, if_false, Option.some.injEq, Prod.mk.injEq] at h
    obtain ⟨rfl, rfl⟩ := h
    go_enter Try.func16, Try.ntmps16
    go_wp2_with (go_at_call 28; refine (impl_ValidPostings.calls k A0 c0 l0 false _ (Kd.C_alloc (Kd.C_alloc HR0.out _) _) HC0.out HT.out).mono ?_; rintro e w1 ⟨rfl, hb⟩)
    go_ret2
    exact ⟨_, rfl, Kd.R_nil _ _ _ _ _, (((Below.refl _ w).alloc (Nat.le_refl _) _).alloc (by simp) _).trans (hb.mono (by simp; omega))⟩
  | true =>
    simp only [if_true] at h
    obtain ⟨u, hu, h⟩ := Option.bind_eq_some_iff.mp h
    have HU := Aside0.mk hu
    clear hu
    cases u with
    | false =>
      simp only [Bool.false_eq_true, if_false, Option.some.injEq, Prod.mk.injEq] at h
      obtain ⟨rfl, rfl⟩ := h
      go_enter Try.func16, Try.ntmps16
      go_wp2_with (first | (go_at_call 28; refine (impl_ValidPostings.calls k A0 c0 l0 true _ (Kd.C_alloc (Kd.C_alloc HR0.out _) _) HC0.out HT.out).mono ?_; rintro e w1 ⟨rfl, hb⟩; obtain ⟨hcc, _⟩ := bcell_ hb; have HB1 := Aside0.mk ((((Below.refl _ w).alloc (Nat.le_refl _) _).alloc (by simp) _).trans (hb.mono (by simp; omega))); have hx0 := hcc w.heap.size 0 (by simp; omega); have hx1 := hcc (w.heap.size + 1) 0 (by simp); simp at hx0 hx1; clear hcc hb) | (go_at_call 34; refine (impl_accountDay.calls a1 false _ HU.out).mono ?_; rintro e w2 ⟨rfl, hd⟩))
      go_ret2
      exact ⟨_, rfl, Kd.R_nil _ _ _ _ _, HB1.out.trans ((Drawn0.below hd).mono HB1.out.size)⟩
    | true =>
      simp only [if_true] at h
      obtain ⟨acc, ha, h⟩ := Option.bind_eq_some_iff.mp h
      have HA := Aside0.mk ha
      clear ha
      split at h
      · rename_i hall
        simp only [Option.some.injEq, Prod.mk.injEq] at h
        obtain ⟨rfl, rfl⟩ := h
        have HAL := Aside0.mk hall
        clear hall
        have hdel := fun (w0 W : World) (v : Value) (hB : Below w0.heap.size w0 W) (hR : Kd.R Kd.string 9 W w0.heap.size (fun _ => True) v acc) (h0 : w.heap.size < w0.heap.size) (h1 : w.heap.size + 1 < w0.heap.size) (hb : w0.cell? ⟨w.heap.size, 0, none⟩ = some (.slice A0 l0.length c0)) (hc : w0.cell? ⟨w.heap.size + 1, 0, none⟩ = some (.int .i64 a1)) (hr : Kd.C k52 w0 A0 l0.length l0) =>
          slices_DeleteFunc_str (fun x => decide (0 ≤ overB k l0 a1 x)) 36 #[.pointer (some ⟨w.heap.size, 0, none⟩), .pointer (some ⟨w.heap.size + 1, 0, none⟩)] (enters_of Try.func36 (by kernel_rfl) rfl) v acc (fun _ => True) w0 W hB hR HAL.out.1
            (fun x hx => overdrawn_1 k w0 _ _ A0 c0 l0 a1 h0 h1 hb hc hr HC0.out x (overB k l0 a1 x) (by
              unfold overB
              cases hq : impl_balanceOf.f k l0 x a1 with
              | none => exact absurd hq (HAL.out.2 x hx)
              | some q => rfl))
        go_enter Try.func16, Try.ntmps16
        go_wp2_with (first | (go_at_call 28; refine (impl_ValidPostings.calls k A0 c0 l0 true _ (Kd.C_alloc (Kd.C_alloc HR0.out _) _) HC0.out HT.out).mono ?_; rintro e w1 ⟨rfl, hb⟩; obtain ⟨hcc, _⟩ := bcell_ hb; have HB1 := Aside0.mk ((((Below.refl _ w).alloc (Nat.le_refl _) _).alloc (by simp) _).trans (hb.mono (by simp; omega))); have hx0 := hcc w.heap.size 0 (by simp; omega); have hx1 := hcc (w.heap.size + 1) 0 (by simp); have HZ := Aside0.mk (show w.heap.size + 1 < w1.heap.size by have := hb.size; simp at this; omega); simp at hx0 hx1; clear hcc hb) | (go_at_call 34; refine (impl_accountDay.calls a1 true _ HU.out).mono ?_; rintro e w2 ⟨rfl, hd⟩; have HB2 := Aside0.mk (HB1.out.trans ((Drawn0.below hd).mono HB1.out.size)); have hy0 := ((bcell_ (Drawn0.below hd)).1 w.heap.size 0 (by have := HZ.out; omega)).trans hx0; have hy1 := ((bcell_ (Drawn0.below hd)).1 (w.heap.size + 1) 0 HZ.out).trans hx1; have HZ2 := Aside0.mk (Nat.lt_of_lt_of_le HZ.out (Drawn0.below hd).size); clear hd hx0 hx1) | (go_at_call 29; refine (impl_accountsOf.calls A0 c0 l0 acc _ (Kd.C_below HR0.out HB2.out) HC0.out HA.out).mono ?_; rintro e w3 ⟨v1, rfl, hR3, hb3⟩; have hd3 := hdel w2 w3 v1 hb3 hR3 (by have := HZ2.out; omega) HZ2.out hy0 hy1 (Kd.C_below HR0.out HB2.out); have HB3 := Aside0.mk (HB2.out); obtain ⟨A3, c3, rfl⟩ := Kd.R_slice hR3; clear hR3 hb3) | (go_at_call 35; refine hd3.mono ?_; rintro e w4 ⟨v4, rfl, hR4, hb4⟩))
        go_ret2
        exact ⟨_, rfl, Kd.R_lower hR4 HB2.out.size, HB2.out.trans (hb4.mono HB2.out.size)⟩
      · cases h


end Go.Proofs.Ythnjmdjhpipopab.PFnExactOverdrawnAt
