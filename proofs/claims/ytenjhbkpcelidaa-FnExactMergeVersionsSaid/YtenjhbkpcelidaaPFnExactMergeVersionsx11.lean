-- PRINTED by print.py (a twelfth state) out of the translation. Not trusted: Lean checks it.
import Derived.Test.YtenjhbkpcelidaaPFnExactMergeVersionsx0
namespace Go.Proofs.Ytenjhbkpcelidaa.PFnExactMergeVersions
open Go.RowKit Go.Proofs.YtenjhbkpcelidaaW.PrintWords Go.Proofs.YtenjhbkpcelidaaW.PrintLast Go.Proofs.YtenjhbkpcelidaaW.PrintMore
attribute [local go_sem] max2_int min2_int max_two min_two max_three min_three max_four min_four   -- for this text's walks alone
set_option linter.unusedVariables false
set_option linter.unusedSimpArgs false

/-! ### impl_namesOf: function 65 -/
open Go.Shelf Go.Sort in
/-- slices.Sort at a row of strings of one's own. -/
theorem Kd_Sort_string (v : Value) (xs : List ByteArray) (ok : Nat → Prop) (w0 w : World) (hB : Below w0.heap.size w0 w) (hR : Kd.R Kd.string 9 w w0.heap.size ok v xs) (hlen : xs.length ≤ 1048576) :
  Calls Try.prog 98 #[v] w fun e w' => e = .returned (.tuple #[]) ∧ Kd.R Kd.string 9 w' w0.heap.size ok v (((xs.map fun x => x.data.toList).mergeSort fun x y => decide (x ≤ y)).map fun x => (⟨x.toArray⟩ : ByteArray)) ∧ Below w0.heap.size w0 w' := by
 obtain ⟨A1, c1, rfl⟩ := Kd.R_slice hR
 by_cases h0 : xs.length = 0
 ·
  have hl0 : xs = [] := List.eq_nil_of_length_eq_zero h0
  subst hl0
  refine (Try.slices_Sort_string_none A1 c1 w).mono ?_
  rintro e w' ⟨rfl, rfl⟩
  exact ⟨rfl, by simpa using hR, hB⟩
 ·
  have hown := Kd.own_of_R hR
  have hok := hR.1
  have hne : (Value.slice A1 xs.length c1) ≠ .slice none 0 0 := by
   intro e
   injection e with _ e2 _
   omega
  have e1 : encs Value.string xs = (xs.map fun x => x.data.toList).map encStr := by
   rw [Lib.map_encStr]
   rfl
  rw [e1] at hown
  have hlen2 : (xs.map fun x => x.data.toList).length = xs.length := by simp
  generalize (xs.map fun x => x.data.toList) = ss at hown hlen2 ⊢
  obtain ⟨g, cap, hv, hbg, hgl, hncap, hcm, hlz, hH⟩ := Lib.holds_of_ownsRow hown hne
  injection hv with hv1 _ hv3
  subst hv1
  subst hv3
  have hsort := Try.slices_Sort_string g 0 c1 ss _ hH hgl (by omega)
  rw [hlz] at hsort
  refine hsort.mono ?_
  rintro e w2 ⟨rfl, nn, os, rfl⟩
  have hl2 : (ss.mergeSort fun x y => decide (x ≤ y)).length = xs.length := by rw [List.length_mergeSort]; exact hlz
  rcases hown.2 with ⟨h0', _⟩ | ⟨g', cap', cur, hv', hbase, hb', h1, h2, h3, h4⟩
  ·
   cases h0'
  ·
   cases hv'
   have hs := ownsRow_sorted (n := nn) (os := os) (ss := ss) (ts := ss.mergeSort fun x y => decide (x ≤ y)) (hl2.trans hlz.symm) hbase hb' (by omega) h2 h3
   rw [hlz] at hs
   refine ⟨rfl, ?_, hB.grown (grownBy_sorted _) hB.size (fun j hj => by cases hj; exact hbase)⟩
   have e2 : encs Value.string ((ss.mergeSort fun x y => decide (x ≤ y)).map fun x => (⟨x.toArray⟩ : ByteArray)) = (ss.mergeSort fun x y => decide (x ≤ y)).map encStr := by
    unfold encs
    rw [List.map_map]
    rfl
   have hl3 : ((ss.mergeSort fun x y => decide (x ≤ y)).map fun x => (⟨x.toArray⟩ : ByteArray)).length = xs.length := by rw [List.length_map]; exact hl2
   refine Kd.R_of_own ?_ hok
   rw [hl3, e2]
   exact hs
open Go.Shelf Go.Sort in
/-- slices.Compact at a row of strings of one's own. -/
theorem Kd_Compact_string (v : Value) (xs : List ByteArray) (ok : Nat → Prop) (w0 w : World) (hB : Below w0.heap.size w0 w) (hR : Kd.R Kd.string 9 w w0.heap.size ok v xs) (hlen : xs.length ≤ 1048576) :
  Calls Try.prog 99 #[v] w fun e w' => ∃ v', e = .returned v' ∧ Kd.R Kd.string 9 w' w0.heap.size ok v' ((Lib.compact (xs.map fun x => x.data.toList)).map fun x => (⟨x.toArray⟩ : ByteArray)) ∧ Below w0.heap.size w0 w' := by
 obtain ⟨A1, c1, rfl⟩ := Kd.R_slice hR
 by_cases h0 : xs.length = 0
 ·
  have hl0 : xs = [] := List.eq_nil_of_length_eq_zero h0
  subst hl0
  refine (Try.slices_Compact_string_empty A1 c1 w).mono ?_
  rintro e w' ⟨rfl, rfl⟩
  exact ⟨_, rfl, by simpa [Lib.compact, Lib.compactUpTo] using hR, hB⟩
 ·
  have hown := Kd.own_of_R hR
  have hok := hR.1
  have hne : (Value.slice A1 xs.length c1) ≠ .slice none 0 0 := by
   intro e
   injection e with _ e2 _
   omega
  have e1 : encs Value.string xs = (xs.map fun x => x.data.toList).map encStr := by
   rw [Lib.map_encStr]
   rfl
  rw [e1] at hown
  have hlen2 : (xs.map fun x => x.data.toList).length = xs.length := by simp
  generalize (xs.map fun x => x.data.toList) = ss at hown hlen2 ⊢
  obtain ⟨g, cap, hv, hbg, hgl, hncap, hcm, hlz, hH⟩ := Lib.holds_of_ownsRow hown hne
  injection hv with hv1 _ hv3
  subst hv1
  subst hv3
  have hcomp := Try.slices_Compact_string g 0 c1 ss _ hH (by omega) (by omega)
  rw [hlz] at hcomp
  refine hcomp.mono ?_
  rintro e w3 ⟨rfl, q, rfl⟩
  have hle := Lib.compact_length_le ss
  have hc := Lib.ownsRow_putRow (q := q) (k := (Lib.compact ss).length) (ys := Lib.compact ss ++ List.replicate (xs.length - (Lib.compact ss).length) []) hown (by simp; omega) (by omega)
  rw [List.take_left] at hc
  refine ⟨.slice (some ⟨g, 0, none⟩) (Lib.compact ss).length c1, rfl, ?_, Lib.below_putRow hB hbg⟩
  have e2 : encs Value.string ((Lib.compact ss).map fun x => (⟨x.toArray⟩ : ByteArray)) = (Lib.compact ss).map encStr := by
   unfold encs
   rw [List.map_map]
   rfl
  have hl3 : ((Lib.compact ss).map fun x => (⟨x.toArray⟩ : ByteArray)).length = (Lib.compact ss).length := by rw [List.length_map]
  refine Kd.R_of_own ?_ (fun k hk => hok k (by simpa [Value.ownBlock] using hk))
  rw [hl3, e2]
  exact hc

def namL (l : List S71) : List (List UInt8) := Lib.compact ((l.map fun x => x.f0.data.toList).mergeSort fun x y => decide (x ≤ y))
def impl_namesOf.f (l0 : List (List S71)) : Option (List ByteArray) := if l0.length ≤ 1048576 ∧ l0.flatten.length ≤ 1048576 then some ((namL l0.flatten).map fun x => (⟨x.toArray⟩ : ByteArray)) else none
set_option maxHeartbeats 8000000 in
set_option maxRecDepth 100000 in
theorem impl_namesOf.calls (A0 : Option Addr) (c0 : Nat) (l0 : List (List S71)) (r : List ByteArray) (w : World) (hr0 : Kd.C (Kd.slice 71 k71) w A0 l0.length l0) (hc0 : l0.length ≤ c0) (h : impl_namesOf.f l0 = some r) :
  Calls Try.prog 65 #[.slice A0 l0.length c0] w fun e w' => ∃ v0_ : Value, e = .returned (v0_) ∧ Kd.R Kd.string 9 w' w.heap.size (fun _ => True) v0_ r ∧ Below w.heap.size w w' := by
 unfold impl_namesOf.f at h
 split at h
 ·
  rename_i hlen
  have HV := Aside0.mk (Option.some.inj h)
  have HR0 := Aside0.mk hr0
  have HL := Aside0.mk hlen
  have hl1 : l0.length ≤ 1048576 := hlen.1
  clear h hc0 hr0 hlen
  go_enter Try.func65, Try.ntmps65
  go_wp2
  go_loopg [3, 10] l0.length (fun gg s3 s10 wr => ∃ i : Nat, i ≤ l0.length ∧ l0.length - i ≤ gg ∧ s10 = .int .i64 i ∧ Aside0 (Kd.R Kd.string 9 wr w.heap.size (fun _ => True) s3 (((l0.take i).flatten).map fun x => x.f0)) ∧ Aside0 (Below w.heap.size w wr))
  case atStart => exact ⟨0, by omega, by omega, rfl, ⟨Kd.R_nil _ _ _ _ _⟩, ⟨Below.refl _ _⟩⟩
  case round =>
   obtain ⟨i, hi, hg, rfl, HN, BW⟩ := hrel
   by_cases hlt : i < l0.length
   ·
    have hltz : (i : Int) < (l0.length : Int) := by omega
    obtain ⟨ad, cs, rfl, hcl, hK, hcc⟩ := Kd.C_get HR0.out [] (i : Int) (by omega) hltz
    obtain ⟨Ai, ci, rfl, hci, hCi⟩ := hK
    have hx := hcc 0 _ rfl
    simp only [Int.toNat_natCast] at hx hci hCi
    have hx1 : wr.cell? (ad.add i) = some (.slice Ai (l0.getD i []).length ci) := by
     have e : i * (Kd.slice 71 k71).sz + 0 = i := by show i * 1 + 0 = i; omega
     rw [e] at hx
     exact (BW.out.cell (World.block_lt_of_cell? _ _ hx)).trans hx
    clear hx hcc hcl
    have hsum : (l0.take i).flatten.length + (l0.getD i []).length ≤ 1048576 := by
     have h1 : (l0.take (i + 1)).flatten.length ≤ l0.flatten.length := by
      conv => rhs; rw [← List.take_append_drop (i + 1) l0]
      rw [List.flatten_append, List.length_append]
      omega
     rw [List.take_succ_eq_append_getElem hlt, List.flatten_append, List.length_append] at h1
     have h2 : (l0.getD i []) = l0[i] := by rw [List.getD_eq_getElem?_getD, List.getElem?_eq_getElem hlt]; rfl
     have h3 : ([l0[i]] : List (List S71)).flatten.length = l0[i].length := by simp
     rw [h3] at h1
     rw [h2]
     have := HL.out.2
     omega
    have htk : (l0.take (i + 1)).flatten = (l0.take i).flatten ++ l0.getD i [] := by
     rw [List.take_succ_eq_append_getElem hlt, List.flatten_append, List.getD_eq_getElem?_getD, List.getElem?_eq_getElem hlt]
     simp
    have HT := Aside0.mk htk
    clear htk
    generalize l0.getD i [] = row at hx1 hci hCi hsum HT
    generalize (l0.take i).flatten = pre at HN hsum HT
    have HC := Aside0.mk hCi
    have HS := Aside0.mk hsum
    clear hCi hsum hci
    have hrl : row.length ≤ 1048576 := by have := HS.out; omega
    go_wp2
    obtain ⟨wo, rfl⟩ : ∃ wo : World, wo = wr := ⟨_, rfl⟩
    go_loopg [3, 16] row.length (fun gg s3 s16 wr => ∃ j : Nat, j ≤ row.length ∧ row.length - j ≤ gg ∧ s16 = .int .i64 j ∧ Aside0 (Kd.R Kd.string 9 wr w.heap.size (fun _ => True) s3 ((pre ++ row.take j).map fun x => x.f0)) ∧ Aside0 (Below w.heap.size w wr))
    case atStart => exact ⟨0, by omega, by omega, rfl, ⟨by rw [List.take_zero, List.append_nil]; exact HN.out⟩, BW⟩
    case round =>
     obtain ⟨j, hj, hg2, rfl, HN2, BW2⟩ := hrel
     clear HN BW hx1
     by_cases hjt : j < row.length
     ·
      have hjtz : (j : Int) < (row.length : Int) := by omega
      obtain ⟨ad2, rfl, hx0, hx1⟩ := at_T71 (Kd.C_below HC.out BW2.out) (j : Int) (by omega) hjtz
      rw [Int.toNat_natCast] at hx0 hx1
      have ht : (pre ++ row.take (j + 1)).map (fun x => x.f0) = (pre ++ row.take j).map (fun x => x.f0) ++ [(rd_T71 row (j : Int)).f0] := by
       rw [List.take_succ_eq_append_getElem hjt, ← List.append_assoc, List.map_append]
       congr 1
       unfold rd_T71
       rw [Int.toNat_natCast, List.getD_eq_getElem?_getD, List.getElem?_eq_getElem hjt]
       rfl
      have hln : ((pre ++ row.take j).map fun x => x.f0).length ≤ 1048576 := by have := HS.out; simp; omega
      have HT2 := Aside0.mk ht
      have HL2 := Aside0.mk hln
      clear ht hln
      generalize (rd_T71 row (j : Int)).f0 = x0 at *
      generalize (rd_T71 row (j : Int)).f1 = x1 at *
      go_wp2_with ((with_reducible refine gate_builtin (b := .append) (xs := #[.tmp 20, .tmp 23]) rfl ?_); (try (refine gate_guard (by rfl) ?_; dsimp only)); at_builtin; refine Kd.R_append Kd.string (w0 := w) w.heap.size rfl (.tmp 20) (.tmp 23) 37 9 (.string ⟨#[]⟩) 16 rfl Try.underlying37 info9 rfl (by decide) (by omega) _ ((pre ++ row.take j).map fun x => x.f0) x0 [.string x0] (fun _ => True) (fun _ => False) rfl ?aX rfl (fun _ hk => hk.elim) (fun _ _ => trivial) ?aO ?aB ?aS ?aL ?_; (case aX => first | rfl | (show Value.slice (some ⟨_, 0, none⟩) 1 1 = _; simp)); (case aO => exact (rA_ HN2.out)); (case aB => exact (by repeat (first | (with_reducible first | exact BW2.out | apply below_alloc | apply pw_below_drewN | apply below_drew1) | exact BW2.out))); (case aS => exact (below_size (by repeat (first | (with_reducible first | exact BW2.out | apply below_alloc | apply pw_below_drewN | apply below_drew1) | exact BW2.out)))); (case aL => have := HL2.out; omega); intro v5 w5 ho hb hg hat; have HN5 := Aside0.mk ho; have BW5 := Aside0.mk hb; clear ho hb hg hat)
      go_roundg (row.length - (j + 1))
      case measure => omega
      case rel =>
       refine ⟨j + 1, by omega, by omega, by go_num, ⟨?_⟩, ⟨BW5.out⟩⟩
       rw [HT2.out]
       exact HN5.out
     ·
      have hjtz : ¬ (j : Int) < (row.length : Int) := by omega
      have hj4 : j = row.length := by omega
      subst hj4
      rw [List.take_length] at HN2
      go_wp2
      go_roundg (l0.length - (i + 1))
      case measure => omega
      case rel =>
       refine ⟨i + 1, by omega, by omega, by go_num, ⟨?_⟩, ⟨BW2.out⟩⟩
       rw [HT.out]
       exact HN2.out
   ·
    have hltz : ¬ (i : Int) < (l0.length : Int) := by omega
    have hi4 : i = l0.length := by omega
    subst hi4
    rw [List.take_length] at HN
    have hl3 : (l0.flatten.map fun x => x.f0).length ≤ 1048576 := by rw [List.length_map]; exact HL.out.2
    obtain ⟨ns, hns⟩ : ∃ ns, ns = l0.flatten.map fun x => x.f0 := ⟨_, rfl⟩
    rw [← hns] at HN hl3
    have HNS := Aside0.mk hns
    clear hns
    have hs := Kd_Sort_string _ _ _ w wr BW.out HN.out hl3
    have hl4 : ((((ns.map fun x => x.data.toList).mergeSort fun x y => decide (x ≤ y)).map fun x => (⟨x.toArray⟩ : ByteArray)) : List ByteArray).length ≤ 1048576 := by simpa using hl3
    have HL3 := Aside0.mk hl4
    clear hl3 hl4
    obtain ⟨A1, c1, hv1⟩ := Kd.R_slice HN.out
    subst hv1
    go_wp2_with (first | (go_at_call 98; refine hs.mono ?_; rintro e w2 ⟨rfl, hR2, hB2⟩; have hc2 := Kd_Compact_string _ _ _ w w2 hB2 hR2 HL3.out; clear hR2 hB2) | (go_at_call 99; refine hc2.mono ?_; rintro e w3 ⟨v3, rfl, hR3, hB3⟩))
    go_ret
    refine ⟨_, rfl, ?_, hB3⟩
    rw [← HV.out]
    unfold namL
    rw [HNS.out] at hR3
    have e5 : ((((l0.flatten.map fun x => x.f0).map fun x => x.data.toList).mergeSort fun x y => decide (x ≤ y)).map fun x => (⟨x.toArray⟩ : ByteArray)).map (fun x => x.data.toList) = ((l0.flatten.map fun x => x.f0.data.toList).mergeSort fun x y => decide (x ≤ y)) := by
     rw [List.map_map, List.map_map]
     simp [Function.comp_def]
    rw [e5] at hR3
    exact hR3
 ·
  cases h

/-! ### impl_valueAt: function 100 -/
def impl_valueAt.l0 : Nat → ByteArray → List (S71) → Int → Int → Option (Int × Bool)
 | 0, _, _, _, _ => none
 | k + 1, x1, x8, x9, x10 => if x10 < x9 then (if 0 ≤ x10 then (if x10 < (x8.length : Int) then (if ((rd_T71 x8 x10).f0).toList = x1.toList then (some ((rd_T71 x8 x10).f1, true)) else (impl_valueAt.l0 k x1 x8 x9 (wrap64 (x10 + 1)))) else (none)) else (none)) else (some (0, false))
def impl_valueAt.f (k : Nat) (l0 : List (S71)) (a1 : ByteArray) : Option (Int × Bool) := impl_valueAt.l0 k a1 l0 (l0.length : Int) 0
theorem impl_valueAt.mono_l : ∀ k, (∀ y0 y1 y2 y3, LeO (impl_valueAt.l0 k y0 y1 y2 y3) (impl_valueAt.l0 (k + 1) y0 y1 y2 y3))
 | 0 => fun _ _ _ _ r h => by simp [impl_valueAt.l0] at h
 | k + 1 => by
  have ih0 := impl_valueAt.mono_l k
  ·
   intro y0 y1 y2 y3
   unfold impl_valueAt.l0
   repeat' first
   | (with_reducible exact ih0 _ _ _ _)
   | (with_reducible exact LeO.refl _)
   | (with_reducible exact LeO.none _)
   | (with_reducible refine LeO.ite ?_ ?_)
   | (with_reducible refine LeO.bind ?_ (fun _ => ?_))
   | exact ih0 _ _ _ _
   | exact LeO.none _
   | refine LeO.ite ?_ ?_
   | refine LeO.bind ?_ (fun _ => ?_)
theorem impl_valueAt.mono : ∀ a0 a1 k, LeO (impl_valueAt.f k a0 a1) (impl_valueAt.f (k + 1) a0 a1) := by
 intro a0 a1 k
 have ih0 := impl_valueAt.mono_l k
 unfold impl_valueAt.f
 repeat' first
   | (with_reducible exact ih0 _ _ _ _)
   | (with_reducible exact LeO.refl _)
   | (with_reducible exact LeO.none _)
   | (with_reducible refine LeO.ite ?_ ?_)
   | (with_reducible refine LeO.bind ?_ (fun _ => ?_))
   | exact ih0 _ _ _ _
   | exact LeO.none _
   | refine LeO.ite ?_ ?_
   | refine LeO.bind ?_ (fun _ => ?_)
set_option maxHeartbeats 8000000 in
set_option maxRecDepth 100000 in
theorem impl_valueAt.calls (k : Nat) (A0 : Option Addr) (c0 : Nat) (l0 : List (S71)) (a1 : ByteArray) (r1 : Int) (r2 : Bool) (w : World) (hr0 : Kd.C k71 w A0 l0.length l0) (hc0 : l0.length ≤ c0) (h : impl_valueAt.f k l0 a1 = some (r1, r2)) :
  Calls Try.prog 100 #[.slice A0 l0.length c0, .string a1] w fun e w' => e = .returned (.tuple #[.int .i64 r1, .bool r2]) ∧ Below w.heap.size w w' := by
 have hu71 := Try.underlying71
 have HR0 := Aside0.mk hr0
 have HC0 := Aside0.mk hc0
 clear hr0 hc0
 have HB := Aside0.mk (Below.refl w.heap.size w)
 have H : (impl_valueAt.l0 k a1 l0 (l0.length : Int) 0) = some (r1, r2) := h
 clear h
 have H' := Aside0.mk H
 clear H
 go_enter Try.func100, Try.ntmps100
 go_wp2
 go_loopg [10] k (fun kq v10 w' => ∃ (x10_1 : Int), v10 = .int .i64 x10_1 ∧ Aside0 (impl_valueAt.l0 kq a1 l0 (l0.length : Int) x10_1 = some (r1, r2)) ∧ Aside0 (kq ≤ k) ∧ Aside0 (Below w.heap.size w w'))
 case atStart => exact ⟨(0), rs_, H', ⟨Nat.le_refl _⟩, ⟨bB_⟩⟩
 case round =>
  clear H'
  try clear c1
  try clear p2
  obtain ⟨x10_1, rfl, HA, HK1, HB⟩ := hrel
  cases gk with
  | zero => exact absurd HA.out (by simp [impl_valueAt.l0])
  | succ k1 =>
   have H := HA.out
   clear HA
   simp only [impl_valueAt.l0] at H
   by_cases c3 : x10_1 < (l0.length : Int)
   ·
    rw [if_pos c3] at H
    have c3b0 : decide (x10_1 < (l0.length : Int)) = true := decide_eq_true c3
    clear c3
    by_cases c4 : 0 ≤ x10_1
    ·
     rw [if_pos c4] at H
     have c4b0 : decide (0 ≤ x10_1) = true := decide_eq_true c4
     clear c4
     by_cases c5 : x10_1 < (l0.length : Int)
     ·
      rw [if_pos c5] at H
      have c5b0 : decide (x10_1 < (l0.length : Int)) = true := decide_eq_true c5
      clear c5
      by_cases c6 : ((rd_T71 l0 x10_1).f0).toList = a1.toList
      ·
       rw [if_pos c6] at H
       have c6b0 : (((rd_T71 l0 x10_1).f0).toList == a1.toList) = true := beq_iff_eq.mpr c6
       have c6b1 : (((rd_T71 l0 x10_1).f0).toList != a1.toList) = false := bne_eq_false_iff_eq.mpr c6
       clear c6
       simp only [Option.some.injEq, Prod.mk.injEq] at H
       obtain ⟨rfl, rfl⟩ := H
       have p324 : 0 ≤ (x10_1 : Int) := of_decide_eq_true as_
       have q324 : x10_1 < (l0.length : Int) := of_decide_eq_true as_
       obtain ⟨ad324, e324, hx324_0, hx324_1⟩ := at_T71 HR0.out x10_1 p324 q324
       cases e324
       replace hx324_0 := cl_ HB hx324_0
       replace hx324_1 := cl_ HB hx324_1
       replace p324 := eq_true p324
       replace q324 := eq_true q324
       go_wp2_with (first | ((with_reducible refine gate_dst (N := 7) rfl ?_); refine box_event ?hg (N := 7) ?hd (cs := #[.string (⟨#[]⟩ : ByteArray), .int .i64 0]) (t := 71) ?hr ?_; (case hd => rfl); (case hg => rfl); (case hr => first | (go_simp; done) | (go_simp; rfl)); intro gb325 hg w7 hbox hb; have n0_ := Aside0.mk (below_step bB_ hb); have n1_ := Aside0.mk (hbox); have n2_ := Aside0.mk ((by rw [hg]; exact (below_size bB_) : w.heap.size ≤ gb325)); have n3_ := Aside0.mk ((by rw [hg]; exact (below_size bB_) : w.heap.size ≤ gb325)); clear HB; have HB := n0_; have BK325 := n1_; have GW325 := n2_; have GE325 := n3_; clear n0_ n1_ n2_ n3_; clear hb hbox hg; have hcz8_0 : w7.cell? ⟨gb325, 0, none⟩ = some (.string (⟨#[]⟩ : ByteArray)) := (blk_cell BK325.out 0).trans rfl; have hcz8_1 : w7.cell? ⟨gb325, 1, none⟩ = some (.int .i64 0) := (blk_cell BK325.out 1).trans rfl; have hfz8_0 := blk_frozen BK325.out 0; have hfz8_1 := blk_frozen BK325.out 1))
       go_ret2
       exact ⟨er_, bC_ GE325.out⟩
      ·
       rw [if_neg c6] at H
       have c6b0 : (((rd_T71 l0 x10_1).f0).toList == a1.toList) = false := beq_eq_false_iff_ne.mpr c6
       have c6b1 : (((rd_T71 l0 x10_1).f0).toList != a1.toList) = true := bne_iff_ne.mpr c6
       have H' := Aside0.mk H
       clear H
       have p324 : 0 ≤ (x10_1 : Int) := of_decide_eq_true as_
       have q324 : x10_1 < (l0.length : Int) := of_decide_eq_true as_
       obtain ⟨ad324, e324, hx324_0, hx324_1⟩ := at_T71 HR0.out x10_1 p324 q324
       cases e324
       replace hx324_0 := cl_ HB hx324_0
       replace hx324_1 := cl_ HB hx324_1
       replace p324 := eq_true p324
       replace q324 := eq_true q324
       go_wp2_with (first | ((with_reducible refine gate_dst (N := 7) rfl ?_); refine box_event ?hg (N := 7) ?hd (cs := #[.string (⟨#[]⟩ : ByteArray), .int .i64 0]) (t := 71) ?hr ?_; (case hd => rfl); (case hg => rfl); (case hr => first | (go_simp; done) | (go_simp; rfl)); intro gb325 hg w9 hbox hb; have n0_ := Aside0.mk (below_step bB_ hb); have n1_ := Aside0.mk (hbox); have n2_ := Aside0.mk ((by rw [hg]; exact (below_size bB_) : w.heap.size ≤ gb325)); have n3_ := Aside0.mk ((by rw [hg]; exact (below_size bB_) : w.heap.size ≤ gb325)); clear HB; have HB := n0_; have BK325 := n1_; have GW325 := n2_; have GE325 := n3_; clear n0_ n1_ n2_ n3_; clear hb hbox hg; have hcz10_0 : w9.cell? ⟨gb325, 0, none⟩ = some (.string (⟨#[]⟩ : ByteArray)) := (blk_cell BK325.out 0).trans rfl; have hcz10_1 : w9.cell? ⟨gb325, 1, none⟩ = some (.int .i64 0) := (blk_cell BK325.out 1).trans rfl; have hfz10_0 := blk_frozen BK325.out 0; have hfz10_1 := blk_frozen BK325.out 1))
       go_roundg k1
       case measure => have := HK1.out; omega
       case rel => exact ⟨(wrap64 (x10_1 + 1)), rs_, H', ⟨by have := HK1.out; omega⟩, ⟨bC_ GE325.out⟩⟩
     ·
      rw [if_neg c5] at H
      exact absurd H (by simp)
    ·
     rw [if_neg c4] at H
     exact absurd H (by simp)
   ·
    rw [if_neg c3] at H
    have c3b0 : decide (x10_1 < (l0.length : Int)) = false := decide_eq_false c3
    clear c3
    simp only [Option.some.injEq, Prod.mk.injEq] at H
    obtain ⟨rfl, rfl⟩ := H
    go_wp2
    go_ret2
    exact ⟨er_, bB_⟩

/-! ### impl_thingAt: function 66 -/
def impl_thingAt.f (k : Nat) (l0 : List (S71)) (a1 : ByteArray) : Option (Int × Bool) := (impl_valueAt.f k l0 a1).bind fun bt327 => (some (bt327.1, bt327.2))
theorem impl_thingAt.mono : ∀ a0 a1 k, LeO (impl_thingAt.f k a0 a1) (impl_thingAt.f (k + 1) a0 a1) := by
 intro a0 a1 k
 unfold impl_thingAt.f
 repeat' first
   | (with_reducible exact impl_valueAt.mono _ _ _)
   | (with_reducible exact LeO.refl _)
   | (with_reducible exact LeO.none _)
   | (with_reducible refine LeO.ite ?_ ?_)
   | (with_reducible refine LeO.bind ?_ (fun _ => ?_))
   | exact impl_valueAt.mono _ _ _
   | exact LeO.none _
   | refine LeO.ite ?_ ?_
   | refine LeO.bind ?_ (fun _ => ?_)
set_option maxHeartbeats 8000000 in
set_option maxRecDepth 100000 in
theorem impl_thingAt.calls (k : Nat) (A0 : Option Addr) (c0 : Nat) (l0 : List (S71)) (a1 : ByteArray) (r1 : Int) (r2 : Bool) (w : World) (hr0 : Kd.C k71 w A0 l0.length l0) (hc0 : l0.length ≤ c0) (h : impl_thingAt.f k l0 a1 = some (r1, r2)) :
  Calls Try.prog 66 #[.slice A0 l0.length c0, .string a1] w fun e w' => e = .returned (.agg #[.int .i64 r1, .bool r2]) ∧ Below w.heap.size w w' := by
 have hu93 := Try.underlying93
 have HR0 := Aside0.mk hr0
 have HC0 := Aside0.mk hc0
 clear hr0 hc0
 have HB := Aside0.mk (Below.refl w.heap.size w)
 have H : ((impl_valueAt.f k l0 a1).bind fun bt327 => (some (bt327.1, bt327.2))) = some (r1, r2) := h
 clear h
 replace H := Option.bind_eq_some_iff.mp H
 obtain ⟨⟨t327, t328⟩, A30, H⟩ := H
 replace H : (some (t327, t328)) = some (r1, r2) := H
 have A3 := Aside0.mk A30
 clear A30
 simp only [Option.some.injEq, Prod.mk.injEq] at H
 obtain ⟨rfl, rfl⟩ := H
 go_enter Try.func66, Try.ntmps66
 go_wp2_with (first | ((with_reducible refine gate_dst (N := 4) rfl ?_); refine box_event ?hg (N := 4) ?hd (cs := #[.int .i64 0, .bool false]) (t := 93) ?hr ?_; (case hd => rfl); (case hg => rfl); (case hr => first | (go_simp; done) | (go_simp; rfl)); intro gb326 hg w4 hbox hb; have n0_ := Aside0.mk (below_step bB_ hb); have n1_ := Aside0.mk (hbox); have n2_ := Aside0.mk ((by rw [hg]; exact (below_size bB_) : w.heap.size ≤ gb326)); have n3_ := Aside0.mk ((by rw [hg]; exact (below_size bB_) : w.heap.size ≤ gb326)); clear HB; have HB := n0_; have BK326 := n1_; have GW326 := n2_; have GE326 := n3_; clear n0_ n1_ n2_ n3_; clear hb hbox hg) | ((with_reducible refine gate_callee (f := 100) rfl ?_); refine goesL_ (some 10) rfl rfl Try.func100 (by kernel_rfl) rfl #[.slice A0 l0.length c0, .string a1] rfl mT_ ?_; (with_reducible refine (impl_valueAt.calls k _ _ l0 a1 t327 t328 _ ?side1 ?side2 A3.out).mono ?_); (case side1 => exact cA_ (Kd.C_below HR0.out HB.out)); (case side2 => exact HC0.out); rintro e w5 ⟨rfl, hb⟩; refine ⟨_, rfl, ?_⟩; have n0_ := Aside0.mk (blk_below (g := gb326) (o := .cells #[.int .i64 0, .bool false] 93 (0, 0)) (bK_ BK326.out) hb); have n1_ := Aside0.mk (below_step (bC_ GE326.out) hb); clear BK326; clear HB; have BK326 := n0_; have HB := n1_; clear n0_ n1_; (try clear hb); (try clear hb2); (try clear hk); (try clear hi); have hcz6_0 : w5.cell? ⟨gb326, 0, none⟩ = some (.int .i64 0) := (blk_cell BK326.out 0).trans rfl; have hcz6_1 : w5.cell? ⟨gb326, 1, none⟩ = some (.bool false) := (blk_cell BK326.out 1).trans rfl; have hfz6_0 := blk_frozen BK326.out 0; have hfz6_1 := blk_frozen BK326.out 1))
 refine bodyPost_ret (results_cell_row rfl _ _ gb326 93 #[.int .i64 t327, .bool t328] (0, 0) _ rfl (by (with_reducible repeat (first | refine blk_drewN ?_ _ | refine blk_drew ?_ | refine blk_alloc ?_ _)); refine blk_put (cs := #[.int .i64 t327, .bool false]) ?_ 1 _ rfl; (with_reducible repeat (first | refine blk_drewN ?_ _ | refine blk_drew ?_ | refine blk_alloc ?_ _)); refine blk_put (cs := #[.int .i64 0, .bool false]) ?_ 0 _ rfl; (with_reducible repeat (first | refine blk_drewN ?_ _ | refine blk_drew ?_ | refine blk_alloc ?_ _)); exact BK326.out) Try.underlying93 rfl (by kernel_rfl)) rfl ?_
 exact ⟨er_, bC_ GE326.out⟩

end Go.Proofs.Ytenjhbkpcelidaa.PFnExactMergeVersions
