-- PRINTED by print.py (a twelfth state) out of the translation. Not trusted: Lean checks it.
import Derived.Test.YtobhjkpegcfdfaaPFnExactHotSpotsx0
import Derived.Test.YtobhjkpegcfdfaaPFnExactHotSpotsx1
namespace Go.Proofs.Ytobhjkpegcfdfaa.PFnExactHotSpots
open Go.RowKit Go.Proofs.YtobhjkpegcfdfaaW.PrintWords Go.Proofs.YtobhjkpegcfdfaaW.PrintLast Go.Proofs.YtobhjkpegcfdfaaW.PrintMore
attribute [local go_sem] max2_int min2_int max_two min_two max_three min_three max_four min_four   -- for this text's walks alone
set_option linter.unusedVariables false
set_option linter.unusedSimpArgs false

/-! ### spec_HotSpots: function 15 -/
mutual
def spec_HotSpots.l0 : Nat → List (List Int) → Int → Int → Int → List Bool → List (S116) → Int → Option ((List (S116)) × Int)
 | 0, _, _, _, _, _, _, _ => none
 | k + 1, x0, x1, x6, x7, x8, x9, x10 => if x10 < (wrap64 (x6 * x7)) then (if 0 ≤ x10 then (if x10 < (x8.length : Int) then (if rdOf false x8 x10 = true then (spec_HotSpots.j1 k x0 x1 x6 x7 x8 x9 x10 true) else (if x7 = 0 then (none) else (if 0 ≤ (wrap64 (Int.tdiv x10 x7)) then (if (wrap64 (Int.tdiv x10 x7)) < (x0.length : Int) then (if 0 ≤ (Int.tmod x10 x7) then (if (Int.tmod x10 x7) < ((rd_L1 x0 (wrap64 (Int.tdiv x10 x7))).length : Int) then (spec_HotSpots.j1 k x0 x1 x6 x7 x8 x9 x10 (decide ((rd (rd_L1 x0 (wrap64 (Int.tdiv x10 x7))) (Int.tmod x10 x7)) ≤ x1))) else (none)) else (none)) else (none)) else (none)))) else (none)) else (none)) else (if (x9.length : Int) > 64 then (some (([] : List (S116)), 5)) else (some (x9, 0)))
def spec_HotSpots.j1 : Nat → List (List Int) → Int → Int → Int → List Bool → List (S116) → Int → Bool → Option ((List (S116)) × Int)
 | 0, _, _, _, _, _, _, _, _ => none
 | k + 1, x0, x1, x6, x7, x8, x9, x10, x62 => if x62 = true then (spec_HotSpots.l0 k x0 x1 x6 x7 x8 x9 (wrap64 (x10 + 1))) else (if x7 = 0 then (none) else (if 0 ≤ (wrap64 (Int.tdiv x10 x7)) then (if (wrap64 (Int.tdiv x10 x7)) < (x0.length : Int) then (if 0 ≤ (Int.tmod x10 x7) then (if (Int.tmod x10 x7) < ((rd_L1 x0 (wrap64 (Int.tdiv x10 x7))).length : Int) then (if 0 ≤ x10 then (if x10 < (x8.length : Int) then (spec_HotSpots.l1 k x0 x1 x6 x7 (x8.set (x10 : Int).toNat true) x9 x10 (([x10] : List Int)) 0 (wrap64 (Int.tdiv x10 x7)) (Int.tmod x10 x7) 0 (rd (rd_L1 x0 (wrap64 (Int.tdiv x10 x7))) (Int.tmod x10 x7))) else (none)) else (none)) else (none)) else (none)) else (none)) else (none)))
def spec_HotSpots.l1 : Nat → List (List Int) → Int → Int → Int → List Bool → List (S116) → Int → List Int → Int → Int → Int → Int → Int → Option ((List (S116)) × Int)
 | 0, _, _, _, _, _, _, _, _, _, _, _, _, _ => none
 | k + 1, x0, x1, x6, x7, x8, x9, x10, x12, x13, x127000, x127001, x127002, x127003 => if x13 < (x12.length : Int) then (if 0 ≤ x13 then (if x7 = 0 then (none) else (if 0 ≤ (wrap64 (Int.tdiv (rd x12 x13) x7)) then (if (wrap64 (Int.tdiv (rd x12 x13) x7)) < (x0.length : Int) then (if 0 ≤ (Int.tmod (rd x12 x13) x7) then (if (Int.tmod (rd x12 x13) x7) < ((rd_L1 x0 (wrap64 (Int.tdiv (rd x12 x13) x7))).length : Int) then ((spec_l00Max.f x127003 (rd (rd_L1 x0 (wrap64 (Int.tdiv (rd x12 x13) x7))) (Int.tmod (rd x12 x13) x7))).bind fun t138 => (spec_HotSpots.l2 k x0 x1 x6 x7 x8 x9 x10 x12 x13 (([(([wrap64 ((wrap64 (Int.tdiv (rd x12 x13) x7)) - 1), Int.tmod (rd x12 x13) x7] : List Int)), (([wrap64 (Int.tdiv (rd x12 x13) x7), wrap64 ((Int.tmod (rd x12 x13) x7) - 1)] : List Int)), (([wrap64 (Int.tdiv (rd x12 x13) x7), wrap64 ((Int.tmod (rd x12 x13) x7) + 1)] : List Int)), (([wrap64 ((wrap64 (Int.tdiv (rd x12 x13) x7)) + 1), Int.tmod (rd x12 x13) x7] : List Int))] : List (List Int))) 0 x127000 x127001 (wrap64 (x127002 + 1)) t138)) else (none)) else (none)) else (none)) else (none))) else (none)) else (if x9.length < 4398046511104 then (spec_HotSpots.l0 k x0 x1 x6 x7 x8 (x9 ++ [(⟨x127000, x127001, x127002, x127003⟩ : S116)]) (wrap64 (x10 + 1))) else (none))
def spec_HotSpots.l2 : Nat → List (List Int) → Int → Int → Int → List Bool → List (S116) → Int → List Int → Int → List (List Int) → Int → Int → Int → Int → Int → Option ((List (S116)) × Int)
 | 0, _, _, _, _, _, _, _, _, _, _, _, _, _, _, _ => none
 | k + 1, x0, x1, x6, x7, x8, x9, x10, x12, x13, x16, x17, x127000, x127001, x127002, x127003 => if x17 < 4 then (if 0 ≤ x17 then (if x17 < (x16.length : Int) then (if 0 < ((rd_L2 x16 x17).length : Int) then (if 1 < ((rd_L2 x16 x17).length : Int) then (if (rd (rd_L2 x16 x17) 0) < 0 then (spec_HotSpots.l2 k x0 x1 x6 x7 x8 x9 x10 x12 x13 x16 (wrap64 (x17 + 1)) x127000 x127001 x127002 x127003) else (if (rd (rd_L2 x16 x17) 0) ≥ x6 then (spec_HotSpots.l2 k x0 x1 x6 x7 x8 x9 x10 x12 x13 x16 (wrap64 (x17 + 1)) x127000 x127001 x127002 x127003) else (if (rd (rd_L2 x16 x17) 1) < 0 then (spec_HotSpots.l2 k x0 x1 x6 x7 x8 x9 x10 x12 x13 x16 (wrap64 (x17 + 1)) x127000 x127001 x127002 x127003) else (if (rd (rd_L2 x16 x17) 1) ≥ x7 then (spec_HotSpots.l2 k x0 x1 x6 x7 x8 x9 x10 x12 x13 x16 (wrap64 (x17 + 1)) x127000 x127001 x127002 x127003) else (if 0 ≤ (wrap64 ((wrap64 ((rd (rd_L2 x16 x17) 0) * x7)) + (rd (rd_L2 x16 x17) 1))) then (if (wrap64 ((wrap64 ((rd (rd_L2 x16 x17) 0) * x7)) + (rd (rd_L2 x16 x17) 1))) < (x8.length : Int) then (if rdOf false x8 (wrap64 ((wrap64 ((rd (rd_L2 x16 x17) 0) * x7)) + (rd (rd_L2 x16 x17) 1))) = true then (spec_HotSpots.l2 k x0 x1 x6 x7 x8 x9 x10 x12 x13 x16 (wrap64 (x17 + 1)) x127000 x127001 x127002 x127003) else (if 0 ≤ (rd (rd_L2 x16 x17) 0) then (if (rd (rd_L2 x16 x17) 0) < (x0.length : Int) then (if 0 ≤ (rd (rd_L2 x16 x17) 1) then (if (rd (rd_L2 x16 x17) 1) < ((rd_L1 x0 (rd (rd_L2 x16 x17) 0)).length : Int) then (if (rd (rd_L1 x0 (rd (rd_L2 x16 x17) 0)) (rd (rd_L2 x16 x17) 1)) ≤ x1 then (spec_HotSpots.l2 k x0 x1 x6 x7 x8 x9 x10 x12 x13 x16 (wrap64 (x17 + 1)) x127000 x127001 x127002 x127003) else (if x12.length < 17592186044416 then (spec_HotSpots.l2 k x0 x1 x6 x7 (x8.set ((wrap64 ((wrap64 ((rd (rd_L2 x16 x17) 0) * x7)) + (rd (rd_L2 x16 x17) 1))) : Int).toNat true) x9 x10 (x12 ++ [wrap64 ((wrap64 ((rd (rd_L2 x16 x17) 0) * x7)) + (rd (rd_L2 x16 x17) 1))]) x13 x16 (wrap64 (x17 + 1)) x127000 x127001 x127002 x127003) else (none))) else (none)) else (none)) else (none)) else (none))) else (none)) else (none)))))) else (none)) else (none)) else (none)) else (none)) else (spec_HotSpots.l1 k x0 x1 x6 x7 x8 x9 x10 x12 (wrap64 (x13 + 1)) x127000 x127001 x127002 x127003)
end
def spec_HotSpots.f (k : Nat) (l0 : List (List Int)) (a1 : Int) : Option ((List (S116)) × Int) := (spec_l28Ok.f k l0).bind fun t112 => (if t112 = true then ((spec_l28Cell.f a1).bind fun t113 => (if t113 = true then (if 0 < (l0.length : Int) then (if 0 ≤ (wrap64 ((l0.length : Int) * ((rd_L1 l0 0).length : Int))) then (if (wrap64 ((l0.length : Int) * ((rd_L1 l0 0).length : Int)) : Int).toNat ≤ 281474976710656 then (spec_HotSpots.l0 k l0 a1 (l0.length : Int) ((rd_L1 l0 0).length : Int) (List.replicate (wrap64 ((l0.length : Int) * ((rd_L1 l0 0).length : Int)) : Int).toNat false) (([] : List (S116))) 0) else (none)) else (none)) else (none)) else (some (([] : List (S116)), 2)))) else (some (([] : List (S116)), 1)))
theorem spec_HotSpots.mono_l : ∀ k, (∀ y0 y1 y2 y3 y4 y5 y6, LeO (spec_HotSpots.l0 k y0 y1 y2 y3 y4 y5 y6) (spec_HotSpots.l0 (k + 1) y0 y1 y2 y3 y4 y5 y6)) ∧ (∀ y0 y1 y2 y3 y4 y5 y6 y7, LeO (spec_HotSpots.j1 k y0 y1 y2 y3 y4 y5 y6 y7) (spec_HotSpots.j1 (k + 1) y0 y1 y2 y3 y4 y5 y6 y7)) ∧ (∀ y0 y1 y2 y3 y4 y5 y6 y7 y8 y9 y10 y11 y12, LeO (spec_HotSpots.l1 k y0 y1 y2 y3 y4 y5 y6 y7 y8 y9 y10 y11 y12) (spec_HotSpots.l1 (k + 1) y0 y1 y2 y3 y4 y5 y6 y7 y8 y9 y10 y11 y12)) ∧ (∀ y0 y1 y2 y3 y4 y5 y6 y7 y8 y9 y10 y11 y12 y13 y14, LeO (spec_HotSpots.l2 k y0 y1 y2 y3 y4 y5 y6 y7 y8 y9 y10 y11 y12 y13 y14) (spec_HotSpots.l2 (k + 1) y0 y1 y2 y3 y4 y5 y6 y7 y8 y9 y10 y11 y12 y13 y14))
 | 0 => ⟨fun _ _ _ _ _ _ _ r h => by simp [spec_HotSpots.l0] at h, fun _ _ _ _ _ _ _ _ r h => by simp [spec_HotSpots.j1] at h, fun _ _ _ _ _ _ _ _ _ _ _ _ _ r h => by simp [spec_HotSpots.l1] at h, fun _ _ _ _ _ _ _ _ _ _ _ _ _ _ _ r h => by simp [spec_HotSpots.l2] at h⟩
 | k + 1 => by
  obtain ⟨ih0, ih1, ih2, ih3⟩ := spec_HotSpots.mono_l k
  refine ⟨?_, ?_, ?_, ?_⟩
  ·
   intro y0 y1 y2 y3 y4 y5 y6
   unfold spec_HotSpots.l0
   repeat' first
   | (with_reducible exact ih0 _ _ _ _ _ _ _)
   | (with_reducible exact ih1 _ _ _ _ _ _ _ _)
   | (with_reducible exact ih2 _ _ _ _ _ _ _ _ _ _ _ _ _)
   | (with_reducible exact ih3 _ _ _ _ _ _ _ _ _ _ _ _ _ _ _)
   | (with_reducible exact spec_l28Ok.mono _ _)
   | (with_reducible exact LeO.refl _)
   | (with_reducible exact LeO.none _)
   | (with_reducible refine LeO.ite ?_ ?_)
   | (with_reducible refine LeO.bind ?_ (fun _ => ?_))
   | exact ih0 _ _ _ _ _ _ _
   | exact ih1 _ _ _ _ _ _ _ _
   | exact ih2 _ _ _ _ _ _ _ _ _ _ _ _ _
   | exact ih3 _ _ _ _ _ _ _ _ _ _ _ _ _ _ _
   | exact spec_l28Ok.mono _ _
   | exact LeO.none _
   | refine LeO.ite ?_ ?_
   | refine LeO.bind ?_ (fun _ => ?_)
  ·
   intro y0 y1 y2 y3 y4 y5 y6 y7
   unfold spec_HotSpots.j1
   repeat' first
   | (with_reducible exact ih0 _ _ _ _ _ _ _)
   | (with_reducible exact ih1 _ _ _ _ _ _ _ _)
   | (with_reducible exact ih2 _ _ _ _ _ _ _ _ _ _ _ _ _)
   | (with_reducible exact ih3 _ _ _ _ _ _ _ _ _ _ _ _ _ _ _)
   | (with_reducible exact spec_l28Ok.mono _ _)
   | (with_reducible exact LeO.refl _)
   | (with_reducible exact LeO.none _)
   | (with_reducible refine LeO.ite ?_ ?_)
   | (with_reducible refine LeO.bind ?_ (fun _ => ?_))
   | exact ih0 _ _ _ _ _ _ _
   | exact ih1 _ _ _ _ _ _ _ _
   | exact ih2 _ _ _ _ _ _ _ _ _ _ _ _ _
   | exact ih3 _ _ _ _ _ _ _ _ _ _ _ _ _ _ _
   | exact spec_l28Ok.mono _ _
   | exact LeO.none _
   | refine LeO.ite ?_ ?_
   | refine LeO.bind ?_ (fun _ => ?_)
  ·
   intro y0 y1 y2 y3 y4 y5 y6 y7 y8 y9 y10 y11 y12
   unfold spec_HotSpots.l1
   repeat' first
   | (with_reducible exact ih0 _ _ _ _ _ _ _)
   | (with_reducible exact ih1 _ _ _ _ _ _ _ _)
   | (with_reducible exact ih2 _ _ _ _ _ _ _ _ _ _ _ _ _)
   | (with_reducible exact ih3 _ _ _ _ _ _ _ _ _ _ _ _ _ _ _)
   | (with_reducible exact spec_l28Ok.mono _ _)
   | (with_reducible exact LeO.refl _)
   | (with_reducible exact LeO.none _)
   | (with_reducible refine LeO.ite ?_ ?_)
   | (with_reducible refine LeO.bind ?_ (fun _ => ?_))
   | exact ih0 _ _ _ _ _ _ _
   | exact ih1 _ _ _ _ _ _ _ _
   | exact ih2 _ _ _ _ _ _ _ _ _ _ _ _ _
   | exact ih3 _ _ _ _ _ _ _ _ _ _ _ _ _ _ _
   | exact spec_l28Ok.mono _ _
   | exact LeO.none _
   | refine LeO.ite ?_ ?_
   | refine LeO.bind ?_ (fun _ => ?_)
  ·
   intro y0 y1 y2 y3 y4 y5 y6 y7 y8 y9 y10 y11 y12 y13 y14
   unfold spec_HotSpots.l2
   repeat' first
   | (with_reducible exact ih0 _ _ _ _ _ _ _)
   | (with_reducible exact ih1 _ _ _ _ _ _ _ _)
   | (with_reducible exact ih2 _ _ _ _ _ _ _ _ _ _ _ _ _)
   | (with_reducible exact ih3 _ _ _ _ _ _ _ _ _ _ _ _ _ _ _)
   | (with_reducible exact spec_l28Ok.mono _ _)
   | (with_reducible exact LeO.refl _)
   | (with_reducible exact LeO.none _)
   | (with_reducible refine LeO.ite ?_ ?_)
   | (with_reducible refine LeO.bind ?_ (fun _ => ?_))
   | exact ih0 _ _ _ _ _ _ _
   | exact ih1 _ _ _ _ _ _ _ _
   | exact ih2 _ _ _ _ _ _ _ _ _ _ _ _ _
   | exact ih3 _ _ _ _ _ _ _ _ _ _ _ _ _ _ _
   | exact spec_l28Ok.mono _ _
   | exact LeO.none _
   | refine LeO.ite ?_ ?_
   | refine LeO.bind ?_ (fun _ => ?_)
theorem spec_HotSpots.mono : ∀ a0 a1 k, LeO (spec_HotSpots.f k a0 a1) (spec_HotSpots.f (k + 1) a0 a1) := by
 intro a0 a1 k
 obtain ⟨ih0, ih1, ih2, ih3⟩ := spec_HotSpots.mono_l k
 unfold spec_HotSpots.f
 repeat' first
   | (with_reducible exact ih0 _ _ _ _ _ _ _)
   | (with_reducible exact ih1 _ _ _ _ _ _ _ _)
   | (with_reducible exact ih2 _ _ _ _ _ _ _ _ _ _ _ _ _)
   | (with_reducible exact ih3 _ _ _ _ _ _ _ _ _ _ _ _ _ _ _)
   | (with_reducible exact spec_l28Ok.mono _ _)
   | (with_reducible exact LeO.refl _)
   | (with_reducible exact LeO.none _)
   | (with_reducible refine LeO.ite ?_ ?_)
   | (with_reducible refine LeO.bind ?_ (fun _ => ?_))
   | exact ih0 _ _ _ _ _ _ _
   | exact ih1 _ _ _ _ _ _ _ _
   | exact ih2 _ _ _ _ _ _ _ _ _ _ _ _ _
   | exact ih3 _ _ _ _ _ _ _ _ _ _ _ _ _ _ _
   | exact spec_l28Ok.mono _ _
   | exact LeO.none _
   | refine LeO.ite ?_ ?_
   | refine LeO.bind ?_ (fun _ => ?_)
def spec_HotSpots.T12 : Bool × List (List Nat × List Nat) := (true, [([], []), ([], []), ([0, 1], [0, 1]), ([2], [2]), ([3], [3]), ([4], [4]), ([4], [4]), ([4], [4]), ([6, 7, 4], [4, 6, 7]), ([5, 8, 4], [4, 5, 8]), ([9, 4], [4, 9]), ([4], [4]), ([4], [4]), ([11, 12, 4], [4, 11, 12]), ([10, 13, 4], [4, 10, 13]), ([14, 4], [4, 14]), ([4], [4]), ([15, 16, 4], [4, 15, 16]), ([4, 17], [4, 17])])
def spec_HotSpots.B12 : List Nat := [0, 0, 3, 7, 15, 31, 31, 31, 223, 511, 1023, 31, 31, 6175, 16383, 32767, 31, 131071, 262143]
theorem spec_HotSpots.tab12 : rtab .any (opsOf Try.f15 12) = spec_HotSpots.T12 := by kernel_rfl
theorem spec_HotSpots.bits12 : waitsOk spec_HotSpots.T12.2 spec_HotSpots.B12 = true := by kernel_rfl
def spec_HotSpots.T13 : Bool × List (List Nat × List Nat) := (true, [([], []), ([], []), ([0, 1], [0, 1]), ([], []), ([], []), ([3, 4], [3, 4]), ([], []), ([], []), ([], []), ([7, 8], [7, 8]), ([6, 9], [6, 9]), ([10], [10]), ([], []), ([], []), ([12, 13], [12, 13]), ([11, 14], [11, 14]), ([15], [15]), ([2, 5, 16], [2, 5, 16]), ([], []), ([18, 17, 0, 1, 2, 3, 4, 5, 6, 7, 8, 9, 10, 11, 12, 13, 14, 15, 16, 17, 18], [17, 18])])
def spec_HotSpots.B13 : List Nat := [0, 0, 3, 0, 0, 24, 0, 0, 0, 384, 960, 1984, 0, 0, 12288, 32704, 65472, 131071, 0, 524287]
theorem spec_HotSpots.tab13 : rtab .any (opsOf Try.f15 13) = spec_HotSpots.T13 := by kernel_rfl
theorem spec_HotSpots.bits13 : waitsOk spec_HotSpots.T13.2 spec_HotSpots.B13 = true := by kernel_rfl
def spec_HotSpots.T22 : Bool × List (List Nat × List Nat) := (true, [([], []), ([0], [0]), ([], []), ([], []), ([2, 3], [2, 3]), ([4], [4]), ([], []), ([5, 6], [5, 6]), ([7], [7]), ([1, 8], [1, 8]), ([0, 1, 2, 3, 4, 5, 6, 7, 8, 9], []), ([10, 9, 9, 0, 1, 2, 3, 4, 5, 6, 7, 8, 9], [9, 10])])
def spec_HotSpots.B22 : List Nat := [0, 1, 0, 0, 12, 28, 0, 124, 252, 511, 1023, 2047]
theorem spec_HotSpots.tab22 : rtab .any (opsOf Try.f15 22) = spec_HotSpots.T22 := by kernel_rfl
theorem spec_HotSpots.bits22 : waitsOk spec_HotSpots.T22.2 spec_HotSpots.B22 = true := by kernel_rfl
set_option maxHeartbeats 8000000 in
set_option maxRecDepth 100000 in
theorem spec_HotSpots.calls (k : Nat) (A0 : Option Addr) (c0 : Nat) (l0 : List (List Int)) (a1 : Int) (r1 : List (S116)) (r2 : Int) (w : World) (hr0 : Kd.C (Kd.slice 2 (Kd.int .i64)) w A0 l0.length l0) (hc0 : l0.length ≤ c0) (h : spec_HotSpots.f k l0 a1 = some (r1, r2)) :
  Calls Try.prog 15 #[.slice A0 l0.length c0, .int .i64 a1] w fun e w' => ∃ v0_ : Value, e = .returned (.tuple #[v0_, .int .i64 r2]) ∧ Kd.R k116 116 w' w.heap.size (fun _ => True) v0_ r1 ∧ Below w.heap.size w w' := by
 have hu116 := Try.underlying116
 have HR0 := Aside0.mk hr0
 have HC0 := Aside0.mk hc0
 clear hr0 hc0
 have HB := Aside0.mk (Below.refl w.heap.size w)
 have H : ((spec_l28Ok.f k l0).bind fun t112 => (if t112 = true then ((spec_l28Cell.f a1).bind fun t113 => (if t113 = true then (if 0 < (l0.length : Int) then (if 0 ≤ (wrap64 ((l0.length : Int) * ((rd_L1 l0 0).length : Int))) then (if (wrap64 ((l0.length : Int) * ((rd_L1 l0 0).length : Int)) : Int).toNat ≤ 281474976710656 then (spec_HotSpots.l0 k l0 a1 (l0.length : Int) ((rd_L1 l0 0).length : Int) (List.replicate (wrap64 ((l0.length : Int) * ((rd_L1 l0 0).length : Int)) : Int).toNat false) (([] : List (S116))) 0) else (none)) else (none)) else (none)) else (some (([] : List (S116)), 2)))) else (some (([] : List (S116)), 1)))) = some (r1, r2) := h
 clear h
 replace H := Option.bind_eq_some_iff.mp H
 obtain ⟨t112, A30, H⟩ := H
 replace H : (if t112 = true then ((spec_l28Cell.f a1).bind fun t113 => (if t113 = true then (if 0 < (l0.length : Int) then (if 0 ≤ (wrap64 ((l0.length : Int) * ((rd_L1 l0 0).length : Int))) then (if (wrap64 ((l0.length : Int) * ((rd_L1 l0 0).length : Int)) : Int).toNat ≤ 281474976710656 then (spec_HotSpots.l0 k l0 a1 (l0.length : Int) ((rd_L1 l0 0).length : Int) (List.replicate (wrap64 ((l0.length : Int) * ((rd_L1 l0 0).length : Int)) : Int).toNat false) (([] : List (S116))) 0) else (none)) else (none)) else (none)) else (some (([] : List (S116)), 2)))) else (some (([] : List (S116)), 1))) = some (r1, r2) := H
 have A3 := Aside0.mk A30
 clear A30
 by_cases c4 : t112 = true
 ·
  subst c4
  have H1 : ((spec_l28Cell.f a1).bind fun t113 => (if t113 = true then (if 0 < (l0.length : Int) then (if 0 ≤ (wrap64 ((l0.length : Int) * ((rd_L1 l0 0).length : Int))) then (if (wrap64 ((l0.length : Int) * ((rd_L1 l0 0).length : Int)) : Int).toNat ≤ 281474976710656 then (spec_HotSpots.l0 k l0 a1 (l0.length : Int) ((rd_L1 l0 0).length : Int) (List.replicate (wrap64 ((l0.length : Int) * ((rd_L1 l0 0).length : Int)) : Int).toNat false) (([] : List (S116))) 0) else (none)) else (none)) else (none)) else (some (([] : List (S116)), 2)))) = some (r1, r2) := by rw [if_pos rfl] at H; exact H
  clear H
  have H := H1
  clear H1
  replace H := Option.bind_eq_some_iff.mp H
  obtain ⟨t113, A50, H⟩ := H
  replace H : (if t113 = true then (if 0 < (l0.length : Int) then (if 0 ≤ (wrap64 ((l0.length : Int) * ((rd_L1 l0 0).length : Int))) then (if (wrap64 ((l0.length : Int) * ((rd_L1 l0 0).length : Int)) : Int).toNat ≤ 281474976710656 then (spec_HotSpots.l0 k l0 a1 (l0.length : Int) ((rd_L1 l0 0).length : Int) (List.replicate (wrap64 ((l0.length : Int) * ((rd_L1 l0 0).length : Int)) : Int).toNat false) (([] : List (S116))) 0) else (none)) else (none)) else (none)) else (some (([] : List (S116)), 2))) = some (r1, r2) := H
  have A5 := Aside0.mk A50
  clear A50
  by_cases c6 : t113 = true
  ·
   subst c6
   have H1 : (if 0 < (l0.length : Int) then (if 0 ≤ (wrap64 ((l0.length : Int) * ((rd_L1 l0 0).length : Int))) then (if (wrap64 ((l0.length : Int) * ((rd_L1 l0 0).length : Int)) : Int).toNat ≤ 281474976710656 then (spec_HotSpots.l0 k l0 a1 (l0.length : Int) ((rd_L1 l0 0).length : Int) (List.replicate (wrap64 ((l0.length : Int) * ((rd_L1 l0 0).length : Int)) : Int).toNat false) (([] : List (S116))) 0) else (none)) else (none)) else (none)) = some (r1, r2) := by rw [if_pos rfl] at H; exact H
   clear H
   have H := H1
   clear H1
   by_cases c7 : 0 < (l0.length : Int)
   ·
    rw [if_pos c7] at H
    have c7b0 : decide (0 < (l0.length : Int)) = true := decide_eq_true c7
    have c7b1 : decide (0 < l0.length) = true := decide_eq_true (by omega)
    clear c7
    obtain ⟨ji8, hji8⟩ : ∃ j_ : Int, (wrap64 ((l0.length : Int) * ((rd_L1 l0 0).length : Int))) = j_ := ⟨_, rfl⟩
    replace H : (if 0 ≤ (ji8) then (if (ji8 : Int).toNat ≤ 281474976710656 then (spec_HotSpots.l0 k l0 a1 (l0.length : Int) ((rd_L1 l0 0).length : Int) (List.replicate (ji8 : Int).toNat false) (([] : List (S116))) 0) else (none)) else (none)) = some (r1, r2) := by first | (rw [hji8] at H; exact H) | (simp only [hji8] at H ⊢; exact H)
    (try rw [hji8] at A3)
    (try rw [hji8] at A5)
    have hji8w : (IntKind.i64.wrap ((l0.length : Int) * ((rd_L1 l0 0).length : Int))) = ji8 := (i64_w _).trans hji8
    by_cases c9 : 0 ≤ (ji8)
    ·
     rw [if_pos c9] at H
     have c9b0 := eq_true c9
     have c9b1 : decide (0 ≤ (ji8)) = true := decide_eq_true c9
     clear c9
     by_cases c10 : (ji8 : Int).toNat ≤ 281474976710656
     ·
      rw [if_pos c10] at H
      have c10b0 := eq_true c10
      have c10b1 : decide ((ji8 : Int).toNat ≤ 281474976710656) = true := decide_eq_true c10
      clear c10
      obtain ⟨y115, hy115⟩ : ∃ y_ : List Bool, y_ = (List.replicate (ji8 : Int).toNat false) := ⟨_, rfl⟩
      replace H : (spec_HotSpots.l0 k l0 a1 (l0.length : Int) ((rd_L1 l0 0).length : Int) y115 (([] : List (S116))) 0) = some (r1, r2) := by first | (rw [hy115]; with_reducible exact H) | (have H2_ := (Option.bind_some _ _).symm.trans H; rw [hy115]; with_reducible exact H2_) | (have H2_ := (Option.bind_some _ _).symm.trans H; with_reducible exact H2_) | with_reducible exact H | (rw [hy115]; exact H) | exact H
      have Ny115 := Aside0.mk hy115
      clear hy115
      obtain ⟨y118, hy118⟩ : ∃ y_ : List (S116), y_ = (([] : List (S116))) := ⟨_, rfl⟩
      replace H : (spec_HotSpots.l0 k l0 a1 (l0.length : Int) ((rd_L1 l0 0).length : Int) y115 y118 0) = some (r1, r2) := by first | (rw [hy118]; with_reducible exact H) | (have H2_ := (Option.bind_some _ _).symm.trans H; rw [hy118]; with_reducible exact H2_) | (have H2_ := (Option.bind_some _ _).symm.trans H; with_reducible exact H2_) | with_reducible exact H | (rw [hy118]; exact H) | exact H
      have Ny118 := Aside0.mk hy118
      clear hy118
      have H' := Aside0.mk H
      clear H
      go_enter Try.func15, Try.ntmps15
      go_wp2_with (first | ((with_reducible refine gate_callee (f := 85) rfl ?_); refine goesL_ (some 21) rfl rfl Try.func85 (by kernel_rfl) rfl #[.slice A0 l0.length c0] rfl (by (try simp only [List.map_toArray, List.map_cons, List.map_nil]); first | done | rfl | (simp only [List.length_drop, List.length_take]; rfl)) ?_; (with_reducible refine (spec_l28Ok.calls k _ _ l0 true _ ?side1 ?side2 A3.out).mono ?_); (case side1 => repeat (first | exact HR0.out | (with_reducible refine Kd.C_alloc ?_ _) | (with_reducible refine Kd.C_drewN ?_ _) | (with_reducible refine Kd.C_drew ?_))); (case side2 => exact HC0.out); rintro e w' ⟨rfl, ⟨nd, rfl⟩⟩; refine ⟨_, rfl, ?_⟩) | ((with_reducible refine gate_callee (f := 86) rfl ?_); refine goesL_ (some 24) rfl rfl Try.func86 (by kernel_rfl) rfl #[.int .i64 a1] rfl (by (try simp only [List.map_toArray, List.map_cons, List.map_nil]); first | done | rfl | (simp only [List.length_drop, List.length_take]; rfl)) ?_; (with_reducible refine (spec_l28Cell.calls a1 true _ A5.out).mono ?_); rintro e w' ⟨rfl, ⟨nd, rfl⟩⟩; refine ⟨_, rfl, ?_⟩; have p114 : 0 ≤ (0 : Int) := (by omega); have q114 : 0 < (l0.length : Int) := of_decide_eq_true (by first | (with_reducible assumption) | assumption); obtain ⟨ad114, A114_0, c114_0, e114, hx114_0, hl114_0, hi114_0⟩ := at_L1 HR0.out 0 p114 q114; cases e114; have qi114 : (0 < l0.length) = True := eq_true (by omega); (try rw [show ((0 : Int)).toNat = 0 from rfl] at hx114_0); (try rw [Addr.add_zero'] at hx114_0); have HR114_0 := Aside0.mk hi114_0; have HC114_0 := Aside0.mk hl114_0; clear hi114_0 hl114_0; replace p114 := eq_true p114; replace q114 := eq_true q114) | ((with_reducible refine gate_dst (N := 35) rfl ?_); refine Kd.R_make Kd.bool _ 4 rfl (N := 35) rfl 79 _ _ rfl ji8 rfl rfl Try.underlying79 (.bool false) 1 info4 rfl (by decide) (by omega) false (ok := fun _ => True) (okp := fun _ => True) rfl (fun _ hk => hk) trivial (of_decide_eq_true (by first | (with_reducible assumption) | assumption)) (Nat.le_trans (Nat.mul_le_mul_right _ (of_decide_eq_true (by first | (with_reducible assumption) | assumption) : ji8.toNat ≤ 281474976710656)) (by omega)) (Below.refl _ _) (Nat.le_refl _) ?_; intro v116 w11 ho12 hb hg_ hnew_; clear hg_ hnew_; (first | rw [← Ny115.out] at ho12 | (simp only [Int.reduceToNat] at ho12; rw [← Ny115.out] at ho12)); have n0_ := Aside0.mk (Kd.R_lower ho12 (below_size (by repeat (first | (with_reducible first | exact HB.out | apply below_alloc | apply pw_below_drewN | apply below_drew1) | exact HB.out)))); have n1_ := Aside0.mk (below_step (by repeat (first | (with_reducible first | exact HB.out | apply below_alloc | apply pw_below_drewN | apply below_drew1) | exact HB.out)) hb); clear HB; have HO117 := n0_; have HB := n1_; clear n0_ n1_; clear hb ho12) | ((with_reducible refine gate_dst (N := 36) rfl ?_); refine Kd.R_lit k116 _ 116 ?hg (N := 36) ?hd (xs := ([] : List (S116))) (inner := []) (ok := fun _ => True) (okp := fun _ => True) ?hr ?hp (fun _ hk => hk) trivial (Below.refl _ _) (Nat.le_refl _) (by simp) ?_; (case hd => rfl); (case hg => rfl); (case hr => first | (go_simp; done) | (go_simp; rfl)); (case hp => exact (Reps.none _ _)); intro v119 w13 ho14 hb hg_ hnew_; clear hg_ hnew_; (first | rw [← Ny118.out] at ho14 | (simp only [Int.reduceToNat] at ho14; rw [← Ny118.out] at ho14)); have n0_ := Aside0.mk (Kd.R_below (by (with_reducible repeat (first | apply Kd.R_alloc | apply Kd.R_drewN | apply Kd.R_drew)); exact HO117.out) hb); have n1_ := Aside0.mk (Kd.R_lower ho14 (below_size (by repeat (first | (with_reducible first | exact HB.out | apply below_alloc | apply pw_below_drewN | apply below_drew1) | exact HB.out)))); have n2_ := Aside0.mk (below_step (by repeat (first | (with_reducible first | exact HB.out | apply below_alloc | apply pw_below_drewN | apply below_drew1) | exact HB.out)) hb); clear HO117; clear HB; have HO117 := n0_; have HO120 := n1_; have HB := n2_; clear n0_ n1_ n2_; clear hb ho14))
      go_loopg [9, 10] k (fun kq v9 v10 w' => ∃ (x8_1 : List Bool) (x9_1 : List (S116)) (x10_1 : Int), v10 = .int .i64 x10_1 ∧ Aside0 (spec_HotSpots.l0 kq l0 a1 (l0.length : Int) ((rd_L1 l0 0).length : Int) x8_1 x9_1 x10_1 = some (r1, r2)) ∧ Aside0 (kq ≤ k) ∧ Aside0 (Kd.R Kd.bool 4 w' w.heap.size (fun _ => True) v116 x8_1) ∧ Aside0 (Kd.R k116 116 w' w.heap.size (fun _ => True) v9 x9_1) ∧ Aside0 (Below w.heap.size w w'))
      case atStart => exact ⟨(y115), (y118), (0), (by first | rfl | (simp; done) | (simp [*]; done)), H', ⟨Nat.le_refl _⟩, ⟨by (with_reducible repeat (first | apply Kd.R_alloc | apply Kd.R_drewN | apply Kd.R_drew)); exact HO117.out⟩, ⟨by (with_reducible repeat (first | apply Kd.R_alloc | apply Kd.R_drewN | apply Kd.R_drew)); exact HO120.out⟩, ⟨by repeat (first | (with_reducible first | exact HB.out | apply below_alloc | apply pw_below_drewN | apply below_drew1) | exact HB.out)⟩⟩
      case round =>
       as_aux_lemma =>
        clear H'
        try clear c1
        try clear p1
        try clear q1
        try clear hx1
        try clear qi1
        try clear p2
        try clear c4
        try clear c6
        try clear p6
        try clear c7
        try clear c7b0
        try clear c7b1
        try clear c8
        try clear c9
        try clear c9b0
        try clear c9b1
        try clear c10
        try clear c10b0
        try clear c10b1
        try clear c11
        try clear p11
        try clear q11
        try clear hx11
        try clear qi11
        try clear hx114_0
        try clear p114
        try clear q114
        obtain ⟨x8_1, x9_1, x10_1, rfl, HA, HK1, HO_8, HO_9, HB⟩ := hrel
        cases gk with
        | zero => exact absurd HA.out (by simp [spec_HotSpots.l0])
        | succ k1 =>
         have H := HA.out
         clear HA
         simp only [spec_HotSpots.l0] at H
         by_cases c15 : x10_1 < (wrap64 ((l0.length : Int) * ((rd_L1 l0 0).length : Int)))
         ·
          rw [if_pos c15] at H
          have c15b0 : decide (x10_1 < (wrap64 ((l0.length : Int) * ((rd_L1 l0 0).length : Int)))) = true := decide_eq_true c15
          (try have c15b0_ji8 : decide (x10_1 < ji8) = true := (by rw [← hji8]; exact c15b0))
          clear c15
          have HC16 := Aside0.mk H
          clear H
          go_upto_region 12 with (fail)
          go_cut [62] (fun v62 wc => ∃ (kq : Nat) (x62_15 : Bool), v62 = .bool x62_15 ∧ Aside0 (spec_HotSpots.j1 kq l0 a1 (l0.length : Int) ((rd_L1 l0 0).length : Int) x8_1 x9_1 x10_1 x62_15 = some (r1, r2)) ∧ Aside0 (kq ≤ k1) ∧ Aside0 (Kd.R Kd.bool 4 wc w.heap.size (fun _ => True) v116 x8_1) ∧ Aside0 (Kd.R k116 116 wc w.heap.size (fun _ => True) u9 x9_1) ∧ Aside0 (Below w.heap.size w wc))
          case first =>
           as_aux_lemma =>
            have H := HC16.out
            clear HC16
            by_cases c17 : 0 ≤ x10_1
            ·
             rw [if_pos c17] at H
             have c17b0 : decide (0 ≤ x10_1) = true := decide_eq_true c17
             clear c17
             (first | rw [c17b0] | (simp only [i64_w, i32_w]; rw [c17b0]) | skip)
             by_cases c18 : x10_1 < (x8_1.length : Int)
             ·
              rw [if_pos c18] at H
              have c18b0 : decide (x10_1 < (x8_1.length : Int)) = true := decide_eq_true c18
              clear c18
              obtain ⟨bq19, hbq19⟩ : ∃ b_ : Bool, b_ = (rdOf false x8_1 x10_1) := ⟨_, rfl⟩
              replace H : (if bq19 = true then (spec_HotSpots.j1 k1 l0 a1 (l0.length : Int) ((rd_L1 l0 0).length : Int) x8_1 x9_1 x10_1 true) else (if ((rd_L1 l0 0).length : Int) = 0 then (none) else (if 0 ≤ (wrap64 (Int.tdiv x10_1 ((rd_L1 l0 0).length : Int))) then (if (wrap64 (Int.tdiv x10_1 ((rd_L1 l0 0).length : Int))) < (l0.length : Int) then (if 0 ≤ (Int.tmod x10_1 ((rd_L1 l0 0).length : Int)) then (if (Int.tmod x10_1 ((rd_L1 l0 0).length : Int)) < ((rd_L1 l0 (wrap64 (Int.tdiv x10_1 ((rd_L1 l0 0).length : Int)))).length : Int) then (spec_HotSpots.j1 k1 l0 a1 (l0.length : Int) ((rd_L1 l0 0).length : Int) x8_1 x9_1 x10_1 (decide ((rd (rd_L1 l0 (wrap64 (Int.tdiv x10_1 ((rd_L1 l0 0).length : Int)))) (Int.tmod x10_1 ((rd_L1 l0 0).length : Int))) ≤ a1))) else (none)) else (none)) else (none)) else (none)))) = some (r1, r2) := by rw [← hbq19] at H; exact H
              have Nbq19 := Aside0.mk hbq19
              clear hbq19
              by_cases c20 : bq19 = true
              ·
               subst c20
               have H1 : (spec_HotSpots.j1 k1 l0 a1 (l0.length : Int) ((rd_L1 l0 0).length : Int) x8_1 x9_1 x10_1 true) = some (r1, r2) := by rw [if_pos rfl] at H; exact H
               clear H
               have H := H1
               clear H1
               have H' := Aside0.mk H
               clear H
               try go_wp2
               have n0_ := Aside0.mk (Kd.R_drew HO_8.out)
               have n1_ := Aside0.mk (Kd.R_drew HO_9.out)
               have n2_ := Aside0.mk (below_drew1 HB.out)
               clear HO_8
               clear HO_9
               clear HB
               have HO_8 := n0_
               have HO_9 := n1_
               have HB := n2_
               clear n0_ n1_ n2_
               obtain ⟨Ao22, co22, eo22⟩ := Kd.R_slice HO_8.out
               (first | subst eo22 | (injection eo22 with f1_ f2_ f3_; have f4_ := f1_.symm; have f5_ := f3_.symm; clear f1_ f2_ f3_; subst f4_; subst f5_))
               have p121 : 0 ≤ (x10_1 : Int) := of_decide_eq_true (by first | (with_reducible assumption) | assumption)
               have q121 : x10_1 < (x8_1.length : Int) := of_decide_eq_true (by first | (with_reducible assumption) | assumption)
               obtain ⟨ad121, e121, hx121_0⟩ := Kd.at_bool (Kd.R_reads' HO_8.out).2.2 x10_1 p121 q121
               (try rw [← Nbq19.out] at hx121_0)
               cases e121
               replace p121 := eq_true p121
               replace q121 := eq_true q121
               refine start_ (n := 19) (S := fun w' => w'.cell? (ad121.add (x10_1).toNat) = some (.bool true)) (ds := []) #[false, false, false, false, false, false, false, false, false, false, false, false, false, false, false, false, false, false, false] (by kernel_rfl) rfl rfl (hx121_0) (fun hHeld => ?_); refine with_tabW spec_HotSpots.tab12 spec_HotSpots.bits12 (fun HT_ HW_ => ?_)
               generalize wr.drew = w21 at HO_8 HO_9 HB hx121_0 hHeld ⊢
               refine pure_ (i := 0) (N := some 44) (v := ?_) (a' := ?_) #[true, false, false, false, false, false, false, false, false, false, false, false, false, false, false, false, false, false, false] rfl rfl (any_of HT_.out (by kernel_rfl)) (fun _ _ _ h => h) (Or.inl ⟨by rfl, ?_⟩) ?_ ?_
               rotate_left
               ·
                intro w'
                go_simp
                with_reducible rfl
               rotate_left
               ·
                simp only [Act.put, List.setIfInBounds_toArray, List.set_cons_zero, List.set_cons_succ, i64_w, i32_w]
                rfl
               refine pure_ (i := 1) (N := some 45) (v := ?_) (a' := ?_) #[true, true, false, false, false, false, false, false, false, false, false, false, false, false, false, false, false, false, false] rfl rfl (any_of HT_.out (by kernel_rfl)) (fun _ _ _ h => h) (Or.inl ⟨by rfl, ?_⟩) ?_ ?_
               rotate_left
               ·
                intro w'
                go_simp
                with_reducible rfl
               rotate_left
               ·
                simp only [Act.put, List.setIfInBounds_toArray, List.set_cons_zero, List.set_cons_succ, i64_w, i32_w]
                rfl
               refine pure_ (i := 2) (N := some 46) (v := ?_) (a' := ?_) #[true, true, true, false, false, false, false, false, false, false, false, false, false, false, false, false, false, false, false] rfl rfl (any_of HT_.out (by kernel_rfl)) (fun _ _ _ h => h) (Or.inl ⟨by rfl, ?_⟩) ?_ ?_
               rotate_left
               ·
                intro w'
                go_simp
                with_reducible rfl
               rotate_left
               ·
                simp only [Act.put, List.setIfInBounds_toArray, List.set_cons_zero, List.set_cons_succ, i64_w, i32_w]
                rfl
               refine take_ (i := 3) (N := some 47) (v := ?_) (a' := ?_) #[true, true, true, true, false, false, false, false, false, false, false, false, false, false, false, false, false, false, false] rfl rfl (take_ofW HT_.out HW_.out (by kernel_rfl)) (fun _ _ _ h => h) (Or.inl ⟨by rfl, ?_⟩) hHeld ?_ ?_
               rotate_left
               ·
                intro w' s0
                go_simp
                with_reducible rfl
               rotate_left
               ·
                simp only [Act.put, List.setIfInBounds_toArray, List.set_cons_zero, List.set_cons_succ, i64_w, i32_w]
                rfl
               refine pure_ (i := 4) (N := some 48) (v := ?_) (a' := ?_) #[true, true, true, true, true, false, false, false, false, false, false, false, false, false, false, false, false, false, false] rfl rfl (any_of HT_.out (by kernel_rfl)) (fun _ _ _ h => h) (Or.inl ⟨by rfl, ?_⟩) ?_ ?_
               rotate_left
               ·
                intro w'
                go_simp
                with_reducible rfl
               rotate_left
               ·
                simp only [Act.put, List.setIfInBounds_toArray, List.set_cons_zero, List.set_cons_succ, i64_w, i32_w]
                rfl
               refine pure_ (i := 5) (N := some 49) (v := undef) (a' := ?_) #[true, true, true, true, true, true, false, false, false, false, false, false, false, false, false, false, false, false, false] rfl rfl (any_of HT_.out (by kernel_rfl)) (fun _ _ _ h => h) (Or.inr ⟨by rfl, rfl⟩) ?_ ?_
               rotate_left
               ·
                simp only [Act.put, List.setIfInBounds_toArray, List.set_cons_zero, List.set_cons_succ, i64_w, i32_w]
                rfl
               refine pure_ (i := 6) (N := some 50) (v := undef) (a' := ?_) #[true, true, true, true, true, true, true, false, false, false, false, false, false, false, false, false, false, false, false] rfl rfl (any_of HT_.out (by kernel_rfl)) (fun _ _ _ h => h) (Or.inr ⟨by rfl, rfl⟩) ?_ ?_
               rotate_left
               ·
                simp only [Act.put, List.setIfInBounds_toArray, List.set_cons_zero, List.set_cons_succ, i64_w, i32_w]
                rfl
               refine pure_ (i := 7) (N := some 51) (v := undef) (a' := ?_) #[true, true, true, true, true, true, true, true, false, false, false, false, false, false, false, false, false, false, false] rfl rfl (any_of HT_.out (by kernel_rfl)) (fun _ _ _ h => h) (Or.inr ⟨by rfl, rfl⟩) ?_ ?_
               rotate_left
               ·
                simp only [Act.put, List.setIfInBounds_toArray, List.set_cons_zero, List.set_cons_succ, i64_w, i32_w]
                rfl
               refine pure_ (i := 8) (N := some 52) (v := undef) (a' := ?_) #[true, true, true, true, true, true, true, true, true, false, false, false, false, false, false, false, false, false, false] rfl rfl (any_of HT_.out (by kernel_rfl)) (fun _ _ _ h => h) (Or.inr ⟨by rfl, rfl⟩) ?_ ?_
               rotate_left
               ·
                simp only [Act.put, List.setIfInBounds_toArray, List.set_cons_zero, List.set_cons_succ, i64_w, i32_w]
                rfl
               refine pure_ (i := 9) (N := some 53) (v := undef) (a' := ?_) #[true, true, true, true, true, true, true, true, true, true, false, false, false, false, false, false, false, false, false] rfl rfl (any_of HT_.out (by kernel_rfl)) (fun _ _ _ h => h) (Or.inr ⟨by rfl, rfl⟩) ?_ ?_
               rotate_left
               ·
                simp only [Act.put, List.setIfInBounds_toArray, List.set_cons_zero, List.set_cons_succ, i64_w, i32_w]
                rfl
               refine pure_ (i := 10) (N := some 54) (v := undef) (a' := ?_) #[true, true, true, true, true, true, true, true, true, true, true, false, false, false, false, false, false, false, false] rfl rfl (any_of HT_.out (by kernel_rfl)) (fun _ _ _ h => h) (Or.inr ⟨by rfl, rfl⟩) ?_ ?_
               rotate_left
               ·
                simp only [Act.put, List.setIfInBounds_toArray, List.set_cons_zero, List.set_cons_succ, i64_w, i32_w]
                rfl
               refine pure_ (i := 11) (N := some 55) (v := undef) (a' := ?_) #[true, true, true, true, true, true, true, true, true, true, true, true, false, false, false, false, false, false, false] rfl rfl (any_of HT_.out (by kernel_rfl)) (fun _ _ _ h => h) (Or.inr ⟨by rfl, rfl⟩) ?_ ?_
               rotate_left
               ·
                simp only [Act.put, List.setIfInBounds_toArray, List.set_cons_zero, List.set_cons_succ, i64_w, i32_w]
                rfl
               refine pure_ (i := 12) (N := some 56) (v := undef) (a' := ?_) #[true, true, true, true, true, true, true, true, true, true, true, true, true, false, false, false, false, false, false] rfl rfl (any_of HT_.out (by kernel_rfl)) (fun _ _ _ h => h) (Or.inr ⟨by rfl, rfl⟩) ?_ ?_
               rotate_left
               ·
                simp only [Act.put, List.setIfInBounds_toArray, List.set_cons_zero, List.set_cons_succ, i64_w, i32_w]
                rfl
               refine pure_ (i := 13) (N := some 57) (v := undef) (a' := ?_) #[true, true, true, true, true, true, true, true, true, true, true, true, true, true, false, false, false, false, false] rfl rfl (any_of HT_.out (by kernel_rfl)) (fun _ _ _ h => h) (Or.inr ⟨by rfl, rfl⟩) ?_ ?_
               rotate_left
               ·
                simp only [Act.put, List.setIfInBounds_toArray, List.set_cons_zero, List.set_cons_succ, i64_w, i32_w]
                rfl
               refine pure_ (i := 14) (N := some 58) (v := undef) (a' := ?_) #[true, true, true, true, true, true, true, true, true, true, true, true, true, true, true, false, false, false, false] rfl rfl (any_of HT_.out (by kernel_rfl)) (fun _ _ _ h => h) (Or.inr ⟨by rfl, rfl⟩) ?_ ?_
               rotate_left
               ·
                simp only [Act.put, List.setIfInBounds_toArray, List.set_cons_zero, List.set_cons_succ, i64_w, i32_w]
                rfl
               refine pure_ (i := 15) (N := some 59) (v := undef) (a' := ?_) #[true, true, true, true, true, true, true, true, true, true, true, true, true, true, true, true, false, false, false] rfl rfl (any_of HT_.out (by kernel_rfl)) (fun _ _ _ h => h) (Or.inr ⟨by rfl, rfl⟩) ?_ ?_
               rotate_left
               ·
                simp only [Act.put, List.setIfInBounds_toArray, List.set_cons_zero, List.set_cons_succ, i64_w, i32_w]
                rfl
               refine pure_ (i := 16) (N := some 60) (v := undef) (a' := ?_) #[true, true, true, true, true, true, true, true, true, true, true, true, true, true, true, true, true, false, false] rfl rfl (any_of HT_.out (by kernel_rfl)) (fun _ _ _ h => h) (Or.inr ⟨by rfl, rfl⟩) ?_ ?_
               rotate_left
               ·
                simp only [Act.put, List.setIfInBounds_toArray, List.set_cons_zero, List.set_cons_succ, i64_w, i32_w]
                rfl
               refine pure_ (i := 17) (N := some 61) (v := undef) (a' := ?_) #[true, true, true, true, true, true, true, true, true, true, true, true, true, true, true, true, true, true, false] rfl rfl (any_of HT_.out (by kernel_rfl)) (fun _ _ _ h => h) (Or.inr ⟨by rfl, rfl⟩) ?_ ?_
               rotate_left
               ·
                simp only [Act.put, List.setIfInBounds_toArray, List.set_cons_zero, List.set_cons_succ, i64_w, i32_w]
                rfl
               refine pure_ (i := 18) (N := some 62) (v := ?_) (a' := ?_) #[true, true, true, true, true, true, true, true, true, true, true, true, true, true, true, true, true, true, true] rfl rfl (any_of HT_.out (by kernel_rfl)) (fun _ _ _ h => h) (Or.inl ⟨by rfl, ?_⟩) ?_ ?_
               rotate_left
               ·
                intro w'
                go_simp
                with_reducible rfl
               rotate_left
               ·
                simp only [Act.put, List.setIfInBounds_toArray, List.set_cons_zero, List.set_cons_succ, i64_w, i32_w]
                rfl
               refine done_ (done_of HT_.out (by kernel_rfl)) ?_
               try go_wp2
               go_meet
               case rel => exact ⟨_, (true), (by first | rfl | (simp; done) | (simp [*]; done)), H', ⟨by have := HK1.out; first | omega | exact Nat.le_refl _⟩, ⟨by (with_reducible repeat (first | apply Kd.R_alloc | apply Kd.R_drewN | apply Kd.R_drew)); exact HO_8.out⟩, ⟨by (with_reducible repeat (first | apply Kd.R_alloc | apply Kd.R_drewN | apply Kd.R_drew)); exact HO_9.out⟩, ⟨by repeat (first | (with_reducible first | exact HB.out | apply below_alloc | apply pw_below_drewN | apply below_drew1) | exact HB.out)⟩⟩
              ·
               replace c20 := Bool.eq_false_iff.mpr c20
               subst c20
               have H1 : (if ((rd_L1 l0 0).length : Int) = 0 then (none) else (if 0 ≤ (wrap64 (Int.tdiv x10_1 ((rd_L1 l0 0).length : Int))) then (if (wrap64 (Int.tdiv x10_1 ((rd_L1 l0 0).length : Int))) < (l0.length : Int) then (if 0 ≤ (Int.tmod x10_1 ((rd_L1 l0 0).length : Int)) then (if (Int.tmod x10_1 ((rd_L1 l0 0).length : Int)) < ((rd_L1 l0 (wrap64 (Int.tdiv x10_1 ((rd_L1 l0 0).length : Int)))).length : Int) then (spec_HotSpots.j1 k1 l0 a1 (l0.length : Int) ((rd_L1 l0 0).length : Int) x8_1 x9_1 x10_1 (decide ((rd (rd_L1 l0 (wrap64 (Int.tdiv x10_1 ((rd_L1 l0 0).length : Int)))) (Int.tmod x10_1 ((rd_L1 l0 0).length : Int))) ≤ a1))) else (none)) else (none)) else (none)) else (none))) = some (r1, r2) := by rw [if_neg (show ¬ (false = true) by decide)] at H; exact H
               clear H
               have H := H1
               clear H1
               by_cases c23 : ((rd_L1 l0 0).length : Int) = 0
               ·
                rw [if_pos c23] at H
                exact absurd H (by simp)
               ·
                rw [if_neg c23] at H
                have c23b0 : (((rd_L1 l0 0).length : Int) == 0) = false := beq_eq_false_iff_ne.mpr c23
                have c23b1 : (((rd_L1 l0 0).length : Int) != 0) = true := bne_iff_ne.mpr c23
                have c23b2 : ¬ ((rd_L1 l0 0) = []) := fun h_ => c23 (by rw [h_]; rfl)
                obtain ⟨ji24, hji24⟩ : ∃ j_ : Int, (wrap64 (Int.tdiv x10_1 ((rd_L1 l0 0).length : Int))) = j_ := ⟨_, rfl⟩
                replace H : (if 0 ≤ (ji24) then (if (ji24) < (l0.length : Int) then (if 0 ≤ (Int.tmod x10_1 ((rd_L1 l0 0).length : Int)) then (if (Int.tmod x10_1 ((rd_L1 l0 0).length : Int)) < ((rd_L1 l0 (ji24)).length : Int) then (spec_HotSpots.j1 k1 l0 a1 (l0.length : Int) ((rd_L1 l0 0).length : Int) x8_1 x9_1 x10_1 (decide ((rd (rd_L1 l0 (ji24)) (Int.tmod x10_1 ((rd_L1 l0 0).length : Int))) ≤ a1))) else (none)) else (none)) else (none)) else (none)) = some (r1, r2) := by first | (rw [hji24] at H; exact H) | (simp only [hji24] at H ⊢; exact H)
                have hji24w : (IntKind.i64.wrap (Int.tdiv x10_1 ((rd_L1 l0 0).length : Int))) = ji24 := (i64_w _).trans hji24
                by_cases c25 : 0 ≤ (ji24)
                ·
                 rw [if_pos c25] at H
                 have c25b0 : decide (0 ≤ (ji24)) = true := decide_eq_true c25
                 clear c25
                 by_cases c26 : (ji24) < (l0.length : Int)
                 ·
                  rw [if_pos c26] at H
                  have c26b0 : decide ((ji24) < (l0.length : Int)) = true := decide_eq_true c26
                  clear c26
                  obtain ⟨ji27, hji27⟩ : ∃ j_ : Int, (Int.tmod x10_1 ((rd_L1 l0 0).length : Int)) = j_ := ⟨_, rfl⟩
                  replace H : (if 0 ≤ (ji27) then (if (ji27) < ((rd_L1 l0 (ji24)).length : Int) then (spec_HotSpots.j1 k1 l0 a1 (l0.length : Int) ((rd_L1 l0 0).length : Int) x8_1 x9_1 x10_1 (decide ((rd (rd_L1 l0 (ji24)) (ji27)) ≤ a1))) else (none)) else (none)) = some (r1, r2) := by first | (rw [hji27] at H; exact H) | (simp only [hji27] at H ⊢; exact H)
                  by_cases c28 : 0 ≤ (ji27)
                  ·
                   rw [if_pos c28] at H
                   have c28b0 : decide (0 ≤ (ji27)) = true := decide_eq_true c28
                   clear c28
                   by_cases c29 : (ji27) < ((rd_L1 l0 (ji24)).length : Int)
                   ·
                    rw [if_pos c29] at H
                    have c29b0 : decide ((ji27) < ((rd_L1 l0 (ji24)).length : Int)) = true := decide_eq_true c29
                    clear c29
                    have H' := Aside0.mk H
                    clear H
                    try go_wp2
                    have n0_ := Aside0.mk (Kd.R_drew HO_8.out)
                    have n1_ := Aside0.mk (Kd.R_drew HO_9.out)
                    have n2_ := Aside0.mk (below_drew1 HB.out)
                    clear HO_8
                    clear HO_9
                    clear HB
                    have HO_8 := n0_
                    have HO_9 := n1_
                    have HB := n2_
                    clear n0_ n1_ n2_
                    obtain ⟨Ao31, co31, eo31⟩ := Kd.R_slice HO_8.out
                    (first | subst eo31 | (injection eo31 with f1_ f2_ f3_; have f4_ := f1_.symm; have f5_ := f3_.symm; clear f1_ f2_ f3_; subst f4_; subst f5_))
                    have p121 : 0 ≤ (x10_1 : Int) := of_decide_eq_true (by first | (with_reducible assumption) | assumption)
                    have q121 : x10_1 < (x8_1.length : Int) := of_decide_eq_true (by first | (with_reducible assumption) | assumption)
                    obtain ⟨ad121, e121, hx121_0⟩ := Kd.at_bool (Kd.R_reads' HO_8.out).2.2 x10_1 p121 q121
                    (try rw [← Nbq19.out] at hx121_0)
                    cases e121
                    replace p121 := eq_true p121
                    replace q121 := eq_true q121
                    have p122 : 0 ≤ ((ji24) : Int) := of_decide_eq_true (by first | (with_reducible assumption) | assumption)
                    have q122 : (ji24) < (l0.length : Int) := of_decide_eq_true (by first | (with_reducible assumption) | assumption)
                    obtain ⟨ad122, A122_0, c122_0, e122, hx122_0, hl122_0, hi122_0⟩ := at_L1 HR0.out (ji24) p122 q122
                    have hw122_0 := hx122_0
                    obtain rfl : ad114 = ad122 := (by injection e122)
                    replace hx122_0 := (HB.out.cell (World.block_lt_of_cell? w _ hx122_0)).trans hx122_0
                    have HR122_0 := Aside0.mk hi122_0
                    have HC122_0 := Aside0.mk hl122_0
                    clear hi122_0 hl122_0
                    replace p122 := eq_true p122
                    replace q122 := eq_true q122
                    have p123 : 0 ≤ ((ji27) : Int) := of_decide_eq_true (by first | (with_reducible assumption) | assumption)
                    have q123 : (ji27) < ((rd_L1 l0 (ji24)).length : Int) := of_decide_eq_true (by first | (with_reducible assumption) | assumption)
                    obtain ⟨ad123, e123, hx123_0⟩ := Kd.at_int HR122_0.out (ji27) p123 q123
                    have hw123_0 := hx123_0
                    cases e123
                    replace hx123_0 := (HB.out.cell (World.block_lt_of_cell? w _ hx123_0)).trans hx123_0
                    replace p123 := eq_true p123
                    replace q123 := eq_true q123
                    refine start_ (n := 19) (S := fun w' => w'.cell? (ad121.add (x10_1).toNat) = some (.bool false) ∧ w'.cell? (ad114.add ((ji24)).toNat) = some (.slice (some ad123) (rd_L1 l0 (ji24)).length c122_0) ∧ w'.cell? (ad123.add ((ji27)).toNat) = some (.int .i64 (rd (rd_L1 l0 (ji24)) (ji27)))) (ds := []) #[false, false, false, false, false, false, false, false, false, false, false, false, false, false, false, false, false, false, false] (by kernel_rfl) rfl rfl ⟨hx121_0, ((HB.out.cell (World.block_lt_of_cell? w _ hw122_0)).trans hw122_0), ((HB.out.cell (World.block_lt_of_cell? w _ hw123_0)).trans hw123_0)⟩ (fun hHeld => ?_); refine with_tabW spec_HotSpots.tab12 spec_HotSpots.bits12 (fun HT_ HW_ => ?_)
                    generalize wr.drew = w30 at HO_8 HO_9 HB HR122_0 hx121_0 hx122_0 hx123_0 hHeld ⊢
                    refine pure_ (i := 0) (N := some 44) (v := ?_) (a' := ?_) #[true, false, false, false, false, false, false, false, false, false, false, false, false, false, false, false, false, false, false] rfl rfl (any_of HT_.out (by kernel_rfl)) (fun _ _ _ h => h) (Or.inl ⟨by rfl, ?_⟩) ?_ ?_
                    rotate_left
                    ·
                     intro w'
                     go_simp
                     with_reducible rfl
                    rotate_left
                    ·
                     simp only [Act.put, List.setIfInBounds_toArray, List.set_cons_zero, List.set_cons_succ, i64_w, i32_w]
                     rfl
                    refine pure_ (i := 1) (N := some 45) (v := ?_) (a' := ?_) #[true, true, false, false, false, false, false, false, false, false, false, false, false, false, false, false, false, false, false] rfl rfl (any_of HT_.out (by kernel_rfl)) (fun _ _ _ h => h) (Or.inl ⟨by rfl, ?_⟩) ?_ ?_
                    rotate_left
                    ·
                     intro w'
                     go_simp
                     with_reducible rfl
                    rotate_left
                    ·
                     simp only [Act.put, List.setIfInBounds_toArray, List.set_cons_zero, List.set_cons_succ, i64_w, i32_w]
                     rfl
                    refine pure_ (i := 2) (N := some 46) (v := ?_) (a' := ?_) #[true, true, true, false, false, false, false, false, false, false, false, false, false, false, false, false, false, false, false] rfl rfl (any_of HT_.out (by kernel_rfl)) (fun _ _ _ h => h) (Or.inl ⟨by rfl, ?_⟩) ?_ ?_
                    rotate_left
                    ·
                     intro w'
                     go_simp
                     with_reducible rfl
                    rotate_left
                    ·
                     simp only [Act.put, List.setIfInBounds_toArray, List.set_cons_zero, List.set_cons_succ, i64_w, i32_w]
                     rfl
                    refine take_ (i := 3) (N := some 47) (v := ?_) (a' := ?_) #[true, true, true, true, false, false, false, false, false, false, false, false, false, false, false, false, false, false, false] rfl rfl (take_ofW HT_.out HW_.out (by kernel_rfl)) (fun _ _ _ h => h) (Or.inl ⟨by rfl, ?_⟩) hHeld ?_ ?_
                    rotate_left
                    ·
                     rintro w' ⟨s0, s1, s2⟩
                     go_simp
                     with_reducible rfl
                    rotate_left
                    ·
                     simp only [Act.put, List.setIfInBounds_toArray, List.set_cons_zero, List.set_cons_succ, i64_w, i32_w]
                     rfl
                    refine pure_ (i := 4) (N := some 48) (v := ?_) (a' := ?_) #[true, true, true, true, true, false, false, false, false, false, false, false, false, false, false, false, false, false, false] rfl rfl (any_of HT_.out (by kernel_rfl)) (fun _ _ _ h => h) (Or.inl ⟨by rfl, ?_⟩) ?_ ?_
                    rotate_left
                    ·
                     intro w'
                     go_simp
                     with_reducible rfl
                    rotate_left
                    ·
                     simp only [Act.put, List.setIfInBounds_toArray, List.set_cons_zero, List.set_cons_succ, i64_w, i32_w]
                     rfl
                    refine pure_ (i := 5) (N := some 49) (v := ?_) (a' := ?_) #[true, true, true, true, true, true, false, false, false, false, false, false, false, false, false, false, false, false, false] rfl rfl (any_of HT_.out (by kernel_rfl)) (fun _ _ _ h => h) (Or.inl ⟨by rfl, ?_⟩) ?_ ?_
                    rotate_left
                    ·
                     intro w'
                     go_simp
                     with_reducible rfl
                    rotate_left
                    ·
                     simp only [Act.put, List.setIfInBounds_toArray, List.set_cons_zero, List.set_cons_succ, i64_w, i32_w]
                     rfl
                    refine pure_ (i := 6) (N := some 50) (v := ?_) (a' := ?_) #[true, true, true, true, true, true, true, false, false, false, false, false, false, false, false, false, false, false, false] rfl rfl (any_of HT_.out (by kernel_rfl)) (fun _ _ _ h => h) (Or.inl ⟨by rfl, ?_⟩) ?_ ?_
                    rotate_left
                    ·
                     intro w'
                     go_simp
                     with_reducible rfl
                    rotate_left
                    ·
                     simp only [Act.put, List.setIfInBounds_toArray, List.set_cons_zero, List.set_cons_succ, i64_w, i32_w]
                     rfl
                    refine pure_ (i := 7) (N := some 51) (v := ?_) (a' := ?_) #[true, true, true, true, true, true, true, true, false, false, false, false, false, false, false, false, false, false, false] rfl rfl (any_of HT_.out (by kernel_rfl)) (fun _ _ _ h => h) (Or.inl ⟨by rfl, ?_⟩) ?_ ?_
                    rotate_left
                    ·
                     intro w'
                     go_simp
                     with_reducible rfl
                    rotate_left
                    ·
                     simp only [Act.put, List.setIfInBounds_toArray, List.set_cons_zero, List.set_cons_succ, i64_w, i32_w]
                     rfl
                    refine pure_ (i := 8) (N := some 52) (v := ?_) (a' := ?_) #[true, true, true, true, true, true, true, true, true, false, false, false, false, false, false, false, false, false, false] rfl rfl (any_of HT_.out (by kernel_rfl)) (fun _ _ _ h => h) (Or.inl ⟨by rfl, ?_⟩) ?_ ?_
                    rotate_left
                    ·
                     intro w'
                     go_simp
                     with_reducible rfl
                    rotate_left
                    ·
                     simp only [Act.put, List.setIfInBounds_toArray, List.set_cons_zero, List.set_cons_succ, i64_w, i32_w]
                     rfl
                    refine pure_ (i := 9) (N := some 53) (v := ?_) (a' := ?_) #[true, true, true, true, true, true, true, true, true, true, false, false, false, false, false, false, false, false, false] rfl rfl (any_of HT_.out (by kernel_rfl)) (fun _ _ _ h => h) (Or.inl ⟨by rfl, ?_⟩) ?_ ?_
                    rotate_left
                    ·
                     intro w'
                     go_simp
                     with_reducible rfl
                    rotate_left
                    ·
                     simp only [Act.put, List.setIfInBounds_toArray, List.set_cons_zero, List.set_cons_succ, i64_w, i32_w]
                     rfl
                    refine pure_ (i := 11) (N := some 55) (v := ?_) (a' := ?_) #[true, true, true, true, true, true, true, true, true, true, false, true, false, false, false, false, false, false, false] rfl rfl (any_of HT_.out (by kernel_rfl)) (fun _ _ _ h => h) (Or.inl ⟨by rfl, ?_⟩) ?_ ?_
                    rotate_left
                    ·
                     intro w'
                     go_simp
                     with_reducible rfl
                    rotate_left
                    ·
                     simp only [Act.put, List.setIfInBounds_toArray, List.set_cons_zero, List.set_cons_succ, i64_w, i32_w]
                     rfl
                    refine pure_ (i := 12) (N := some 56) (v := ?_) (a' := ?_) #[true, true, true, true, true, true, true, true, true, true, false, true, true, false, false, false, false, false, false] rfl rfl (any_of HT_.out (by kernel_rfl)) (fun _ _ _ h => h) (Or.inl ⟨by rfl, ?_⟩) ?_ ?_
                    rotate_left
                    ·
                     intro w'
                     go_simp
                     with_reducible rfl
                    rotate_left
                    ·
                     simp only [Act.put, List.setIfInBounds_toArray, List.set_cons_zero, List.set_cons_succ, i64_w, i32_w]
                     rfl
                    refine pure_ (i := 13) (N := some 57) (v := ?_) (a' := ?_) #[true, true, true, true, true, true, true, true, true, true, false, true, true, true, false, false, false, false, false] rfl rfl (any_of HT_.out (by kernel_rfl)) (fun _ _ _ h => h) (Or.inl ⟨by rfl, ?_⟩) ?_ ?_
                    rotate_left
                    ·
                     intro w'
                     go_simp
                     with_reducible rfl
                    rotate_left
                    ·
                     simp only [Act.put, List.setIfInBounds_toArray, List.set_cons_zero, List.set_cons_succ, i64_w, i32_w]
                     rfl
                    refine pure_ (i := 16) (N := some 60) (v := ?_) (a' := ?_) #[true, true, true, true, true, true, true, true, true, true, false, true, true, true, false, false, true, false, false] rfl rfl (any_of HT_.out (by kernel_rfl)) (fun _ _ _ h => h) (Or.inl ⟨by rfl, ?_⟩) ?_ ?_
                    rotate_left
                    ·
                     intro w'
                     go_simp
                     with_reducible rfl
                    rotate_left
                    ·
                     simp only [Act.put, List.setIfInBounds_toArray, List.set_cons_zero, List.set_cons_succ, i64_w, i32_w]
                     rfl
                    refine take_ (i := 10) (N := some 54) (v := ?_) (a' := ?_) #[true, true, true, true, true, true, true, true, true, true, true, true, true, true, false, false, true, false, false] rfl rfl (take_ofW HT_.out HW_.out (by kernel_rfl)) (fun _ _ _ h => h) (Or.inl ⟨by rfl, ?_⟩) hHeld ?_ ?_
                    rotate_left
                    ·
                     rintro w' ⟨s0, s1, s2⟩
                     go_simp
                     with_reducible rfl
                    rotate_left
                    ·
                     simp only [Act.put, List.setIfInBounds_toArray, List.set_cons_zero, List.set_cons_succ, i64_w, i32_w]
                     rfl
                    refine pure_ (i := 14) (N := some 58) (v := ?_) (a' := ?_) #[true, true, true, true, true, true, true, true, true, true, true, true, true, true, true, false, true, false, false] rfl rfl (any_of HT_.out (by kernel_rfl)) (fun _ _ _ h => h) (Or.inl ⟨by rfl, ?_⟩) ?_ ?_
                    rotate_left
                    ·
                     intro w'
                     go_simp
                     with_reducible rfl
                    rotate_left
                    ·
                     simp only [Act.put, List.setIfInBounds_toArray, List.set_cons_zero, List.set_cons_succ, i64_w, i32_w]
                     rfl
                    refine take_ (i := 15) (N := some 59) (v := ?_) (a' := ?_) #[true, true, true, true, true, true, true, true, true, true, true, true, true, true, true, true, true, false, false] rfl rfl (take_ofW HT_.out HW_.out (by kernel_rfl)) (fun _ _ _ h => h) (Or.inl ⟨by rfl, ?_⟩) hHeld ?_ ?_
                    rotate_left
                    ·
                     rintro w' ⟨s0, s1, s2⟩
                     go_simp
                     with_reducible rfl
                    rotate_left
                    ·
                     simp only [Act.put, List.setIfInBounds_toArray, List.set_cons_zero, List.set_cons_succ, i64_w, i32_w]
                     rfl
                    refine pure_ (i := 17) (N := some 61) (v := ?_) (a' := ?_) #[true, true, true, true, true, true, true, true, true, true, true, true, true, true, true, true, true, true, false] rfl rfl (any_of HT_.out (by kernel_rfl)) (fun _ _ _ h => h) (Or.inl ⟨by rfl, ?_⟩) ?_ ?_
                    rotate_left
                    ·
                     intro w'
                     go_simp
                     with_reducible rfl
                    rotate_left
                    ·
                     simp only [Act.put, List.setIfInBounds_toArray, List.set_cons_zero, List.set_cons_succ, i64_w, i32_w]
                     rfl
                    refine pure_ (i := 18) (N := some 62) (v := ?_) (a' := ?_) #[true, true, true, true, true, true, true, true, true, true, true, true, true, true, true, true, true, true, true] rfl rfl (any_of HT_.out (by kernel_rfl)) (fun _ _ _ h => h) (Or.inl ⟨by rfl, ?_⟩) ?_ ?_
                    rotate_left
                    ·
                     intro w'
                     go_simp
                     with_reducible rfl
                    rotate_left
                    ·
                     simp only [Act.put, List.setIfInBounds_toArray, List.set_cons_zero, List.set_cons_succ, i64_w, i32_w]
                     rfl
                    refine done_ (done_of HT_.out (by kernel_rfl)) ?_
                    try go_wp2
                    go_meet
                    case rel => exact ⟨_, (decide ((rd (rd_L1 l0 (ji24)) (ji27)) ≤ a1)), (by first | rfl | (simp; done) | (simp only [← hji24, ← hji27] <;> (first | rfl | simp)) | (simp [*]; done)), H', ⟨by have := HK1.out; first | omega | exact Nat.le_refl _⟩, ⟨by (with_reducible repeat (first | apply Kd.R_alloc | apply Kd.R_drewN | apply Kd.R_drew)); exact HO_8.out⟩, ⟨by (with_reducible repeat (first | apply Kd.R_alloc | apply Kd.R_drewN | apply Kd.R_drew)); exact HO_9.out⟩, ⟨by repeat (first | (with_reducible first | exact HB.out | apply below_alloc | apply pw_below_drewN | apply below_drew1) | exact HB.out)⟩⟩
                   ·
                    rw [if_neg c29] at H
                    exact absurd H (by simp)
                  ·
                   rw [if_neg c28] at H
                   exact absurd H (by simp)
                 ·
                  rw [if_neg c26] at H
                  exact absurd H (by simp)
                ·
                 rw [if_neg c25] at H
                 exact absurd H (by simp)
             ·
              rw [if_neg c18] at H
              exact absurd H (by simp)
            ·
             rw [if_neg c17] at H
             exact absurd H (by simp)
          case rest =>
           clear HC16
           try clear c1
           try clear p1
           try clear q1
           try clear hx1
           try clear qi1
           try clear c2
           try clear p2
           try clear c4
           try clear c6
           try clear p6
           try clear c7
           try clear c7b0
           try clear c7b1
           try clear c8
           try clear c9
           try clear c9b0
           try clear c9b1
           try clear c10
           try clear c10b0
           try clear c10b1
           try clear c11
           try clear p11
           try clear q11
           try clear hx11
           try clear qi11
           try clear c12
           try clear p12
           try clear q12
           try clear hx12
           try clear c15
           try clear c15b0
           try clear c17
           try clear c17b0
           try clear c18
           try clear c18b0
           try clear q19
           try clear c20
           try clear c23
           try clear c23b0
           try clear c23b1
           try clear c23b2
           try clear c25
           try clear c25b0
           try clear c26
           try clear c26b0
           try clear c28
           try clear c28b0
           try clear c29
           try clear c29b0
           try clear hx114_0
           try clear hx121_0
           try clear hx122_0
           try clear hx123_0
           try clear p1
           try clear p11
           try clear p114
           try clear p121
           try clear p122
           try clear p123
           try clear p2
           try clear p6
           try clear q1
           try clear q11
           try clear q114
           try clear q121
           try clear q122
           try clear q123
           obtain ⟨kq, x62_15, rfl, HA, HJ15, HO_8, HO_9, HB⟩ := hcut
           cases kq with
           | zero => exact absurd HA.out (by simp [spec_HotSpots.j1])
           | succ kj15 =>
            have H := HA.out
            clear HA
            simp only [spec_HotSpots.j1] at H
            by_cases c32 : x62_15 = true
            ·
             subst c32
             have H1 : (spec_HotSpots.l0 kj15 l0 a1 (l0.length : Int) ((rd_L1 l0 0).length : Int) x8_1 x9_1 (wrap64 (x10_1 + 1))) = some (r1, r2) := by rw [if_pos rfl] at H; exact H
             clear H
             have H := H1
             clear H1
             have H' := Aside0.mk H
             clear H
             go_wp2
             go_roundg kj15
             case measure => have := HK1.out; have := HJ15.out; omega
             case rel => exact ⟨(x8_1), (x9_1), (wrap64 (x10_1 + 1)), (by first | rfl | (simp; done) | (simp [*]; done)), H', ⟨by have := HK1.out; have := HJ15.out; omega⟩, ⟨by (with_reducible repeat (first | apply Kd.R_alloc | apply Kd.R_drewN | apply Kd.R_drew)); exact HO_8.out⟩, ⟨by (with_reducible repeat (first | apply Kd.R_alloc | apply Kd.R_drewN | apply Kd.R_drew)); exact HO_9.out⟩, ⟨by repeat (first | (with_reducible first | exact HB.out | apply below_alloc | apply pw_below_drewN | apply below_drew1) | exact HB.out)⟩⟩
            ·
             replace c32 := Bool.eq_false_iff.mpr c32
             subst c32
             have H1 : (if ((rd_L1 l0 0).length : Int) = 0 then (none) else (if 0 ≤ (wrap64 (Int.tdiv x10_1 ((rd_L1 l0 0).length : Int))) then (if (wrap64 (Int.tdiv x10_1 ((rd_L1 l0 0).length : Int))) < (l0.length : Int) then (if 0 ≤ (Int.tmod x10_1 ((rd_L1 l0 0).length : Int)) then (if (Int.tmod x10_1 ((rd_L1 l0 0).length : Int)) < ((rd_L1 l0 (wrap64 (Int.tdiv x10_1 ((rd_L1 l0 0).length : Int)))).length : Int) then (if 0 ≤ x10_1 then (if x10_1 < (x8_1.length : Int) then (spec_HotSpots.l1 kj15 l0 a1 (l0.length : Int) ((rd_L1 l0 0).length : Int) (x8_1.set (x10_1 : Int).toNat true) x9_1 x10_1 (([x10_1] : List Int)) 0 (wrap64 (Int.tdiv x10_1 ((rd_L1 l0 0).length : Int))) (Int.tmod x10_1 ((rd_L1 l0 0).length : Int)) 0 (rd (rd_L1 l0 (wrap64 (Int.tdiv x10_1 ((rd_L1 l0 0).length : Int)))) (Int.tmod x10_1 ((rd_L1 l0 0).length : Int)))) else (none)) else (none)) else (none)) else (none)) else (none)) else (none))) = some (r1, r2) := by rw [if_neg (show ¬ (false = true) by decide)] at H; exact H
             clear H
             have H := H1
             clear H1
             by_cases c33 : ((rd_L1 l0 0).length : Int) = 0
             ·
              rw [if_pos c33] at H
              exact absurd H (by simp)
             ·
              rw [if_neg c33] at H
              have c33b0 : (((rd_L1 l0 0).length : Int) == 0) = false := beq_eq_false_iff_ne.mpr c33
              have c33b1 : (((rd_L1 l0 0).length : Int) != 0) = true := bne_iff_ne.mpr c33
              have c33b2 : ¬ ((rd_L1 l0 0) = []) := fun h_ => c33 (by rw [h_]; rfl)
              obtain ⟨ji34, hji34⟩ : ∃ j_ : Int, (wrap64 (Int.tdiv x10_1 ((rd_L1 l0 0).length : Int))) = j_ := ⟨_, rfl⟩
              replace H : (if 0 ≤ (ji34) then (if (ji34) < (l0.length : Int) then (if 0 ≤ (Int.tmod x10_1 ((rd_L1 l0 0).length : Int)) then (if (Int.tmod x10_1 ((rd_L1 l0 0).length : Int)) < ((rd_L1 l0 (ji34)).length : Int) then (if 0 ≤ x10_1 then (if x10_1 < (x8_1.length : Int) then (spec_HotSpots.l1 kj15 l0 a1 (l0.length : Int) ((rd_L1 l0 0).length : Int) (x8_1.set (x10_1 : Int).toNat true) x9_1 x10_1 (([x10_1] : List Int)) 0 ji34 (Int.tmod x10_1 ((rd_L1 l0 0).length : Int)) 0 (rd (rd_L1 l0 (ji34)) (Int.tmod x10_1 ((rd_L1 l0 0).length : Int)))) else (none)) else (none)) else (none)) else (none)) else (none)) else (none)) = some (r1, r2) := by first | (rw [hji34] at H; exact H) | (simp only [hji34] at H ⊢; exact H)
              have hji34w : (IntKind.i64.wrap (Int.tdiv x10_1 ((rd_L1 l0 0).length : Int))) = ji34 := (i64_w _).trans hji34
              by_cases c35 : 0 ≤ (ji34)
              ·
               rw [if_pos c35] at H
               have c35b0 : decide (0 ≤ (ji34)) = true := decide_eq_true c35
               clear c35
               by_cases c36 : (ji34) < (l0.length : Int)
               ·
                rw [if_pos c36] at H
                have c36b0 : decide ((ji34) < (l0.length : Int)) = true := decide_eq_true c36
                clear c36
                obtain ⟨ji37, hji37⟩ : ∃ j_ : Int, (Int.tmod x10_1 ((rd_L1 l0 0).length : Int)) = j_ := ⟨_, rfl⟩
                replace H : (if 0 ≤ (ji37) then (if (ji37) < ((rd_L1 l0 (ji34)).length : Int) then (if 0 ≤ x10_1 then (if x10_1 < (x8_1.length : Int) then (spec_HotSpots.l1 kj15 l0 a1 (l0.length : Int) ((rd_L1 l0 0).length : Int) (x8_1.set (x10_1 : Int).toNat true) x9_1 x10_1 (([x10_1] : List Int)) 0 ji34 ji37 0 (rd (rd_L1 l0 (ji34)) (ji37))) else (none)) else (none)) else (none)) else (none)) = some (r1, r2) := by first | (rw [hji37] at H; exact H) | (simp only [hji37] at H ⊢; exact H)
                by_cases c38 : 0 ≤ (ji37)
                ·
                 rw [if_pos c38] at H
                 have c38b0 : decide (0 ≤ (ji37)) = true := decide_eq_true c38
                 clear c38
                 by_cases c39 : (ji37) < ((rd_L1 l0 (ji34)).length : Int)
                 ·
                  rw [if_pos c39] at H
                  have c39b0 : decide ((ji37) < ((rd_L1 l0 (ji34)).length : Int)) = true := decide_eq_true c39
                  clear c39
                  by_cases c40 : 0 ≤ x10_1
                  ·
                   rw [if_pos c40] at H
                   have c40b0 : decide (0 ≤ x10_1) = true := decide_eq_true c40
                   clear c40
                   by_cases c41 : x10_1 < (x8_1.length : Int)
                   ·
                    rw [if_pos c41] at H
                    have c41b0 : decide (x10_1 < (x8_1.length : Int)) = true := decide_eq_true c41
                    clear c41
                    obtain ⟨y127, hy127⟩ : ∃ y_ : List Bool, y_ = (x8_1.set (x10_1 : Int).toNat true) := ⟨_, rfl⟩
                    replace H : (spec_HotSpots.l1 kj15 l0 a1 (l0.length : Int) ((rd_L1 l0 0).length : Int) y127 x9_1 x10_1 (([x10_1] : List Int)) 0 ji34 ji37 0 (rd (rd_L1 l0 (ji34)) (ji37))) = some (r1, r2) := by first | (rw [hy127]; with_reducible exact H) | (have H2_ := (Option.bind_some _ _).symm.trans H; rw [hy127]; with_reducible exact H2_) | (have H2_ := (Option.bind_some _ _).symm.trans H; with_reducible exact H2_) | with_reducible exact H | (rw [hy127]; exact H) | exact H
                    have Ny127 := Aside0.mk hy127
                    clear hy127
                    obtain ⟨y128, hy128⟩ : ∃ y_ : List Int, y_ = (([x10_1] : List Int)) := ⟨_, rfl⟩
                    replace H : (spec_HotSpots.l1 kj15 l0 a1 (l0.length : Int) ((rd_L1 l0 0).length : Int) y127 x9_1 x10_1 y128 0 ji34 ji37 0 (rd (rd_L1 l0 (ji34)) (ji37))) = some (r1, r2) := by first | (rw [hy128]; with_reducible exact H) | (have H2_ := (Option.bind_some _ _).symm.trans H; rw [hy128]; with_reducible exact H2_) | (have H2_ := (Option.bind_some _ _).symm.trans H; with_reducible exact H2_) | with_reducible exact H | (rw [hy128]; exact H) | exact H
                    have Ny128 := Aside0.mk hy128
                    clear hy128
                    have H' := Aside0.mk H
                    clear H
                    try go_wp2
                    have n0_ := Aside0.mk (Kd.R_drew HO_8.out)
                    have n1_ := Aside0.mk (Kd.R_drew HO_9.out)
                    have n2_ := Aside0.mk (below_drew1 HB.out)
                    clear HO_8
                    clear HO_9
                    clear HB
                    have HO_8 := n0_
                    have HO_9 := n1_
                    have HB := n2_
                    clear n0_ n1_ n2_
                    have p124 : 0 ≤ ((ji34) : Int) := of_decide_eq_true (by first | (with_reducible assumption) | assumption)
                    have q124 : (ji34) < (l0.length : Int) := of_decide_eq_true (by first | (with_reducible assumption) | assumption)
                    obtain ⟨ad124, A124_0, c124_0, e124, hx124_0, hl124_0, hi124_0⟩ := at_L1 HR0.out (ji34) p124 q124
                    have hw124_0 := hx124_0
                    obtain rfl : ad114 = ad124 := (by injection e124)
                    replace hx124_0 := (HB.out.cell (World.block_lt_of_cell? w _ hx124_0)).trans hx124_0
                    have HR124_0 := Aside0.mk hi124_0
                    have HC124_0 := Aside0.mk hl124_0
                    clear hi124_0 hl124_0
                    replace p124 := eq_true p124
                    replace q124 := eq_true q124
                    have p125 : 0 ≤ ((ji37) : Int) := of_decide_eq_true (by first | (with_reducible assumption) | assumption)
                    have q125 : (ji37) < ((rd_L1 l0 (ji34)).length : Int) := of_decide_eq_true (by first | (with_reducible assumption) | assumption)
                    obtain ⟨ad125, e125, hx125_0⟩ := Kd.at_int HR124_0.out (ji37) p125 q125
                    have hw125_0 := hx125_0
                    cases e125
                    replace hx125_0 := (HB.out.cell (World.block_lt_of_cell? w _ hx125_0)).trans hx125_0
                    replace p125 := eq_true p125
                    replace q125 := eq_true q125
                    refine start_ (n := 20) (S := fun w' => w'.cell? (ad114.add ((ji34)).toNat) = some (.slice (some ad125) (rd_L1 l0 (ji34)).length c124_0) ∧ w'.cell? (ad125.add ((ji37)).toNat) = some (.int .i64 (rd (rd_L1 l0 (ji34)) (ji37)))) (ds := []) #[false, false, false, false, false, false, false, false, false, false, false, false, false, false, false, false, false, false, false, false] (by kernel_rfl) rfl rfl ⟨((HB.out.cell (World.block_lt_of_cell? w _ hw124_0)).trans hw124_0), ((HB.out.cell (World.block_lt_of_cell? w _ hw125_0)).trans hw125_0)⟩ (fun hHeld => ?_); refine with_tabW spec_HotSpots.tab13 spec_HotSpots.bits13 (fun HT_ HW_ => ?_)
                    generalize wc.drew = w43 at HO_8 HO_9 HB HR124_0 hx124_0 hx125_0 hHeld ⊢
                    refine pure_ (i := 0) (N := some 63) (v := ?_) (a' := ?_) #[true, false, false, false, false, false, false, false, false, false, false, false, false, false, false, false, false, false, false, false] rfl rfl (any_of HT_.out (by kernel_rfl)) (fun _ _ _ h => h) (Or.inl ⟨by rfl, ?_⟩) ?_ ?_
                    rotate_left
                    ·
                     intro w'
                     go_simp
                     with_reducible rfl
                    rotate_left
                    ·
                     simp only [Act.put, List.setIfInBounds_toArray, List.set_cons_zero, List.set_cons_succ, i64_w, i32_w]
                     rfl
                    refine pure_ (i := 1) (N := some 64) (v := ?_) (a' := ?_) #[true, true, false, false, false, false, false, false, false, false, false, false, false, false, false, false, false, false, false, false] rfl rfl (any_of HT_.out (by kernel_rfl)) (fun _ _ _ h => h) (Or.inl ⟨by rfl, ?_⟩) ?_ ?_
                    rotate_left
                    ·
                     intro w'
                     go_simp
                     with_reducible rfl
                    rotate_left
                    ·
                     simp only [Act.put, List.setIfInBounds_toArray, List.set_cons_zero, List.set_cons_succ, i64_w, i32_w]
                     rfl
                    refine pure_ (i := 2) (N := some 65) (v := ?_) (a' := ?_) #[true, true, true, false, false, false, false, false, false, false, false, false, false, false, false, false, false, false, false, false] rfl rfl (any_of HT_.out (by kernel_rfl)) (fun _ _ _ h => h) (Or.inl ⟨by rfl, ?_⟩) ?_ ?_
                    rotate_left
                    ·
                     intro w'
                     go_simp
                     with_reducible rfl
                    rotate_left
                    ·
                     simp only [Act.put, List.setIfInBounds_toArray, List.set_cons_zero, List.set_cons_succ, i64_w, i32_w]
                     rfl
                    refine pure_ (i := 3) (N := some 66) (v := ?_) (a' := ?_) #[true, true, true, true, false, false, false, false, false, false, false, false, false, false, false, false, false, false, false, false] rfl rfl (any_of HT_.out (by kernel_rfl)) (fun _ _ _ h => h) (Or.inl ⟨by rfl, ?_⟩) ?_ ?_
                    rotate_left
                    ·
                     intro w'
                     go_simp
                     with_reducible rfl
                    rotate_left
                    ·
                     simp only [Act.put, List.setIfInBounds_toArray, List.set_cons_zero, List.set_cons_succ, i64_w, i32_w]
                     rfl
                    refine pure_ (i := 4) (N := some 67) (v := ?_) (a' := ?_) #[true, true, true, true, true, false, false, false, false, false, false, false, false, false, false, false, false, false, false, false] rfl rfl (any_of HT_.out (by kernel_rfl)) (fun _ _ _ h => h) (Or.inl ⟨by rfl, ?_⟩) ?_ ?_
                    rotate_left
                    ·
                     intro w'
                     go_simp
                     with_reducible rfl
                    rotate_left
                    ·
                     simp only [Act.put, List.setIfInBounds_toArray, List.set_cons_zero, List.set_cons_succ, i64_w, i32_w]
                     rfl
                    refine pure_ (i := 5) (N := some 68) (v := ?_) (a' := ?_) #[true, true, true, true, true, true, false, false, false, false, false, false, false, false, false, false, false, false, false, false] rfl rfl (any_of HT_.out (by kernel_rfl)) (fun _ _ _ h => h) (Or.inl ⟨by rfl, ?_⟩) ?_ ?_
                    rotate_left
                    ·
                     intro w'
                     go_simp
                     with_reducible rfl
                    rotate_left
                    ·
                     simp only [Act.put, List.setIfInBounds_toArray, List.set_cons_zero, List.set_cons_succ, i64_w, i32_w]
                     rfl
                    refine pure_ (i := 6) (N := some 69) (v := ?_) (a' := ?_) #[true, true, true, true, true, true, true, false, false, false, false, false, false, false, false, false, false, false, false, false] rfl rfl (any_of HT_.out (by kernel_rfl)) (fun _ _ _ h => h) (Or.inl ⟨by rfl, ?_⟩) ?_ ?_
                    rotate_left
                    ·
                     intro w'
                     go_simp
                     with_reducible rfl
                    rotate_left
                    ·
                     simp only [Act.put, List.setIfInBounds_toArray, List.set_cons_zero, List.set_cons_succ, i64_w, i32_w]
                     rfl
                    refine pure_ (i := 7) (N := some 70) (v := ?_) (a' := ?_) #[true, true, true, true, true, true, true, true, false, false, false, false, false, false, false, false, false, false, false, false] rfl rfl (any_of HT_.out (by kernel_rfl)) (fun _ _ _ h => h) (Or.inl ⟨by rfl, ?_⟩) ?_ ?_
                    rotate_left
                    ·
                     intro w'
                     go_simp
                     with_reducible rfl
                    rotate_left
                    ·
                     simp only [Act.put, List.setIfInBounds_toArray, List.set_cons_zero, List.set_cons_succ, i64_w, i32_w]
                     rfl
                    refine pure_ (i := 8) (N := some 71) (v := ?_) (a' := ?_) #[true, true, true, true, true, true, true, true, true, false, false, false, false, false, false, false, false, false, false, false] rfl rfl (any_of HT_.out (by kernel_rfl)) (fun _ _ _ h => h) (Or.inl ⟨by rfl, ?_⟩) ?_ ?_
                    rotate_left
                    ·
                     intro w'
                     go_simp
                     with_reducible rfl
                    rotate_left
                    ·
                     simp only [Act.put, List.setIfInBounds_toArray, List.set_cons_zero, List.set_cons_succ, i64_w, i32_w]
                     rfl
                    refine pure_ (i := 9) (N := some 72) (v := ?_) (a' := ?_) #[true, true, true, true, true, true, true, true, true, true, false, false, false, false, false, false, false, false, false, false] rfl rfl (any_of HT_.out (by kernel_rfl)) (fun _ _ _ h => h) (Or.inl ⟨by rfl, ?_⟩) ?_ ?_
                    rotate_left
                    ·
                     intro w'
                     go_simp
                     with_reducible rfl
                    rotate_left
                    ·
                     simp only [Act.put, List.setIfInBounds_toArray, List.set_cons_zero, List.set_cons_succ, i64_w, i32_w]
                     rfl
                    refine pure_ (i := 10) (N := some 73) (v := ?_) (a' := ?_) #[true, true, true, true, true, true, true, true, true, true, true, false, false, false, false, false, false, false, false, false] rfl rfl (any_of HT_.out (by kernel_rfl)) (fun _ _ _ h => h) (Or.inl ⟨by rfl, ?_⟩) ?_ ?_
                    rotate_left
                    ·
                     intro w'
                     go_simp
                     with_reducible rfl
                    rotate_left
                    ·
                     simp only [Act.put, List.setIfInBounds_toArray, List.set_cons_zero, List.set_cons_succ, i64_w, i32_w]
                     rfl
                    refine pure_ (i := 12) (N := some 75) (v := ?_) (a' := ?_) #[true, true, true, true, true, true, true, true, true, true, true, false, true, false, false, false, false, false, false, false] rfl rfl (any_of HT_.out (by kernel_rfl)) (fun _ _ _ h => h) (Or.inl ⟨by rfl, ?_⟩) ?_ ?_
                    rotate_left
                    ·
                     intro w'
                     go_simp
                     with_reducible rfl
                    rotate_left
                    ·
                     simp only [Act.put, List.setIfInBounds_toArray, List.set_cons_zero, List.set_cons_succ, i64_w, i32_w]
                     rfl
                    refine pure_ (i := 13) (N := some 76) (v := ?_) (a' := ?_) #[true, true, true, true, true, true, true, true, true, true, true, false, true, true, false, false, false, false, false, false] rfl rfl (any_of HT_.out (by kernel_rfl)) (fun _ _ _ h => h) (Or.inl ⟨by rfl, ?_⟩) ?_ ?_
                    rotate_left
                    ·
                     intro w'
                     go_simp
                     with_reducible rfl
                    rotate_left
                    ·
                     simp only [Act.put, List.setIfInBounds_toArray, List.set_cons_zero, List.set_cons_succ, i64_w, i32_w]
                     rfl
                    refine pure_ (i := 14) (N := some 77) (v := ?_) (a' := ?_) #[true, true, true, true, true, true, true, true, true, true, true, false, true, true, true, false, false, false, false, false] rfl rfl (any_of HT_.out (by kernel_rfl)) (fun _ _ _ h => h) (Or.inl ⟨by rfl, ?_⟩) ?_ ?_
                    rotate_left
                    ·
                     intro w'
                     go_simp
                     with_reducible rfl
                    rotate_left
                    ·
                     simp only [Act.put, List.setIfInBounds_toArray, List.set_cons_zero, List.set_cons_succ, i64_w, i32_w]
                     rfl
                    refine take_ (i := 11) (N := some 74) (v := ?_) (a' := ?_) #[true, true, true, true, true, true, true, true, true, true, true, true, true, true, true, false, false, false, false, false] rfl rfl (take_ofW HT_.out HW_.out (by kernel_rfl)) (fun _ _ _ h => h) (Or.inl ⟨by rfl, ?_⟩) hHeld ?_ ?_
                    rotate_left
                    ·
                     rintro w' ⟨s0, s1⟩
                     go_simp
                     with_reducible rfl
                    rotate_left
                    ·
                     simp only [Act.put, List.setIfInBounds_toArray, List.set_cons_zero, List.set_cons_succ, i64_w, i32_w]
                     rfl
                    refine pure_ (i := 15) (N := some 78) (v := ?_) (a' := ?_) #[true, true, true, true, true, true, true, true, true, true, true, true, true, true, true, true, false, false, false, false] rfl rfl (any_of HT_.out (by kernel_rfl)) (fun _ _ _ h => h) (Or.inl ⟨by rfl, ?_⟩) ?_ ?_
                    rotate_left
                    ·
                     intro w'
                     go_simp
                     with_reducible rfl
                    rotate_left
                    ·
                     simp only [Act.put, List.setIfInBounds_toArray, List.set_cons_zero, List.set_cons_succ, i64_w, i32_w]
                     rfl
                    refine take_ (i := 16) (N := some 79) (v := ?_) (a' := ?_) #[true, true, true, true, true, true, true, true, true, true, true, true, true, true, true, true, true, false, false, false] rfl rfl (take_ofW HT_.out HW_.out (by kernel_rfl)) (fun _ _ _ h => h) (Or.inl ⟨by rfl, ?_⟩) hHeld ?_ ?_
                    rotate_left
                    ·
                     rintro w' ⟨s0, s1⟩
                     go_simp
                     with_reducible rfl
                    rotate_left
                    ·
                     simp only [Act.put, List.setIfInBounds_toArray, List.set_cons_zero, List.set_cons_succ, i64_w, i32_w]
                     rfl
                    refine pure_ (i := 17) (N := some 80) (v := ?_) (a' := ?_) #[true, true, true, true, true, true, true, true, true, true, true, true, true, true, true, true, true, true, false, false] rfl rfl (any_of HT_.out (by kernel_rfl)) (fun _ _ _ h => h) (Or.inl ⟨by rfl, ?_⟩) ?_ ?_
                    rotate_left
                    ·
                     intro w'
                     go_simp
                     with_reducible rfl
                    rotate_left
                    ·
                     simp only [Act.put, List.setIfInBounds_toArray, List.set_cons_zero, List.set_cons_succ, i64_w, i32_w]
                     rfl
                    refine one_ (i := 18) (N := some 11) #[true, true, true, true, true, true, true, true, true, true, true, true, true, true, true, true, true, true, true, false] rfl rfl (one_of HT_.out (by kernel_rfl)) (by decide) (fun K hK => ?_)
                    refine box_step ?hg (N := 11) ?hd (cs := #[.int .i64 0, .int .i64 0, .int .i64 0, .int .i64 0]) (t := 116) ?hr ?_; (case hd => rfl); (case hg => rfl); (case hr => first | (go_simp; done) | (go_simp; rfl))
                    intro gb126 hg w44 hbox hb
                    have n0_ := Aside0.mk (Kd.R_below (by (with_reducible repeat (first | apply Kd.R_alloc | apply Kd.R_drewN | apply Kd.R_drew)); exact HO_8.out) hb)
                    have n1_ := Aside0.mk (Kd.R_below (Kd.R_elderB (by (with_reducible repeat (first | apply Kd.R_alloc | apply Kd.R_drewN | apply Kd.R_drew)); exact HO_9.out) gb126 (Nat.le_of_eq hg.symm)) hb)
                    have n2_ := Aside0.mk (below_step (by repeat (first | (with_reducible first | exact HB.out | apply below_alloc | apply pw_below_drewN | apply below_drew1) | exact HB.out)) hb)
                    have n3_ := Aside0.mk (hbox)
                    have n4_ := Aside0.mk ((by rw [hg]; exact (below_size (by repeat (first | (with_reducible first | exact HB.out | apply below_alloc | apply pw_below_drewN | apply below_drew1) | exact HB.out))) : w.heap.size ≤ gb126))
                    have n5_ := Aside0.mk ((by rw [hg]; exact (below_size (by repeat (first | (with_reducible first | exact HB.out | apply below_alloc | apply pw_below_drewN | apply below_drew1) | exact HB.out))) : w.heap.size ≤ gb126))
                    clear HO_8
                    clear HO_9
                    clear HB
                    have HO_8 := n0_
                    have HO_9 := n1_
                    have HB := n2_
                    have BK126 := n3_
                    have GW126 := n4_
                    have GE126 := n5_
                    clear n0_ n1_ n2_ n3_ n4_ n5_
                    clear hb hbox hg
                    refine hK.out _ _ ⟨((HB.out.cell (World.block_lt_of_cell? w _ hw124_0)).trans hw124_0), ((HB.out.cell (World.block_lt_of_cell? w _ hw125_0)).trans hw125_0)⟩ (fun hHeld => ?_)
                    clear hK K
                    refine norm_ (a' := ?_) ?_ ?_
                    rotate_left
                    ·
                     show Act.put _ (some 11) _ = _
                     simp only [Act.put, List.setIfInBounds_toArray, List.set_cons_zero, List.set_cons_succ, i64_w, i32_w]
                     rfl
                    refine one_ (i := 19) (N := none) #[true, true, true, true, true, true, true, true, true, true, true, true, true, true, true, true, true, true, true, true] rfl rfl (one_of HT_.out (by kernel_rfl)) (by decide) (fun K hK => ?_)
                    have hs45 : w44.cell? ⟨gb126, 0, none⟩ = some (.int .i64 0) := (blk_cell BK126.out 0).trans rfl
                    have hfs45 := blk_frozen BK126.out 0
                    have hs46 : w44.cell? ⟨gb126, 1, none⟩ = some (.int .i64 0) := (blk_cell BK126.out 1).trans rfl
                    have hfs46 := blk_frozen BK126.out 1
                    have hs47 : w44.cell? ⟨gb126, 2, none⟩ = some (.int .i64 0) := (blk_cell BK126.out 2).trans rfl
                    have hfs47 := blk_frozen BK126.out 2
                    have hs48 : w44.cell? ⟨gb126, 3, none⟩ = some (.int .i64 0) := (blk_cell BK126.out 3).trans rfl
                    have hfs48 := blk_frozen BK126.out 3
                    refine skip_ (w1 := ?_) (by rfl) rfl ?_ ?_
                    rotate_left
                    ·
                     go_simp
                     rfl
                    refine hK.out _ _ ⟨((cell_far (p := ⟨gb126, _, none⟩) (by first | exact Nat.ne_of_lt (Nat.lt_of_lt_of_le (by have := World.block_lt_of_cell? _ _ hw124_0; first | rwa [add_block] at this | exact this) GW126.out) | (rw [add_block]; exact Nat.ne_of_lt (Nat.lt_of_lt_of_le (by have := World.block_lt_of_cell? _ _ hw124_0; first | rwa [add_block] at this | exact this) GW126.out)) | (show (Addr.add _ _).block ≠ _; rw [add_block]; exact Nat.ne_of_lt (Nat.lt_of_lt_of_le (by have := World.block_lt_of_cell? _ _ hw124_0; first | rwa [add_block] at this | exact this) GW126.out)) | (dsimp only; exact Nat.ne_of_lt (Nat.lt_of_lt_of_le (by have := World.block_lt_of_cell? _ _ hw124_0; first | rwa [add_block] at this | exact this) GW126.out))) _).trans (((cell_far (p := ⟨gb126, _, none⟩) (by first | exact Nat.ne_of_lt (Nat.lt_of_lt_of_le (by have := World.block_lt_of_cell? _ _ hw124_0; first | rwa [add_block] at this | exact this) GW126.out) | (rw [add_block]; exact Nat.ne_of_lt (Nat.lt_of_lt_of_le (by have := World.block_lt_of_cell? _ _ hw124_0; first | rwa [add_block] at this | exact this) GW126.out)) | (show (Addr.add _ _).block ≠ _; rw [add_block]; exact Nat.ne_of_lt (Nat.lt_of_lt_of_le (by have := World.block_lt_of_cell? _ _ hw124_0; first | rwa [add_block] at this | exact this) GW126.out)) | (dsimp only; exact Nat.ne_of_lt (Nat.lt_of_lt_of_le (by have := World.block_lt_of_cell? _ _ hw124_0; first | rwa [add_block] at this | exact this) GW126.out))) _).trans (((cell_far (p := ⟨gb126, _, none⟩) (by first | exact Nat.ne_of_lt (Nat.lt_of_lt_of_le (by have := World.block_lt_of_cell? _ _ hw124_0; first | rwa [add_block] at this | exact this) GW126.out) | (rw [add_block]; exact Nat.ne_of_lt (Nat.lt_of_lt_of_le (by have := World.block_lt_of_cell? _ _ hw124_0; first | rwa [add_block] at this | exact this) GW126.out)) | (show (Addr.add _ _).block ≠ _; rw [add_block]; exact Nat.ne_of_lt (Nat.lt_of_lt_of_le (by have := World.block_lt_of_cell? _ _ hw124_0; first | rwa [add_block] at this | exact this) GW126.out)) | (dsimp only; exact Nat.ne_of_lt (Nat.lt_of_lt_of_le (by have := World.block_lt_of_cell? _ _ hw124_0; first | rwa [add_block] at this | exact this) GW126.out))) _).trans (((cell_far (p := ⟨gb126, _, none⟩) (by first | exact Nat.ne_of_lt (Nat.lt_of_lt_of_le (by have := World.block_lt_of_cell? _ _ hw124_0; first | rwa [add_block] at this | exact this) GW126.out) | (rw [add_block]; exact Nat.ne_of_lt (Nat.lt_of_lt_of_le (by have := World.block_lt_of_cell? _ _ hw124_0; first | rwa [add_block] at this | exact this) GW126.out)) | (show (Addr.add _ _).block ≠ _; rw [add_block]; exact Nat.ne_of_lt (Nat.lt_of_lt_of_le (by have := World.block_lt_of_cell? _ _ hw124_0; first | rwa [add_block] at this | exact this) GW126.out)) | (dsimp only; exact Nat.ne_of_lt (Nat.lt_of_lt_of_le (by have := World.block_lt_of_cell? _ _ hw124_0; first | rwa [add_block] at this | exact this) GW126.out))) _).trans (hHeld.1)))))))), ((cell_far (p := ⟨gb126, _, none⟩) (by first | exact Nat.ne_of_lt (Nat.lt_of_lt_of_le (by have := World.block_lt_of_cell? _ _ hw125_0; first | rwa [add_block] at this | exact this) GW126.out) | (rw [add_block]; exact Nat.ne_of_lt (Nat.lt_of_lt_of_le (by have := World.block_lt_of_cell? _ _ hw125_0; first | rwa [add_block] at this | exact this) GW126.out)) | (show (Addr.add _ _).block ≠ _; rw [add_block]; exact Nat.ne_of_lt (Nat.lt_of_lt_of_le (by have := World.block_lt_of_cell? _ _ hw125_0; first | rwa [add_block] at this | exact this) GW126.out)) | (dsimp only; exact Nat.ne_of_lt (Nat.lt_of_lt_of_le (by have := World.block_lt_of_cell? _ _ hw125_0; first | rwa [add_block] at this | exact this) GW126.out))) _).trans (((cell_far (p := ⟨gb126, _, none⟩) (by first | exact Nat.ne_of_lt (Nat.lt_of_lt_of_le (by have := World.block_lt_of_cell? _ _ hw125_0; first | rwa [add_block] at this | exact this) GW126.out) | (rw [add_block]; exact Nat.ne_of_lt (Nat.lt_of_lt_of_le (by have := World.block_lt_of_cell? _ _ hw125_0; first | rwa [add_block] at this | exact this) GW126.out)) | (show (Addr.add _ _).block ≠ _; rw [add_block]; exact Nat.ne_of_lt (Nat.lt_of_lt_of_le (by have := World.block_lt_of_cell? _ _ hw125_0; first | rwa [add_block] at this | exact this) GW126.out)) | (dsimp only; exact Nat.ne_of_lt (Nat.lt_of_lt_of_le (by have := World.block_lt_of_cell? _ _ hw125_0; first | rwa [add_block] at this | exact this) GW126.out))) _).trans (((cell_far (p := ⟨gb126, _, none⟩) (by first | exact Nat.ne_of_lt (Nat.lt_of_lt_of_le (by have := World.block_lt_of_cell? _ _ hw125_0; first | rwa [add_block] at this | exact this) GW126.out) | (rw [add_block]; exact Nat.ne_of_lt (Nat.lt_of_lt_of_le (by have := World.block_lt_of_cell? _ _ hw125_0; first | rwa [add_block] at this | exact this) GW126.out)) | (show (Addr.add _ _).block ≠ _; rw [add_block]; exact Nat.ne_of_lt (Nat.lt_of_lt_of_le (by have := World.block_lt_of_cell? _ _ hw125_0; first | rwa [add_block] at this | exact this) GW126.out)) | (dsimp only; exact Nat.ne_of_lt (Nat.lt_of_lt_of_le (by have := World.block_lt_of_cell? _ _ hw125_0; first | rwa [add_block] at this | exact this) GW126.out))) _).trans (((cell_far (p := ⟨gb126, _, none⟩) (by first | exact Nat.ne_of_lt (Nat.lt_of_lt_of_le (by have := World.block_lt_of_cell? _ _ hw125_0; first | rwa [add_block] at this | exact this) GW126.out) | (rw [add_block]; exact Nat.ne_of_lt (Nat.lt_of_lt_of_le (by have := World.block_lt_of_cell? _ _ hw125_0; first | rwa [add_block] at this | exact this) GW126.out)) | (show (Addr.add _ _).block ≠ _; rw [add_block]; exact Nat.ne_of_lt (Nat.lt_of_lt_of_le (by have := World.block_lt_of_cell? _ _ hw125_0; first | rwa [add_block] at this | exact this) GW126.out)) | (dsimp only; exact Nat.ne_of_lt (Nat.lt_of_lt_of_le (by have := World.block_lt_of_cell? _ _ hw125_0; first | rwa [add_block] at this | exact this) GW126.out))) _).trans (hHeld.2))))))))⟩ (fun hHeld => ?_)
                    clear hK K
                    refine done_ (done_of HT_.out (by kernel_rfl)) ?_
                    have n0_ : Aside0 (Kd.R Kd.bool 4 ((((w44.setCell ⟨gb126, 0, none⟩ (.int .i64 ji34)).setCell ⟨gb126, 1, none⟩ (.int .i64 ji37)).setCell ⟨gb126, 2, none⟩ (.int .i64 0)).setCell ⟨gb126, 3, none⟩ (.int .i64 (rd (rd_L1 l0 (ji34)) (ji37)))) w.heap.size (fun _ => True) v116 x8_1) := ⟨by (with_reducible repeat (first | apply Kd.R_alloc | apply Kd.R_drewN | apply Kd.R_drew)); exact Kd.R_mono (Kd.R_far (p := ⟨gb126, 3, none⟩) (Kd.R_far (p := ⟨gb126, 2, none⟩) (Kd.R_far (p := ⟨gb126, 1, none⟩) (Kd.R_far (p := ⟨gb126, 0, none⟩) (Kd.R_types HO_8.out BK126.out (by decide)) (fun _ hk => hk.2) (.int .i64 ji34)) (fun _ hk => hk.2) (.int .i64 ji37)) (fun _ hk => hk.2) (.int .i64 0)) (fun _ hk => hk.2) (.int .i64 (rd (rd_L1 l0 (ji34)) (ji37)))) (fun _ hk => trivial)⟩
                    have n1_ : Aside0 (Kd.R k116 116 ((((w44.setCell ⟨gb126, 0, none⟩ (.int .i64 ji34)).setCell ⟨gb126, 1, none⟩ (.int .i64 ji37)).setCell ⟨gb126, 2, none⟩ (.int .i64 0)).setCell ⟨gb126, 3, none⟩ (.int .i64 (rd (rd_L1 l0 (ji34)) (ji37)))) w.heap.size (fun k_ => k_ ≠ gb126) u9 x9_1) := ⟨by (with_reducible repeat (first | apply Kd.R_alloc | apply Kd.R_drewN | apply Kd.R_drew)); exact Kd.R_mono (Kd.R_far (p := ⟨gb126, 3, none⟩) (Kd.R_far (p := ⟨gb126, 2, none⟩) (Kd.R_far (p := ⟨gb126, 1, none⟩) (Kd.R_far (p := ⟨gb126, 0, none⟩) (Kd.R_mono HO_9.out (fun k_ hk => (⟨hk, hk.2⟩ : _ ∧ k_ ≠ gb126))) (fun _ hk => hk.2) (.int .i64 ji34)) (fun _ hk => hk.2) (.int .i64 ji37)) (fun _ hk => hk.2) (.int .i64 0)) (fun _ hk => hk.2) (.int .i64 (rd (rd_L1 l0 (ji34)) (ji37)))) (fun _ hk => hk.1.2)⟩
                    have n2_ : Aside0 (((((w44.setCell ⟨gb126, 0, none⟩ (.int .i64 ji34)).setCell ⟨gb126, 1, none⟩ (.int .i64 ji37)).setCell ⟨gb126, 2, none⟩ (.int .i64 0)).setCell ⟨gb126, 3, none⟩ (.int .i64 (rd (rd_L1 l0 (ji34)) (ji37)))).heap[gb126]? = some (.cells #[.int .i64 ji34, .int .i64 ji37, .int .i64 0, .int .i64 (rd (rd_L1 l0 (ji34)) (ji37))] 116 (0, 0))) := ⟨by (with_reducible repeat (first | refine blk_drewN ?_ _ | refine blk_drew ?_ | refine blk_alloc ?_ _)); refine blk_put (cs := #[.int .i64 ji34, .int .i64 ji37, .int .i64 0, .int .i64 0]) ?_ 3 _ rfl; (with_reducible repeat (first | refine blk_drewN ?_ _ | refine blk_drew ?_ | refine blk_alloc ?_ _)); refine blk_put (cs := #[.int .i64 ji34, .int .i64 ji37, .int .i64 0, .int .i64 0]) ?_ 2 _ rfl; (with_reducible repeat (first | refine blk_drewN ?_ _ | refine blk_drew ?_ | refine blk_alloc ?_ _)); refine blk_put (cs := #[.int .i64 ji34, .int .i64 0, .int .i64 0, .int .i64 0]) ?_ 1 _ rfl; (with_reducible repeat (first | refine blk_drewN ?_ _ | refine blk_drew ?_ | refine blk_alloc ?_ _)); refine blk_put (cs := #[.int .i64 0, .int .i64 0, .int .i64 0, .int .i64 0]) ?_ 0 _ rfl; (with_reducible repeat (first | refine blk_drewN ?_ _ | refine blk_drew ?_ | refine blk_alloc ?_ _)); exact BK126.out⟩
                    have n3_ : Aside0 (Below w.heap.size w ((((w44.setCell ⟨gb126, 0, none⟩ (.int .i64 ji34)).setCell ⟨gb126, 1, none⟩ (.int .i64 ji37)).setCell ⟨gb126, 2, none⟩ (.int .i64 0)).setCell ⟨gb126, 3, none⟩ (.int .i64 (rd (rd_L1 l0 (ji34)) (ji37))))) := ⟨by repeat (first | (with_reducible first | exact HB.out | apply below_alloc | apply pw_below_drewN | apply below_drew1 | refine below_set ?_ GE126.out) | exact HB.out)⟩
                    (try clear HO_8)
                    (try clear HO_9)
                    (try clear BK126)
                    (try clear HB)
                    generalize ((((w44.setCell ⟨gb126, 0, none⟩ (.int .i64 ji34)).setCell ⟨gb126, 1, none⟩ (.int .i64 ji37)).setCell ⟨gb126, 2, none⟩ (.int .i64 0)).setCell ⟨gb126, 3, none⟩ (.int .i64 (rd (rd_L1 l0 (ji34)) (ji37)))) = w49 at n0_ n1_ n2_ n3_ ⊢
                    have HO_8 := n0_
                    have HO_9 := n1_
                    have BK126 := n2_
                    have HB := n3_
                    clear n0_ n1_ n2_ n3_
                    have p42 : 0 ≤ (x10_1 : Int) := of_decide_eq_true (by first | (with_reducible assumption) | assumption)
                    have q42 : (x10_1 : Int) < ((x8_1.length : Int) : Int) := of_decide_eq_true (by first | (with_reducible assumption) | assumption)
                    obtain ⟨go42, co42, eo42, gb42, gl42, cl42, HG42⟩ := Kd.R_form HO_8.out (by omega)
                    (first | cases eo42 | (injection eo42 with ea_ en_ ec_; (first | subst ea_ | (injection ea_ with ea_; subst ea_)); subst ec_; clear en_))
                    have GB42 := Aside0.mk gb42
                    have GG42 := Aside0.mk HG42
                    clear gb42 gl42 HG42
                    obtain ⟨hx42_0, hf42_0⟩ := Kd.R_celln false HO_8.out (x10_1 : Int) p42 q42
                    replace p42 := eq_true p42
                    replace q42 := eq_true q42
                    obtain ⟨hy50_, hz50_⟩ := Kd.R_celln false HO_8.out (x10_1 : Int) (of_decide_eq_true (by first | (with_reducible assumption) | assumption)) (of_decide_eq_true (by first | (with_reducible assumption) | assumption))
                    have HP50 := Kd.R_putg HO_8.out (x10_1 : Int) true
                    try go_wp2_with (first | ((with_reducible refine gate_store (t := 4) (p := 83) rfl ?_); refine store_event (t := 4) (p := 83) (v := ?vo_w51) (w1 := (w49.setCell ⟨go42, (x10_1 : Int).toNat, none⟩ (.bool true))) ?hg ?ho ?hn ?hr ?_; (case ho => rfl); (case hg => rfl); (case hn => rfl); (case hr => first | (go_simp; done) | (go_simp; rfl)); intro w51 hw; have hg : w49.grownBy w51 (some go42) := (by rw [hw]; exact HP50.2); have hp_ : Kd.R Kd.bool 4 w51 w.heap.size (fun _ => True) (.slice (some ⟨go42, 0, none⟩) x8_1.length co42) y127 := (by rw [hw, Ny127.out]; exact HP50.1); clear HP50; have n0_ := Aside0.mk (hp_); have n1_ := Aside0.mk (Kd.R_over' (v := (.slice (some ⟨go42, 0, none⟩) x8_1.length co42)) (by (with_reducible repeat (first | apply Kd.R_alloc | apply Kd.R_drewN | apply Kd.R_drew)); exact HO_9.out) (Kd.R_typed HO_8.out) (by decide) hg); have n2_ := Aside0.mk (blk_grown (g := gb126) (o := .cells #[.int .i64 ji34, .int .i64 ji37, .int .i64 0, .int .i64 (rd (rd_L1 l0 (ji34)) (ji37))] 116 (0, 0)) (by (with_reducible repeat (first | refine blk_drewN ?_ _ | refine blk_drew ?_ | refine blk_alloc ?_ _)); exact BK126.out) hg (Kd.R_ne HO_8.out BK126.out (by decide))); have n3_ := Aside0.mk ((by rw [hw]; exact below_set (HB.out) GB42.out : Below w.heap.size w w51)); clear HO_8; clear HO_9; clear BK126; clear HB; have HO_8 := n0_; have HO_9 := n1_; have BK126 := n2_; have HB := n3_; clear n0_ n1_ n2_ n3_; clear hg hw hp_) | ((with_reducible refine gate_dst (N := 85) rfl ?_); refine Kd.R_lit (Kd.int .i64) _ 3 ?hg (N := 85) ?hd (xs := ([x10_1] : List Int)) (inner := [.int .i64 x10_1]) (ok := fun _ => True) (okp := fun _ => True) ?hr ?hp (fun _ hk => hk) trivial (Below.refl _ _) (Nat.le_refl _) (by simp) ?_; (case hd => rfl); (case hg => rfl); (case hr => first | (go_simp; done) | (go_simp; rfl)); (case hp => exact (Reps.one (show Kd.M (Kd.int .i64) _ _ _ x10_1 [.int .i64 x10_1] from rfl) (Reps.none _ _))); intro v129 w52 ho53 hb hg_ hnew_; clear hg_ hnew_; (first | rw [← Ny128.out] at ho53 | (simp only [Int.reduceToNat] at ho53; rw [← Ny128.out] at ho53)); have n0_ := Aside0.mk (Kd.R_below (by (with_reducible repeat (first | apply Kd.R_alloc | apply Kd.R_drewN | apply Kd.R_drew)); exact HO_8.out) hb); have n1_ := Aside0.mk (Kd.R_below (by (with_reducible repeat (first | apply Kd.R_alloc | apply Kd.R_drewN | apply Kd.R_drew)); exact HO_9.out) hb); have n2_ := Aside0.mk (Kd.R_lower ho53 (below_size (by repeat (first | (with_reducible first | exact HB.out | apply below_alloc | apply pw_below_drewN | apply below_drew1 | refine below_set ?_ GE126.out) | exact HB.out)))); have n3_ := Aside0.mk (blk_below (g := gb126) (o := .cells #[.int .i64 ji34, .int .i64 ji37, .int .i64 0, .int .i64 (rd (rd_L1 l0 (ji34)) (ji37))] 116 (0, 0)) (by (with_reducible repeat (first | refine blk_drewN ?_ _ | refine blk_drew ?_ | refine blk_alloc ?_ _)); exact BK126.out) hb); have n4_ := Aside0.mk (below_step (by repeat (first | (with_reducible first | exact HB.out | apply below_alloc | apply pw_below_drewN | apply below_drew1 | refine below_set ?_ GE126.out) | exact HB.out)) hb); clear HO_8; clear HO_9; clear BK126; clear HB; have HO_8 := n0_; have HO_9 := n1_; have HO130 := n2_; have BK126 := n3_; have HB := n4_; clear n0_ n1_ n2_ n3_ n4_; clear hb ho53))
                    go_loopg [12, 13] kj15 (fun kq v12 v13 w' => ∃ (x8_3 : List Bool) (x12_3 : List Int) (x13_3 : Int) (x127002_3 : Int) (x127003_3 : Int), v13 = .int .i64 x13_3 ∧ Aside0 (spec_HotSpots.l1 kq l0 a1 (l0.length : Int) ((rd_L1 l0 0).length : Int) x8_3 x9_1 x10_1 x12_3 x13_3 ji34 ji37 x127002_3 x127003_3 = some (r1, r2)) ∧ Aside0 (kq ≤ kj15) ∧ Aside0 (Kd.R Kd.bool 4 w' w.heap.size (fun _ => True) (.slice (some ⟨go42, 0, none⟩) x8_1.length co42) x8_3) ∧ Aside0 (Kd.R k116 116 w' w.heap.size (fun k_ => k_ ≠ gb126) u9 x9_1) ∧ Aside0 (Kd.R (Kd.int .i64) 3 w' w.heap.size (fun _ => True) v12 x12_3) ∧ Aside0 (w'.heap[gb126]? = some (.cells #[.int .i64 ji34, .int .i64 ji37, .int .i64 x127002_3, .int .i64 x127003_3] 116 (0, 0))) ∧ Aside0 (Below w.heap.size w w'))
                    case atStart => exact ⟨(y127), (y128), (0), (0), (rd (rd_L1 l0 (ji34)) (ji37)), (by first | rfl | (simp; done) | (simp [*]; done)), H', ⟨Nat.le_refl _⟩, ⟨by (with_reducible repeat (first | apply Kd.R_alloc | apply Kd.R_drewN | apply Kd.R_drew)); exact HO_8.out⟩, ⟨by (with_reducible repeat (first | apply Kd.R_alloc | apply Kd.R_drewN | apply Kd.R_drew)); exact HO_9.out⟩, ⟨by (with_reducible repeat (first | apply Kd.R_alloc | apply Kd.R_drewN | apply Kd.R_drew)); exact HO130.out⟩, ⟨by (with_reducible repeat (first | refine blk_drewN ?_ _ | refine blk_drew ?_ | refine blk_alloc ?_ _)); exact BK126.out⟩, ⟨by repeat (first | (with_reducible first | exact HB.out | apply below_alloc | apply pw_below_drewN | apply below_drew1 | refine below_set ?_ GE126.out) | exact HB.out)⟩⟩
                    case round =>
                     as_aux_lemma =>
                      clear H'
                      try clear c1
                      try clear p1
                      try clear q1
                      try clear hx1
                      try clear qi1
                      try clear c2
                      try clear p2
                      try clear c3
                      try clear c4
                      try clear p4
                      try clear q4
                      try clear hx4
                      try clear hf4
                      try clear c6
                      try clear p6
                      try clear c7
                      try clear c7b0
                      try clear c7b1
                      try clear c8
                      try clear c9
                      try clear c9b0
                      try clear c9b1
                      try clear c10
                      try clear c10b0
                      try clear c10b1
                      try clear c11
                      try clear p11
                      try clear q11
                      try clear hx11
                      try clear qi11
                      try clear c12
                      try clear p12
                      try clear q12
                      try clear hx12
                      try clear c15
                      try clear c15b0
                      try clear c17
                      try clear c17b0
                      try clear c18
                      try clear c18b0
                      try clear q19
                      try clear c20
                      try clear c23
                      try clear c23b0
                      try clear c23b1
                      try clear c23b2
                      try clear c25
                      try clear c25b0
                      try clear c26
                      try clear c26b0
                      try clear c28
                      try clear c28b0
                      try clear c29
                      try clear c29b0
                      try clear c32
                      try clear c33
                      try clear c33b0
                      try clear c33b1
                      try clear c33b2
                      try clear c35
                      try clear c35b0
                      try clear c36
                      try clear c36b0
                      try clear c38
                      try clear c38b0
                      try clear c39
                      try clear c39b0
                      try clear c40
                      try clear c40b0
                      try clear c41
                      try clear c41b0
                      try clear p42
                      try clear q42
                      try clear hx42
                      try clear hf42
                      try clear hx114_0
                      try clear hx121_0
                      try clear hx122_0
                      try clear hx123_0
                      try clear hx124_0
                      try clear hx125_0
                      try clear hx42_0
                      try clear p1
                      try clear p11
                      try clear p114
                      try clear p12
                      try clear p121
                      try clear p122
                      try clear p123
                      try clear p124
                      try clear p125
                      try clear p2
                      try clear p42
                      try clear p6
                      try clear q1
                      try clear q11
                      try clear q114
                      try clear q12
                      try clear q121
                      try clear q122
                      try clear q123
                      try clear q124
                      try clear q125
                      try clear q19
                      try clear q42
                      obtain ⟨x8_3, x12_3, x13_3, x127002_3, x127003_3, rfl, HA, HK3, HO_8, HO_9, HO_12, BK126, HB⟩ := hrel
                      have hl8_3 := (Kd.R_reads' HO_8.out).1
                      rw [hl8_3] at HO_8
                      (try simp only [hl8_3])
                      (try simp only [hl8_3] at BK126)
                      (try simp only [hl8_3] at HO_9)
                      (try simp only [hl8_3] at HO_12)
                      cases gk with
                      | zero => exact absurd HA.out (by simp [spec_HotSpots.l1])
                      | succ k3 =>
                       have H := HA.out
                       clear HA
                       simp only [spec_HotSpots.l1] at H
                       by_cases c54 : x13_3 < (x12_3.length : Int)
                       ·
                        rw [if_pos c54] at H
                        have c54b0 : decide (x13_3 < (x12_3.length : Int)) = true := decide_eq_true c54
                        have c54b0_ := c54b0
                        (try simp only [hl8_3] at c54b0_)
                        clear c54
                        by_cases c55 : 0 ≤ x13_3
                        ·
                         rw [if_pos c55] at H
                         have c55b0 : decide (0 ≤ x13_3) = true := decide_eq_true c55
                         clear c55
                         by_cases c56 : ((rd_L1 l0 0).length : Int) = 0
                         ·
                          rw [if_pos c56] at H
                          exact absurd H (by simp)
                         ·
                          rw [if_neg c56] at H
                          have c56b0 : (((rd_L1 l0 0).length : Int) == 0) = false := beq_eq_false_iff_ne.mpr c56
                          have c56b1 : (((rd_L1 l0 0).length : Int) != 0) = true := bne_iff_ne.mpr c56
                          have c56b2 : ¬ ((rd_L1 l0 0) = []) := fun h_ => c56 (by rw [h_]; rfl)
                          obtain ⟨ji57, hji57⟩ : ∃ j_ : Int, (wrap64 (Int.tdiv (rd x12_3 x13_3) ((rd_L1 l0 0).length : Int))) = j_ := ⟨_, rfl⟩
                          replace H : (if 0 ≤ (ji57) then (if (ji57) < (l0.length : Int) then (if 0 ≤ (Int.tmod (rd x12_3 x13_3) ((rd_L1 l0 0).length : Int)) then (if (Int.tmod (rd x12_3 x13_3) ((rd_L1 l0 0).length : Int)) < ((rd_L1 l0 (ji57)).length : Int) then ((spec_l00Max.f x127003_3 (rd (rd_L1 l0 (ji57)) (Int.tmod (rd x12_3 x13_3) ((rd_L1 l0 0).length : Int)))).bind fun t138 => (spec_HotSpots.l2 k3 l0 a1 (l0.length : Int) ((rd_L1 l0 0).length : Int) x8_3 x9_1 x10_1 x12_3 x13_3 (([(([wrap64 ((ji57) - 1), Int.tmod (rd x12_3 x13_3) ((rd_L1 l0 0).length : Int)] : List Int)), (([ji57, wrap64 ((Int.tmod (rd x12_3 x13_3) ((rd_L1 l0 0).length : Int)) - 1)] : List Int)), (([ji57, wrap64 ((Int.tmod (rd x12_3 x13_3) ((rd_L1 l0 0).length : Int)) + 1)] : List Int)), (([wrap64 ((ji57) + 1), Int.tmod (rd x12_3 x13_3) ((rd_L1 l0 0).length : Int)] : List Int))] : List (List Int))) 0 ji34 ji37 (wrap64 (x127002_3 + 1)) t138)) else (none)) else (none)) else (none)) else (none)) = some (r1, r2) := by first | (rw [hji57] at H; exact H) | (simp only [hji57] at H ⊢; exact H)
                          have hji57w : (IntKind.i64.wrap (Int.tdiv (rd x12_3 x13_3) ((rd_L1 l0 0).length : Int))) = ji57 := (i64_w _).trans hji57
                          by_cases c58 : 0 ≤ (ji57)
                          ·
                           rw [if_pos c58] at H
                           have c58b0 : decide (0 ≤ (ji57)) = true := decide_eq_true c58
                           clear c58
                           by_cases c59 : (ji57) < (l0.length : Int)
                           ·
                            rw [if_pos c59] at H
                            have c59b0 : decide ((ji57) < (l0.length : Int)) = true := decide_eq_true c59
                            have c59b0_ := c59b0
                            (try simp only [hl8_3] at c59b0_)
                            clear c59
                            obtain ⟨ji60, hji60⟩ : ∃ j_ : Int, (Int.tmod (rd x12_3 x13_3) ((rd_L1 l0 0).length : Int)) = j_ := ⟨_, rfl⟩
                            replace H : (if 0 ≤ (ji60) then (if (ji60) < ((rd_L1 l0 (ji57)).length : Int) then ((spec_l00Max.f x127003_3 (rd (rd_L1 l0 (ji57)) (ji60))).bind fun t138 => (spec_HotSpots.l2 k3 l0 a1 (l0.length : Int) ((rd_L1 l0 0).length : Int) x8_3 x9_1 x10_1 x12_3 x13_3 (([(([wrap64 ((ji57) - 1), ji60] : List Int)), (([ji57, wrap64 ((ji60) - 1)] : List Int)), (([ji57, wrap64 ((ji60) + 1)] : List Int)), (([wrap64 ((ji57) + 1), ji60] : List Int))] : List (List Int))) 0 ji34 ji37 (wrap64 (x127002_3 + 1)) t138)) else (none)) else (none)) = some (r1, r2) := by first | (rw [hji60] at H; exact H) | (simp only [hji60] at H ⊢; exact H)
                            by_cases c61 : 0 ≤ (ji60)
                            ·
                             rw [if_pos c61] at H
                             have c61b0 : decide (0 ≤ (ji60)) = true := decide_eq_true c61
                             clear c61
                             by_cases c62 : (ji60) < ((rd_L1 l0 (ji57)).length : Int)
                             ·
                              rw [if_pos c62] at H
                              have c62b0 : decide ((ji60) < ((rd_L1 l0 (ji57)).length : Int)) = true := decide_eq_true c62
                              have c62b0_ := c62b0
                              (try simp only [hl8_3] at c62b0_)
                              clear c62
                              replace H := Option.bind_eq_some_iff.mp H
                              obtain ⟨t138, A630, H⟩ := H
                              replace H : (spec_HotSpots.l2 k3 l0 a1 (l0.length : Int) ((rd_L1 l0 0).length : Int) x8_3 x9_1 x10_1 x12_3 x13_3 (([(([wrap64 ((ji57) - 1), ji60] : List Int)), (([ji57, wrap64 ((ji60) - 1)] : List Int)), (([ji57, wrap64 ((ji60) + 1)] : List Int)), (([wrap64 ((ji57) + 1), ji60] : List Int))] : List (List Int))) 0 ji34 ji37 (wrap64 (x127002_3 + 1)) t138) = some (r1, r2) := H
                              have A63 := Aside0.mk A630
                              clear A630
                              obtain ⟨y139, hy139⟩ : ∃ y_ : List Int, y_ = (([wrap64 ((ji57) - 1), ji60] : List Int)) := ⟨_, rfl⟩
                              replace H : (spec_HotSpots.l2 k3 l0 a1 (l0.length : Int) ((rd_L1 l0 0).length : Int) x8_3 x9_1 x10_1 x12_3 x13_3 (([y139, (([ji57, wrap64 ((ji60) - 1)] : List Int)), (([ji57, wrap64 ((ji60) + 1)] : List Int)), (([wrap64 ((ji57) + 1), ji60] : List Int))] : List (List Int))) 0 ji34 ji37 (wrap64 (x127002_3 + 1)) t138) = some (r1, r2) := by first | (rw [hy139]; with_reducible exact H) | (have H2_ := (Option.bind_some _ _).symm.trans H; rw [hy139]; with_reducible exact H2_) | (have H2_ := (Option.bind_some _ _).symm.trans H; with_reducible exact H2_) | with_reducible exact H | (rw [hy139]; exact H) | exact H
                              have Ny139 := Aside0.mk hy139
                              clear hy139
                              obtain ⟨y142, hy142⟩ : ∃ y_ : List Int, y_ = (([ji57, wrap64 ((ji60) - 1)] : List Int)) := ⟨_, rfl⟩
                              replace H : (spec_HotSpots.l2 k3 l0 a1 (l0.length : Int) ((rd_L1 l0 0).length : Int) x8_3 x9_1 x10_1 x12_3 x13_3 (([y139, y142, (([ji57, wrap64 ((ji60) + 1)] : List Int)), (([wrap64 ((ji57) + 1), ji60] : List Int))] : List (List Int))) 0 ji34 ji37 (wrap64 (x127002_3 + 1)) t138) = some (r1, r2) := by first | (rw [hy142]; with_reducible exact H) | (have H2_ := (Option.bind_some _ _).symm.trans H; rw [hy142]; with_reducible exact H2_) | (have H2_ := (Option.bind_some _ _).symm.trans H; with_reducible exact H2_) | with_reducible exact H | (rw [hy142]; exact H) | exact H
                              have Ny142 := Aside0.mk hy142
                              clear hy142
                              obtain ⟨y145, hy145⟩ : ∃ y_ : List Int, y_ = (([ji57, wrap64 ((ji60) + 1)] : List Int)) := ⟨_, rfl⟩
                              replace H : (spec_HotSpots.l2 k3 l0 a1 (l0.length : Int) ((rd_L1 l0 0).length : Int) x8_3 x9_1 x10_1 x12_3 x13_3 (([y139, y142, y145, (([wrap64 ((ji57) + 1), ji60] : List Int))] : List (List Int))) 0 ji34 ji37 (wrap64 (x127002_3 + 1)) t138) = some (r1, r2) := by first | (rw [hy145]; with_reducible exact H) | (have H2_ := (Option.bind_some _ _).symm.trans H; rw [hy145]; with_reducible exact H2_) | (have H2_ := (Option.bind_some _ _).symm.trans H; with_reducible exact H2_) | with_reducible exact H | (rw [hy145]; exact H) | exact H
                              have Ny145 := Aside0.mk hy145
                              clear hy145
                              obtain ⟨y148, hy148⟩ : ∃ y_ : List Int, y_ = (([wrap64 ((ji57) + 1), ji60] : List Int)) := ⟨_, rfl⟩
                              replace H : (spec_HotSpots.l2 k3 l0 a1 (l0.length : Int) ((rd_L1 l0 0).length : Int) x8_3 x9_1 x10_1 x12_3 x13_3 (([y139, y142, y145, y148] : List (List Int))) 0 ji34 ji37 (wrap64 (x127002_3 + 1)) t138) = some (r1, r2) := by first | (rw [hy148]; with_reducible exact H) | (have H2_ := (Option.bind_some _ _).symm.trans H; rw [hy148]; with_reducible exact H2_) | (have H2_ := (Option.bind_some _ _).symm.trans H; with_reducible exact H2_) | with_reducible exact H | (rw [hy148]; exact H) | exact H
                              have Ny148 := Aside0.mk hy148
                              clear hy148
                              obtain ⟨y151, hy151⟩ : ∃ y_ : List (List Int), y_ = (([y139, y142, y145, y148] : List (List Int))) := ⟨_, rfl⟩
                              replace H : (spec_HotSpots.l2 k3 l0 a1 (l0.length : Int) ((rd_L1 l0 0).length : Int) x8_3 x9_1 x10_1 x12_3 x13_3 y151 0 ji34 ji37 (wrap64 (x127002_3 + 1)) t138) = some (r1, r2) := by first | (rw [hy151]; with_reducible exact H) | (have H2_ := (Option.bind_some _ _).symm.trans H; rw [hy151]; with_reducible exact H2_) | (have H2_ := (Option.bind_some _ _).symm.trans H; with_reducible exact H2_) | with_reducible exact H | (rw [hy151]; exact H) | exact H
                              have Ny151 := Aside0.mk hy151
                              clear hy151
                              have H' := Aside0.mk H
                              clear H
                              obtain ⟨Ao64, co64, eo64⟩ := Kd.R_slice HO_12.out
                              subst eo64
                              have p134 : 0 ≤ (x13_3 : Int) := of_decide_eq_true (by first | (with_reducible assumption) | assumption)
                              have q134 : x13_3 < (x12_3.length : Int) := of_decide_eq_true (by first | (with_reducible assumption) | assumption)
                              obtain ⟨ad134, e134, hx134_0⟩ := Kd.at_int (Kd.R_reads' HO_12.out).2.2 x13_3 p134 q134
                              cases e134
                              replace p134 := eq_true p134
                              replace q134 := eq_true q134
                              have p135 : 0 ≤ (x13_3 : Int) := of_decide_eq_true (by first | (with_reducible assumption) | assumption)
                              have q135 : x13_3 < (x12_3.length : Int) := of_decide_eq_true (by first | (with_reducible assumption) | assumption)
                              obtain ⟨ad135, e135, hx135_0⟩ := Kd.at_int (Kd.R_reads' HO_12.out).2.2 x13_3 p135 q135
                              obtain rfl : ad134 = ad135 := (by injection e135)
                              replace p135 := eq_true p135
                              replace q135 := eq_true q135
                              have hcz65_0 : wr.cell? ⟨gb126, 0, none⟩ = some (.int .i64 ji34) := (blk_cell BK126.out 0).trans rfl
                              have hcz65_1 : wr.cell? ⟨gb126, 1, none⟩ = some (.int .i64 ji37) := (blk_cell BK126.out 1).trans rfl
                              have hcz65_2 : wr.cell? ⟨gb126, 2, none⟩ = some (.int .i64 x127002_3) := (blk_cell BK126.out 2).trans rfl
                              have hcz65_3 : wr.cell? ⟨gb126, 3, none⟩ = some (.int .i64 x127003_3) := (blk_cell BK126.out 3).trans rfl
                              have hfz65_0 := blk_frozen BK126.out 0
                              have hfz65_1 := blk_frozen BK126.out 1
                              have hfz65_2 := blk_frozen BK126.out 2
                              have hfz65_3 := blk_frozen BK126.out 3
                              try go_wp2
                              have n0_ : Aside0 (Kd.R Kd.bool 4 (wr.setCell ⟨gb126, 2, none⟩ (.int .i64 (wrap64 (x127002_3 + 1)))) w.heap.size (fun _ => True) (.slice (some ⟨go42, 0, none⟩) x8_3.length co42) x8_3) := ⟨by (with_reducible repeat (first | apply Kd.R_alloc | apply Kd.R_drewN | apply Kd.R_drew)); exact Kd.R_mono (Kd.R_far (p := ⟨gb126, 2, none⟩) (Kd.R_types HO_8.out BK126.out (by decide)) (fun _ hk => hk.2) (.int .i64 (wrap64 (x127002_3 + 1)))) (fun _ hk => trivial)⟩
                              have n1_ : Aside0 (Kd.R k116 116 (wr.setCell ⟨gb126, 2, none⟩ (.int .i64 (wrap64 (x127002_3 + 1)))) w.heap.size (fun k_ => k_ ≠ gb126) u9 x9_1) := ⟨by (with_reducible repeat (first | apply Kd.R_alloc | apply Kd.R_drewN | apply Kd.R_drew)); exact Kd.R_mono (Kd.R_far (p := ⟨gb126, 2, none⟩) (Kd.R_mono HO_9.out (fun k_ hk => (⟨hk, hk⟩ : _ ∧ k_ ≠ gb126))) (fun _ hk => hk.2) (.int .i64 (wrap64 (x127002_3 + 1)))) (fun _ hk => hk.1)⟩
                              have n2_ : Aside0 (Kd.R (Kd.int .i64) 3 (wr.setCell ⟨gb126, 2, none⟩ (.int .i64 (wrap64 (x127002_3 + 1)))) w.heap.size (fun _ => True) (.slice (some ad134) x12_3.length co64) x12_3) := ⟨by (with_reducible repeat (first | apply Kd.R_alloc | apply Kd.R_drewN | apply Kd.R_drew)); exact Kd.R_mono (Kd.R_far (p := ⟨gb126, 2, none⟩) (Kd.R_types HO_12.out BK126.out (by decide)) (fun _ hk => hk.2) (.int .i64 (wrap64 (x127002_3 + 1)))) (fun _ hk => trivial)⟩
                              have n3_ : Aside0 ((wr.setCell ⟨gb126, 2, none⟩ (.int .i64 (wrap64 (x127002_3 + 1)))).heap[gb126]? = some (.cells #[.int .i64 ji34, .int .i64 ji37, .int .i64 (wrap64 (x127002_3 + 1)), .int .i64 x127003_3] 116 (0, 0))) := ⟨by (with_reducible repeat (first | refine blk_drewN ?_ _ | refine blk_drew ?_ | refine blk_alloc ?_ _)); refine blk_put (cs := #[.int .i64 ji34, .int .i64 ji37, .int .i64 x127002_3, .int .i64 x127003_3]) ?_ 2 _ rfl; (with_reducible repeat (first | refine blk_drewN ?_ _ | refine blk_drew ?_ | refine blk_alloc ?_ _)); exact BK126.out⟩
                              have n4_ : Aside0 (Below w.heap.size w (wr.setCell ⟨gb126, 2, none⟩ (.int .i64 (wrap64 (x127002_3 + 1))))) := ⟨by repeat (first | (with_reducible first | exact HB.out | apply below_alloc | apply pw_below_drewN | apply below_drew1 | refine below_set ?_ GE126.out) | exact HB.out)⟩
                              (try clear HO_8)
                              (try clear HO_9)
                              (try clear HO_12)
                              (try clear BK126)
                              (try clear HB)
                              generalize (wr.setCell ⟨gb126, 2, none⟩ (.int .i64 (wrap64 (x127002_3 + 1)))) = w66 at n0_ n1_ n2_ n3_ n4_ ⊢
                              have HO_8 := n0_
                              have HO_9 := n1_
                              have HO_12 := n2_
                              have BK126 := n3_
                              have HB := n4_
                              clear n0_ n1_ n2_ n3_ n4_
                              have n0_ := Aside0.mk (Kd.R_drew HO_8.out)
                              have n1_ := Aside0.mk (Kd.R_drew HO_9.out)
                              have n2_ := Aside0.mk (Kd.R_drew HO_12.out)
                              have n3_ := Aside0.mk (blk_drew BK126.out)
                              have n4_ := Aside0.mk (below_drew1 HB.out)
                              clear HO_8
                              clear HO_9
                              clear HO_12
                              clear BK126
                              clear HB
                              have HO_8 := n0_
                              have HO_9 := n1_
                              have HO_12 := n2_
                              have BK126 := n3_
                              have HB := n4_
                              clear n0_ n1_ n2_ n3_ n4_
                              have p136 : 0 ≤ ((ji57) : Int) := of_decide_eq_true (by first | (with_reducible assumption) | assumption)
                              have q136 : (ji57) < (l0.length : Int) := of_decide_eq_true (by first | (with_reducible assumption) | assumption)
                              obtain ⟨ad136, A136_0, c136_0, e136, hx136_0, hl136_0, hi136_0⟩ := at_L1 HR0.out (ji57) p136 q136
                              have hw136_0 := hx136_0
                              obtain rfl : ad114 = ad136 := (by injection e136)
                              replace hx136_0 := (HB.out.cell (World.block_lt_of_cell? w _ hx136_0)).trans hx136_0
                              have HR136_0 := Aside0.mk hi136_0
                              have HC136_0 := Aside0.mk hl136_0
                              clear hi136_0 hl136_0
                              replace p136 := eq_true p136
                              replace q136 := eq_true q136
                              have p137 : 0 ≤ ((ji60) : Int) := of_decide_eq_true (by first | (with_reducible assumption) | assumption)
                              have q137 : (ji60) < ((rd_L1 l0 (ji57)).length : Int) := of_decide_eq_true (by first | (with_reducible assumption) | assumption)
                              obtain ⟨ad137, e137, hx137_0⟩ := Kd.at_int HR136_0.out (ji60) p137 q137
                              have hw137_0 := hx137_0
                              cases e137
                              replace hx137_0 := (HB.out.cell (World.block_lt_of_cell? w _ hx137_0)).trans hx137_0
                              replace p137 := eq_true p137
                              replace q137 := eq_true q137
                              refine start_ (n := 12) (S := fun w' => w'.cell? ⟨gb126, 0, none⟩ = some (.int .i64 ji34) ∧ w'.cell? ⟨gb126, 1, none⟩ = some (.int .i64 ji37) ∧ w'.cell? ⟨gb126, 2, none⟩ = some (.int .i64 (wrap64 (x127002_3 + 1))) ∧ w'.cell? ⟨gb126, 3, none⟩ = some (.int .i64 x127003_3) ∧ w'.cell? (ad114.add ((ji57)).toNat) = some (.slice (some ad137) (rd_L1 l0 (ji57)).length c136_0) ∧ w'.cell? (ad137.add ((ji60)).toNat) = some (.int .i64 (rd (rd_L1 l0 (ji57)) (ji60)))) (ds := [11]) #[false, false, false, false, false, false, false, false, false, false, false, false] (by kernel_rfl) rfl rfl ⟨(blk_cell BK126.out 0).trans rfl, (blk_cell BK126.out 1).trans rfl, (blk_cell BK126.out 2).trans rfl, (blk_cell BK126.out 3).trans rfl, ((HB.out.cell (World.block_lt_of_cell? w _ hw136_0)).trans hw136_0), ((HB.out.cell (World.block_lt_of_cell? w _ hw137_0)).trans hw137_0)⟩ (fun hHeld => ?_); refine with_tabW spec_HotSpots.tab22 spec_HotSpots.bits22 (fun HT_ HW_ => ?_)
                              generalize w66.drew = w67 at HO_8 HO_9 HO_12 BK126 HB HR136_0 hx136_0 hx137_0 hHeld ⊢
                              refine pure_ (i := 0) (N := some 108) (v := ?_) (a' := ?_) #[true, false, false, false, false, false, false, false, false, false, false, false] rfl rfl (any_of HT_.out (by kernel_rfl)) (fun _ _ _ h => h) (Or.inl ⟨by rfl, ?_⟩) ?_ ?_
                              rotate_left
                              ·
                               intro w'
                               go_simp
                               with_reducible rfl
                              rotate_left
                              ·
                               simp only [Act.put, List.setIfInBounds_toArray, List.set_cons_zero, List.set_cons_succ, i64_w, i32_w]
                               rfl
                              refine pure_ (i := 2) (N := some 110) (v := ?_) (a' := ?_) #[true, false, true, false, false, false, false, false, false, false, false, false] rfl rfl (any_of HT_.out (by kernel_rfl)) (fun _ _ _ h => h) (Or.inl ⟨by rfl, ?_⟩) ?_ ?_
                              rotate_left
                              ·
                               intro w'
                               go_simp
                               with_reducible rfl
                              rotate_left
                              ·
                               simp only [Act.put, List.setIfInBounds_toArray, List.set_cons_zero, List.set_cons_succ, i64_w, i32_w]
                               rfl
                              refine pure_ (i := 3) (N := some 111) (v := ?_) (a' := ?_) #[true, false, true, true, false, false, false, false, false, false, false, false] rfl rfl (any_of HT_.out (by kernel_rfl)) (fun _ _ _ h => h) (Or.inl ⟨by rfl, ?_⟩) ?_ ?_
                              rotate_left
                              ·
                               intro w'
                               go_simp
                               with_reducible rfl
                              rotate_left
                              ·
                               simp only [Act.put, List.setIfInBounds_toArray, List.set_cons_zero, List.set_cons_succ, i64_w, i32_w]
                               rfl
                              refine pure_ (i := 4) (N := some 112) (v := ?_) (a' := ?_) #[true, false, true, true, true, false, false, false, false, false, false, false] rfl rfl (any_of HT_.out (by kernel_rfl)) (fun _ _ _ h => h) (Or.inl ⟨by rfl, ?_⟩) ?_ ?_
                              rotate_left
                              ·
                               intro w'
                               go_simp
                               with_reducible rfl
                              rotate_left
                              ·
                               simp only [Act.put, List.setIfInBounds_toArray, List.set_cons_zero, List.set_cons_succ, i64_w, i32_w]
                               rfl
                              refine pure_ (i := 6) (N := some 114) (v := ?_) (a' := ?_) #[true, false, true, true, true, false, true, false, false, false, false, false] rfl rfl (any_of HT_.out (by kernel_rfl)) (fun _ _ _ h => h) (Or.inl ⟨by rfl, ?_⟩) ?_ ?_
                              rotate_left
                              ·
                               intro w'
                               go_simp
                               with_reducible rfl
                              rotate_left
                              ·
                               simp only [Act.put, List.setIfInBounds_toArray, List.set_cons_zero, List.set_cons_succ, i64_w, i32_w]
                               rfl
                              refine take_ (i := 1) (N := some 109) (v := ?_) (a' := ?_) #[true, true, true, true, true, false, true, false, false, false, false, false] rfl rfl (take_ofW HT_.out HW_.out (by kernel_rfl)) (fun _ _ _ h => h) (Or.inl ⟨by rfl, ?_⟩) hHeld ?_ ?_
                              rotate_left
                              ·
                               rintro w' ⟨s0, s1, s2, s3, s4, s5⟩
                               go_simp
                               with_reducible rfl
                              rotate_left
                              ·
                               simp only [Act.put, List.setIfInBounds_toArray, List.set_cons_zero, List.set_cons_succ, i64_w, i32_w]
                               rfl
                              refine take_ (i := 5) (N := some 113) (v := ?_) (a' := ?_) #[true, true, true, true, true, true, true, false, false, false, false, false] rfl rfl (take_ofW HT_.out HW_.out (by kernel_rfl)) (fun _ _ _ h => h) (Or.inl ⟨by rfl, ?_⟩) hHeld ?_ ?_
                              rotate_left
                              ·
                               rintro w' ⟨s0, s1, s2, s3, s4, s5⟩
                               go_simp
                               with_reducible rfl
                              rotate_left
                              ·
                               simp only [Act.put, List.setIfInBounds_toArray, List.set_cons_zero, List.set_cons_succ, i64_w, i32_w]
                               rfl
                              refine pure_ (i := 7) (N := some 115) (v := ?_) (a' := ?_) #[true, true, true, true, true, true, true, true, false, false, false, false] rfl rfl (any_of HT_.out (by kernel_rfl)) (fun _ _ _ h => h) (Or.inl ⟨by rfl, ?_⟩) ?_ ?_
                              rotate_left
                              ·
                               intro w'
                               go_simp
                               with_reducible rfl
                              rotate_left
                              ·
                               simp only [Act.put, List.setIfInBounds_toArray, List.set_cons_zero, List.set_cons_succ, i64_w, i32_w]
                               rfl
                              refine take_ (i := 8) (N := some 116) (v := ?_) (a' := ?_) #[true, true, true, true, true, true, true, true, true, false, false, false] rfl rfl (take_ofW HT_.out HW_.out (by kernel_rfl)) (fun _ _ _ h => h) (Or.inl ⟨by rfl, ?_⟩) hHeld ?_ ?_
                              rotate_left
                              ·
                               rintro w' ⟨s0, s1, s2, s3, s4, s5⟩
                               go_simp
                               with_reducible rfl
                              rotate_left
                              ·
                               simp only [Act.put, List.setIfInBounds_toArray, List.set_cons_zero, List.set_cons_succ, i64_w, i32_w]
                               rfl
                              refine one_ (i := 9) (N := some 117) #[true, true, true, true, true, true, true, true, true, true, false, false] rfl rfl (one_of HT_.out (by kernel_rfl)) (by decide) (fun K hK => ?_)
                              refine goes_ Try.func87 (by kernel_rfl) rfl #[.int .i64 x127003_3, .int .i64 (rd (rd_L1 l0 (ji57)) (ji60))] (by rfl) rfl rfl (by (try simp only [List.map_toArray, List.map_cons, List.map_nil]); first | done | (simp only [hji57, hji60]; rfl) | rfl | (simp only [List.length_drop, List.length_take]; rfl)) ?_
                              with_reducible refine (spec_l00Max.calls x127003_3 (rd (rd_L1 l0 (ji57)) (ji60)) t138 _ A63.out).mono ?_
                              rintro e w' ⟨rfl, ⟨nd, rfl⟩⟩
                              refine ⟨_, rfl, ?_⟩
                              refine hK.out _ _ ⟨(blk_cell BK126.out 0).trans rfl, (blk_cell BK126.out 1).trans rfl, (blk_cell BK126.out 2).trans rfl, (blk_cell BK126.out 3).trans rfl, ((HB.out.cell (World.block_lt_of_cell? w _ hw136_0)).trans hw136_0), ((HB.out.cell (World.block_lt_of_cell? w _ hw137_0)).trans hw137_0)⟩ (fun hHeld => ?_)
                              clear hK K
                              refine norm_ (a' := ?_) ?_ ?_
                              rotate_left
                              ·
                               show Act.put _ (some 117) _ = _
                               simp only [Act.put, List.setIfInBounds_toArray, List.set_cons_zero, List.set_cons_succ, i64_w, i32_w]
                               rfl
                              refine pure_ (i := 10) (N := some 118) (v := ?_) (a' := ?_) #[true, true, true, true, true, true, true, true, true, true, true, false] rfl rfl (any_of HT_.out (by kernel_rfl)) (fun _ _ _ h => h) (Or.inl ⟨by rfl, ?_⟩) ?_ ?_
                              rotate_left
                              ·
                               intro w'
                               go_simp
                               with_reducible rfl
                              rotate_left
                              ·
                               simp only [Act.put, List.setIfInBounds_toArray, List.set_cons_zero, List.set_cons_succ, i64_w, i32_w]
                               rfl
                              refine last_ (i := 11) (N := none) #[true, true, true, true, true, true, true, true, true, true, true, true] rfl rfl (one_of HT_.out (by kernel_rfl)) (by decide) (fun K hK => ?_)
                              have hs68 : w67.cell? ⟨gb126, 3, none⟩ = some (.int .i64 x127003_3) := (blk_cell BK126.out 3).trans rfl
                              have hfs68 := blk_frozen BK126.out 3
                              refine skip_ (w1 := ?_) (by rfl) rfl ?_ ?_
                              rotate_left
                              ·
                               go_simp
                               rfl
                              refine hK.out _ _ ?_
                              clear hK K
                              refine done_ (done_of HT_.out (by kernel_rfl)) ?_
                              try go_wp2_with (first | ((with_reducible refine gate_dst (N := 122) rfl ?_); refine Kd.R_lit (Kd.int .i64) _ 3 ?hg (N := 122) ?hd (xs := ([wrap64 ((ji57) - 1), ji60] : List Int)) (inner := [.int .i64 (wrap64 ((ji57) - 1)), .int .i64 ji60]) (ok := fun _ => True) (okp := fun _ => True) ?hr ?hp (fun _ hk => hk) trivial (Below.refl _ _) (Nat.le_refl _) (by simp) ?_; (case hd => rfl); (case hg => rfl); (case hr => first | (go_simp; done) | (go_simp; rfl)); (case hp => exact (Reps.one (show Kd.M (Kd.int .i64) _ _ _ (wrap64 ((ji57) - 1)) [.int .i64 (wrap64 ((ji57) - 1))] from rfl) (Reps.one (show Kd.M (Kd.int .i64) _ _ _ ji60 [.int .i64 ji60] from rfl) (Reps.none _ _)))); intro v140 w69 ho70 hb hg_ hnew_; clear hg_ hnew_; (first | rw [← Ny139.out] at ho70 | (simp only [Int.reduceToNat] at ho70; rw [← Ny139.out] at ho70)); have n0_ := Aside0.mk (Kd.R_below (by (with_reducible repeat (first | apply Kd.R_alloc | apply Kd.R_drewN | apply Kd.R_drew)); exact (Kd.R_mono (Kd.R_far (p := ⟨gb126, 3, none⟩) (Kd.R_types HO_8.out BK126.out (by decide)) (fun _ hk => hk.2) (.int .i64 t138)) (fun _ h_ => h_.1))) hb); have n1_ := Aside0.mk (Kd.R_below (by (with_reducible repeat (first | apply Kd.R_alloc | apply Kd.R_drewN | apply Kd.R_drew)); exact (Kd.R_mono (Kd.R_far (p := ⟨gb126, 3, none⟩) (Kd.R_mono HO_9.out (fun k_ hk => (⟨hk, hk⟩ : _ ∧ k_ ≠ gb126))) (fun _ hk => hk.2) (.int .i64 t138)) (fun _ h_ => h_.1))) hb); have n2_ := Aside0.mk (Kd.R_elder' (by (with_reducible repeat (first | apply Kd.R_alloc | apply Kd.R_drewN | apply Kd.R_drew)); exact (Kd.R_mono (Kd.R_far (p := ⟨gb126, 3, none⟩) (Kd.R_types HO_12.out BK126.out (by decide)) (fun _ hk => hk.2) (.int .i64 t138)) (fun _ h_ => h_.1))) (Kd.R_base ho70) hb); have n3_ := Aside0.mk (Kd.R_lower (Kd.R_new' ho70 (Kd.R_lt (by (with_reducible repeat (first | apply Kd.R_alloc | apply Kd.R_drewN | apply Kd.R_drew)); exact (Kd.R_mono (Kd.R_far (p := ⟨gb126, 3, none⟩) (Kd.R_types HO_12.out BK126.out (by decide)) (fun _ hk => hk.2) (.int .i64 t138)) (fun _ h_ => h_.1))))) (below_size (by repeat (first | (with_reducible first | exact HB.out | apply below_alloc | apply pw_below_drewN | apply below_drew1 | refine below_set ?_ GE126.out) | exact HB.out)))); have n4_ := Aside0.mk (blk_below (g := gb126) (o := .cells #[.int .i64 ji34, .int .i64 ji37, .int .i64 (wrap64 (x127002_3 + 1)), .int .i64 t138] 116 (0, 0)) (by (with_reducible repeat (first | refine blk_drewN ?_ _ | refine blk_drew ?_ | refine blk_alloc ?_ _)); refine blk_put (cs := #[.int .i64 ji34, .int .i64 ji37, .int .i64 (wrap64 (x127002_3 + 1)), .int .i64 x127003_3]) ?_ 3 _ rfl; (with_reducible repeat (first | refine blk_drewN ?_ _ | refine blk_drew ?_ | refine blk_alloc ?_ _)); exact BK126.out) hb); have n5_ := Aside0.mk (below_step (by repeat (first | (with_reducible first | exact HB.out | apply below_alloc | apply pw_below_drewN | apply below_drew1 | refine below_set ?_ GE126.out) | exact HB.out)) hb); clear HO_8; clear HO_9; clear HO_12; clear BK126; clear HB; have HO_8 := n0_; have HO_9 := n1_; have HO_12 := n2_; have HO141 := n3_; have BK126 := n4_; have HB := n5_; clear n0_ n1_ n2_ n3_ n4_ n5_; clear hb ho70) | ((with_reducible refine gate_dst (N := 126) rfl ?_); refine Kd.R_lit (Kd.int .i64) _ 3 ?hg (N := 126) ?hd (xs := ([ji57, wrap64 ((ji60) - 1)] : List Int)) (inner := [.int .i64 ji57, .int .i64 (wrap64 ((ji60) - 1))]) (ok := fun _ => True) (okp := fun _ => True) ?hr ?hp (fun _ hk => hk) trivial (Below.refl _ _) (Nat.le_refl _) (by simp) ?_; (case hd => rfl); (case hg => rfl); (case hr => first | (go_simp; done) | (go_simp; rfl)); (case hp => exact (Reps.one (show Kd.M (Kd.int .i64) _ _ _ ji57 [.int .i64 ji57] from rfl) (Reps.one (show Kd.M (Kd.int .i64) _ _ _ (wrap64 ((ji60) - 1)) [.int .i64 (wrap64 ((ji60) - 1))] from rfl) (Reps.none _ _)))); intro v143 w71 ho72 hb hg_ hnew_; clear hg_ hnew_; (first | rw [← Ny142.out] at ho72 | (simp only [Int.reduceToNat] at ho72; rw [← Ny142.out] at ho72)); have n0_ := Aside0.mk (Kd.R_below (by (with_reducible repeat (first | apply Kd.R_alloc | apply Kd.R_drewN | apply Kd.R_drew)); exact HO_8.out) hb); have n1_ := Aside0.mk (Kd.R_below (by (with_reducible repeat (first | apply Kd.R_alloc | apply Kd.R_drewN | apply Kd.R_drew)); exact HO_9.out) hb); have n2_ := Aside0.mk (Kd.R_elder' (by (with_reducible repeat (first | apply Kd.R_alloc | apply Kd.R_drewN | apply Kd.R_drew)); exact HO_12.out) (Kd.R_base ho72) hb); have n3_ := Aside0.mk (Kd.R_elder' (by (with_reducible repeat (first | apply Kd.R_alloc | apply Kd.R_drewN | apply Kd.R_drew)); exact HO141.out) (Kd.R_base ho72) hb); have n4_ := Aside0.mk (Kd.R_lower (Kd.R_new' (Kd.R_new' ho72 (Kd.R_lt (by (with_reducible repeat (first | apply Kd.R_alloc | apply Kd.R_drewN | apply Kd.R_drew)); exact HO_12.out))) (Kd.R_lt (by (with_reducible repeat (first | apply Kd.R_alloc | apply Kd.R_drewN | apply Kd.R_drew)); exact HO141.out))) (below_size (by repeat (first | (with_reducible first | exact HB.out | apply below_alloc | apply pw_below_drewN | apply below_drew1 | refine below_set ?_ GE126.out) | exact HB.out)))); have n5_ := Aside0.mk (blk_below (g := gb126) (o := .cells #[.int .i64 ji34, .int .i64 ji37, .int .i64 (wrap64 (x127002_3 + 1)), .int .i64 t138] 116 (0, 0)) (by (with_reducible repeat (first | refine blk_drewN ?_ _ | refine blk_drew ?_ | refine blk_alloc ?_ _)); exact BK126.out) hb); have n6_ := Aside0.mk (below_step (by repeat (first | (with_reducible first | exact HB.out | apply below_alloc | apply pw_below_drewN | apply below_drew1 | refine below_set ?_ GE126.out) | exact HB.out)) hb); clear HO_8; clear HO_9; clear HO_12; clear HO141; clear BK126; clear HB; have HO_8 := n0_; have HO_9 := n1_; have HO_12 := n2_; have HO141 := n3_; have HO144 := n4_; have BK126 := n5_; have HB := n6_; clear n0_ n1_ n2_ n3_ n4_ n5_ n6_; clear hb ho72) | ((with_reducible refine gate_dst (N := 130) rfl ?_); refine Kd.R_lit (Kd.int .i64) _ 3 ?hg (N := 130) ?hd (xs := ([ji57, wrap64 ((ji60) + 1)] : List Int)) (inner := [.int .i64 ji57, .int .i64 (wrap64 ((ji60) + 1))]) (ok := fun _ => True) (okp := fun _ => True) ?hr ?hp (fun _ hk => hk) trivial (Below.refl _ _) (Nat.le_refl _) (by simp) ?_; (case hd => rfl); (case hg => rfl); (case hr => first | (go_simp; done) | (go_simp; rfl)); (case hp => exact (Reps.one (show Kd.M (Kd.int .i64) _ _ _ ji57 [.int .i64 ji57] from rfl) (Reps.one (show Kd.M (Kd.int .i64) _ _ _ (wrap64 ((ji60) + 1)) [.int .i64 (wrap64 ((ji60) + 1))] from rfl) (Reps.none _ _)))); intro v146 w73 ho74 hb hg_ hnew_; clear hg_ hnew_; (first | rw [← Ny145.out] at ho74 | (simp only [Int.reduceToNat] at ho74; rw [← Ny145.out] at ho74)); have n0_ := Aside0.mk (Kd.R_below (by (with_reducible repeat (first | apply Kd.R_alloc | apply Kd.R_drewN | apply Kd.R_drew)); exact HO_8.out) hb); have n1_ := Aside0.mk (Kd.R_below (by (with_reducible repeat (first | apply Kd.R_alloc | apply Kd.R_drewN | apply Kd.R_drew)); exact HO_9.out) hb); have n2_ := Aside0.mk (Kd.R_elder' (by (with_reducible repeat (first | apply Kd.R_alloc | apply Kd.R_drewN | apply Kd.R_drew)); exact HO_12.out) (Kd.R_base ho74) hb); have n3_ := Aside0.mk (Kd.R_elder' (by (with_reducible repeat (first | apply Kd.R_alloc | apply Kd.R_drewN | apply Kd.R_drew)); exact HO141.out) (Kd.R_base ho74) hb); have n4_ := Aside0.mk (Kd.R_elder' (by (with_reducible repeat (first | apply Kd.R_alloc | apply Kd.R_drewN | apply Kd.R_drew)); exact HO144.out) (Kd.R_base ho74) hb); have n5_ := Aside0.mk (Kd.R_lower (Kd.R_new' (Kd.R_new' (Kd.R_new' ho74 (Kd.R_lt (by (with_reducible repeat (first | apply Kd.R_alloc | apply Kd.R_drewN | apply Kd.R_drew)); exact HO_12.out))) (Kd.R_lt (by (with_reducible repeat (first | apply Kd.R_alloc | apply Kd.R_drewN | apply Kd.R_drew)); exact HO141.out))) (Kd.R_lt (by (with_reducible repeat (first | apply Kd.R_alloc | apply Kd.R_drewN | apply Kd.R_drew)); exact HO144.out))) (below_size (by repeat (first | (with_reducible first | exact HB.out | apply below_alloc | apply pw_below_drewN | apply below_drew1 | refine below_set ?_ GE126.out) | exact HB.out)))); have n6_ := Aside0.mk (blk_below (g := gb126) (o := .cells #[.int .i64 ji34, .int .i64 ji37, .int .i64 (wrap64 (x127002_3 + 1)), .int .i64 t138] 116 (0, 0)) (by (with_reducible repeat (first | refine blk_drewN ?_ _ | refine blk_drew ?_ | refine blk_alloc ?_ _)); exact BK126.out) hb); have n7_ := Aside0.mk (below_step (by repeat (first | (with_reducible first | exact HB.out | apply below_alloc | apply pw_below_drewN | apply below_drew1 | refine below_set ?_ GE126.out) | exact HB.out)) hb); clear HO_8; clear HO_9; clear HO_12; clear HO141; clear HO144; clear BK126; clear HB; have HO_8 := n0_; have HO_9 := n1_; have HO_12 := n2_; have HO141 := n3_; have HO144 := n4_; have HO147 := n5_; have BK126 := n6_; have HB := n7_; clear n0_ n1_ n2_ n3_ n4_ n5_ n6_ n7_; clear hb ho74) | ((with_reducible refine gate_dst (N := 134) rfl ?_); refine Kd.R_lit (Kd.int .i64) _ 3 ?hg (N := 134) ?hd (xs := ([wrap64 ((ji57) + 1), ji60] : List Int)) (inner := [.int .i64 (wrap64 ((ji57) + 1)), .int .i64 ji60]) (ok := fun _ => True) (okp := fun _ => True) ?hr ?hp (fun _ hk => hk) trivial (Below.refl _ _) (Nat.le_refl _) (by simp) ?_; (case hd => rfl); (case hg => rfl); (case hr => first | (go_simp; done) | (go_simp; rfl)); (case hp => exact (Reps.one (show Kd.M (Kd.int .i64) _ _ _ (wrap64 ((ji57) + 1)) [.int .i64 (wrap64 ((ji57) + 1))] from rfl) (Reps.one (show Kd.M (Kd.int .i64) _ _ _ ji60 [.int .i64 ji60] from rfl) (Reps.none _ _)))); intro v149 w75 ho76 hb hg_ hnew_; clear hg_ hnew_; (first | rw [← Ny148.out] at ho76 | (simp only [Int.reduceToNat] at ho76; rw [← Ny148.out] at ho76)); have n0_ := Aside0.mk (Kd.R_below (by (with_reducible repeat (first | apply Kd.R_alloc | apply Kd.R_drewN | apply Kd.R_drew)); exact HO_8.out) hb); have n1_ := Aside0.mk (Kd.R_below (by (with_reducible repeat (first | apply Kd.R_alloc | apply Kd.R_drewN | apply Kd.R_drew)); exact HO_9.out) hb); have n2_ := Aside0.mk (Kd.R_elder' (by (with_reducible repeat (first | apply Kd.R_alloc | apply Kd.R_drewN | apply Kd.R_drew)); exact HO_12.out) (Kd.R_base ho76) hb); have n3_ := Aside0.mk (Kd.R_elder' (by (with_reducible repeat (first | apply Kd.R_alloc | apply Kd.R_drewN | apply Kd.R_drew)); exact HO141.out) (Kd.R_base ho76) hb); have n4_ := Aside0.mk (Kd.R_elder' (by (with_reducible repeat (first | apply Kd.R_alloc | apply Kd.R_drewN | apply Kd.R_drew)); exact HO144.out) (Kd.R_base ho76) hb); have n5_ := Aside0.mk (Kd.R_elder' (by (with_reducible repeat (first | apply Kd.R_alloc | apply Kd.R_drewN | apply Kd.R_drew)); exact HO147.out) (Kd.R_base ho76) hb); have n6_ := Aside0.mk (Kd.R_lower (Kd.R_new' (Kd.R_new' (Kd.R_new' (Kd.R_new' ho76 (Kd.R_lt (by (with_reducible repeat (first | apply Kd.R_alloc | apply Kd.R_drewN | apply Kd.R_drew)); exact HO_12.out))) (Kd.R_lt (by (with_reducible repeat (first | apply Kd.R_alloc | apply Kd.R_drewN | apply Kd.R_drew)); exact HO141.out))) (Kd.R_lt (by (with_reducible repeat (first | apply Kd.R_alloc | apply Kd.R_drewN | apply Kd.R_drew)); exact HO144.out))) (Kd.R_lt (by (with_reducible repeat (first | apply Kd.R_alloc | apply Kd.R_drewN | apply Kd.R_drew)); exact HO147.out))) (below_size (by repeat (first | (with_reducible first | exact HB.out | apply below_alloc | apply pw_below_drewN | apply below_drew1 | refine below_set ?_ GE126.out) | exact HB.out)))); have n7_ := Aside0.mk (blk_below (g := gb126) (o := .cells #[.int .i64 ji34, .int .i64 ji37, .int .i64 (wrap64 (x127002_3 + 1)), .int .i64 t138] 116 (0, 0)) (by (with_reducible repeat (first | refine blk_drewN ?_ _ | refine blk_drew ?_ | refine blk_alloc ?_ _)); exact BK126.out) hb); have n8_ := Aside0.mk (below_step (by repeat (first | (with_reducible first | exact HB.out | apply below_alloc | apply pw_below_drewN | apply below_drew1 | refine below_set ?_ GE126.out) | exact HB.out)) hb); clear HO_8; clear HO_9; clear HO_12; clear HO141; clear HO144; clear HO147; clear BK126; clear HB; have HO_8 := n0_; have HO_9 := n1_; have HO_12 := n2_; have HO141 := n3_; have HO144 := n4_; have HO147 := n5_; have HO150 := n6_; have BK126 := n7_; have HB := n8_; clear n0_ n1_ n2_ n3_ n4_ n5_ n6_ n7_ n8_; clear hb ho76; obtain ⟨Ao77, co77, eo77⟩ := Kd.R_slice HO141.out; subst eo77; obtain ⟨Ao78, co78, eo78⟩ := Kd.R_slice HO144.out; subst eo78; obtain ⟨Ao79, co79, eo79⟩ := Kd.R_slice HO147.out; subst eo79; obtain ⟨Ao80, co80, eo80⟩ := Kd.R_slice HO150.out; subst eo80) | ((with_reducible refine gate_dst (N := 135) rfl ?_); refine Kd.N_lit (Kd.slice 3 (Kd.int .i64)) _ 117 ?hg (N' := 135) ?hd (xs := ([y139, y142, y145, y148] : List (List Int))) (inner := [.slice Ao77 y139.length co77, .slice Ao78 y142.length co78, .slice Ao79 y145.length co79, .slice Ao80 y148.length co80]) (ok := (fun k_ => some k_ ≠ (.slice (some ⟨go42, 0, none⟩) x8_3.length co42 : Value).ownBlock ∧ some k_ ≠ (u9 : Value).ownBlock ∧ some k_ ≠ (.slice (some ad134) x12_3.length co64 : Value).ownBlock ∧ k_ ≠ gb126)) (okp := (fun k_ => some k_ ≠ (.slice (some ⟨go42, 0, none⟩) x8_3.length co42 : Value).ownBlock ∧ some k_ ≠ (u9 : Value).ownBlock ∧ some k_ ≠ (.slice (some ad134) x12_3.length co64 : Value).ownBlock ∧ k_ ≠ gb126)) ?hr ?hp (fun _ hk => hk) ((show ∀ k_, w75.heap.size ≤ k_ → (fun k_ => some k_ ≠ (.slice (some ⟨go42, 0, none⟩) x8_3.length co42 : Value).ownBlock ∧ some k_ ≠ (u9 : Value).ownBlock ∧ some k_ ≠ (.slice (some ad134) x12_3.length co64 : Value).ownBlock ∧ k_ ≠ gb126) k_ from fun k_ hk => ⟨Kd.fresh' (Kd.R_lt (by (with_reducible repeat (first | apply Kd.R_alloc | apply Kd.R_drewN | apply Kd.R_drew)); exact HO_8.out)) k_ hk, Kd.fresh' (Kd.R_lt (by (with_reducible repeat (first | apply Kd.R_alloc | apply Kd.R_drewN | apply Kd.R_drew)); exact HO_9.out)) k_ hk, Kd.fresh' (Kd.R_lt (by (with_reducible repeat (first | apply Kd.R_alloc | apply Kd.R_drewN | apply Kd.R_drew)); exact HO_12.out)) k_ hk, Kd.freshB (g := gb126) (o := .cells #[.int .i64 ji34, .int .i64 ji37, .int .i64 (wrap64 (x127002_3 + 1)), .int .i64 t138] 116 (0, 0)) (by (with_reducible repeat (first | refine blk_drewN ?_ _ | refine blk_drew ?_ | refine blk_alloc ?_ _)); exact BK126.out) k_ hk⟩) _ (Nat.le_refl _)) (Below.refl _ _) (Nat.le_refl _) (by simp) ?_; (case hd => rfl); (case hg => rfl); (case hr => first | (go_simp; done) | (go_simp; rfl)); (case hp => exact (Reps.one (show Kd.FK (Kd.slice 3 (Kd.int .i64)) _ _ y139 [.slice Ao77 y139.length co77] from (Kd.FK_slice_mk (Kd.R_reads' (Kd.R_mono (ok' := (fun k_ => some k_ ≠ (.slice (some ⟨go42, 0, none⟩) x8_3.length co42 : Value).ownBlock ∧ some k_ ≠ (u9 : Value).ownBlock ∧ some k_ ≠ (.slice (some ad134) x12_3.length co64 : Value).ownBlock ∧ k_ ≠ gb126)) (Kd.R_types (Kd.R_apart' (Kd.R_apart' (HO141.out) (Kd.R_typed HO_8.out) (by decide)) (Kd.R_typed HO_9.out) (by decide)) BK126.out (by decide)) (fun k_ hk => ⟨hk.1.1.2, ⟨hk.1.2, ⟨hk.1.1.1.1.1.1.2, hk.2⟩⟩⟩))).2.1 (Kd.R_F (Kd.R_mono (ok' := (fun k_ => some k_ ≠ (.slice (some ⟨go42, 0, none⟩) x8_3.length co42 : Value).ownBlock ∧ some k_ ≠ (u9 : Value).ownBlock ∧ some k_ ≠ (.slice (some ad134) x12_3.length co64 : Value).ownBlock ∧ k_ ≠ gb126)) (Kd.R_types (Kd.R_apart' (Kd.R_apart' (HO141.out) (Kd.R_typed HO_8.out) (by decide)) (Kd.R_typed HO_9.out) (by decide)) BK126.out (by decide)) (fun k_ hk => ⟨hk.1.1.2, ⟨hk.1.2, ⟨hk.1.1.1.1.1.1.2, hk.2⟩⟩⟩))))) (Reps.one (show Kd.FK (Kd.slice 3 (Kd.int .i64)) _ _ y142 [.slice Ao78 y142.length co78] from (Kd.FK_slice_mk (Kd.R_reads' (Kd.R_mono (ok' := (fun k_ => some k_ ≠ (.slice (some ⟨go42, 0, none⟩) x8_3.length co42 : Value).ownBlock ∧ some k_ ≠ (u9 : Value).ownBlock ∧ some k_ ≠ (.slice (some ad134) x12_3.length co64 : Value).ownBlock ∧ k_ ≠ gb126)) (Kd.R_types (Kd.R_apart' (Kd.R_apart' (HO144.out) (Kd.R_typed HO_8.out) (by decide)) (Kd.R_typed HO_9.out) (by decide)) BK126.out (by decide)) (fun k_ hk => ⟨hk.1.1.2, ⟨hk.1.2, ⟨hk.1.1.1.1.1.1.2, hk.2⟩⟩⟩))).2.1 (Kd.R_F (Kd.R_mono (ok' := (fun k_ => some k_ ≠ (.slice (some ⟨go42, 0, none⟩) x8_3.length co42 : Value).ownBlock ∧ some k_ ≠ (u9 : Value).ownBlock ∧ some k_ ≠ (.slice (some ad134) x12_3.length co64 : Value).ownBlock ∧ k_ ≠ gb126)) (Kd.R_types (Kd.R_apart' (Kd.R_apart' (HO144.out) (Kd.R_typed HO_8.out) (by decide)) (Kd.R_typed HO_9.out) (by decide)) BK126.out (by decide)) (fun k_ hk => ⟨hk.1.1.2, ⟨hk.1.2, ⟨hk.1.1.1.1.1.1.2, hk.2⟩⟩⟩))))) (Reps.one (show Kd.FK (Kd.slice 3 (Kd.int .i64)) _ _ y145 [.slice Ao79 y145.length co79] from (Kd.FK_slice_mk (Kd.R_reads' (Kd.R_mono (ok' := (fun k_ => some k_ ≠ (.slice (some ⟨go42, 0, none⟩) x8_3.length co42 : Value).ownBlock ∧ some k_ ≠ (u9 : Value).ownBlock ∧ some k_ ≠ (.slice (some ad134) x12_3.length co64 : Value).ownBlock ∧ k_ ≠ gb126)) (Kd.R_types (Kd.R_apart' (Kd.R_apart' (HO147.out) (Kd.R_typed HO_8.out) (by decide)) (Kd.R_typed HO_9.out) (by decide)) BK126.out (by decide)) (fun k_ hk => ⟨hk.1.1.2, ⟨hk.1.2, ⟨hk.1.1.1.1.1.1.2, hk.2⟩⟩⟩))).2.1 (Kd.R_F (Kd.R_mono (ok' := (fun k_ => some k_ ≠ (.slice (some ⟨go42, 0, none⟩) x8_3.length co42 : Value).ownBlock ∧ some k_ ≠ (u9 : Value).ownBlock ∧ some k_ ≠ (.slice (some ad134) x12_3.length co64 : Value).ownBlock ∧ k_ ≠ gb126)) (Kd.R_types (Kd.R_apart' (Kd.R_apart' (HO147.out) (Kd.R_typed HO_8.out) (by decide)) (Kd.R_typed HO_9.out) (by decide)) BK126.out (by decide)) (fun k_ hk => ⟨hk.1.1.2, ⟨hk.1.2, ⟨hk.1.1.1.1.1.1.2, hk.2⟩⟩⟩))))) (Reps.one (show Kd.FK (Kd.slice 3 (Kd.int .i64)) _ _ y148 [.slice Ao80 y148.length co80] from (Kd.FK_slice_mk (Kd.R_reads' (Kd.R_mono (ok' := (fun k_ => some k_ ≠ (.slice (some ⟨go42, 0, none⟩) x8_3.length co42 : Value).ownBlock ∧ some k_ ≠ (u9 : Value).ownBlock ∧ some k_ ≠ (.slice (some ad134) x12_3.length co64 : Value).ownBlock ∧ k_ ≠ gb126)) (Kd.R_types (Kd.R_apart' (Kd.R_apart' (HO150.out) (Kd.R_typed HO_8.out) (by decide)) (Kd.R_typed HO_9.out) (by decide)) BK126.out (by decide)) (fun k_ hk => ⟨hk.1.1.2, ⟨hk.1.2, ⟨hk.1.1.1.1.1.1.2, hk.2⟩⟩⟩))).2.1 (Kd.R_F (Kd.R_mono (ok' := (fun k_ => some k_ ≠ (.slice (some ⟨go42, 0, none⟩) x8_3.length co42 : Value).ownBlock ∧ some k_ ≠ (u9 : Value).ownBlock ∧ some k_ ≠ (.slice (some ad134) x12_3.length co64 : Value).ownBlock ∧ k_ ≠ gb126)) (Kd.R_types (Kd.R_apart' (Kd.R_apart' (HO150.out) (Kd.R_typed HO_8.out) (by decide)) (Kd.R_typed HO_9.out) (by decide)) BK126.out (by decide)) (fun k_ hk => ⟨hk.1.1.2, ⟨hk.1.2, ⟨hk.1.1.1.1.1.1.2, hk.2⟩⟩⟩))))) (Reps.none _ _)))))); intro v152 w81 ho82 hb hg_ hnew_; clear hg_ hnew_; (first | rw [← Ny151.out] at ho82 | (simp only [Int.reduceToNat] at ho82; rw [← Ny151.out] at ho82)); have n0_ := Aside0.mk (Kd.R_below (by (with_reducible repeat (first | apply Kd.R_alloc | apply Kd.R_drewN | apply Kd.R_drew)); exact HO_8.out) hb); have n1_ := Aside0.mk (Kd.R_below (by (with_reducible repeat (first | apply Kd.R_alloc | apply Kd.R_drewN | apply Kd.R_drew)); exact HO_9.out) hb); have n2_ := Aside0.mk (Kd.R_below (by (with_reducible repeat (first | apply Kd.R_alloc | apply Kd.R_drewN | apply Kd.R_drew)); exact HO_12.out) hb); have n3_ := Aside0.mk (Kd.N_lower ho82 (below_size (by repeat (first | (with_reducible first | exact HB.out | apply below_alloc | apply pw_below_drewN | apply below_drew1 | refine below_set ?_ GE126.out) | exact HB.out)))); have n4_ := Aside0.mk (blk_below (g := gb126) (o := .cells #[.int .i64 ji34, .int .i64 ji37, .int .i64 (wrap64 (x127002_3 + 1)), .int .i64 t138] 116 (0, 0)) (by (with_reducible repeat (first | refine blk_drewN ?_ _ | refine blk_drew ?_ | refine blk_alloc ?_ _)); exact BK126.out) hb); have n5_ := Aside0.mk (below_step (by repeat (first | (with_reducible first | exact HB.out | apply below_alloc | apply pw_below_drewN | apply below_drew1 | refine below_set ?_ GE126.out) | exact HB.out)) hb); clear HO_8; clear HO_9; clear HO_12; clear BK126; clear HB; clear HO141; clear HO144; clear HO147; clear HO150; have HO_8 := n0_; have HO_9 := n1_; have HO_12 := n2_; have HO153 := n3_; have BK126 := n4_; have HB := n5_; clear n0_ n1_ n2_ n3_ n4_ n5_; clear hb ho82))
                              go_loopg [12, 17] k3 (fun kq v12 v17 w' => ∃ (x8_4 : List Bool) (x12_4 : List Int) (x17_4 : Int), v17 = .int .i64 x17_4 ∧ Aside0 (spec_HotSpots.l2 kq l0 a1 (l0.length : Int) ((rd_L1 l0 0).length : Int) x8_4 x9_1 x10_1 x12_4 x13_3 y151 x17_4 ji34 ji37 (wrap64 (x127002_3 + 1)) t138 = some (r1, r2)) ∧ Aside0 (kq ≤ k3) ∧ Aside0 (Kd.R Kd.bool 4 w' w.heap.size (fun _ => True) (.slice (some ⟨go42, 0, none⟩) x8_3.length co42) x8_4) ∧ Aside0 (Kd.R k116 116 w' w.heap.size (fun k_ => k_ ≠ gb126) u9 x9_1) ∧ Aside0 (Kd.R (Kd.int .i64) 3 w' w.heap.size (fun _ => True) v12 x12_4) ∧ Aside0 (Kd.N (Kd.slice 3 (Kd.int .i64)) 117 w' w.heap.size (fun k_ => some k_ ≠ ((.slice (some ⟨go42, 0, none⟩) x8_3.length co42) : Value).ownBlock ∧ some k_ ≠ (u9 : Value).ownBlock ∧ some k_ ≠ (v12 : Value).ownBlock ∧ k_ ≠ gb126) v152 y151) ∧ Aside0 (w'.heap[gb126]? = some (.cells #[.int .i64 ji34, .int .i64 ji37, .int .i64 (wrap64 (x127002_3 + 1)), .int .i64 t138] 116 (0, 0))) ∧ Aside0 (Below w.heap.size w w'))
                              case atStart => exact ⟨(x8_3), (x12_3), (0), (by first | rfl | (simp; done) | (simp [*]; done)), H', ⟨Nat.le_refl _⟩, ⟨by (try simp only [hl8_3]); (with_reducible repeat (first | apply Kd.R_alloc | apply Kd.R_drewN | apply Kd.R_drew)); exact HO_8.out⟩, ⟨by (try simp only [hl8_3]); (with_reducible repeat (first | apply Kd.R_alloc | apply Kd.R_drewN | apply Kd.R_drew)); exact HO_9.out⟩, ⟨by (try simp only [hl8_3]); (with_reducible repeat (first | apply Kd.R_alloc | apply Kd.R_drewN | apply Kd.R_drew)); exact Kd.R_mono HO_12.out (fun _ hk => trivial)⟩, ⟨by (try simp only [hl8_3]); (with_reducible repeat (first | apply Kd.N_alloc | apply Kd.N_drewN | apply Kd.N_drew)); exact HO153.out⟩, ⟨by (try simp only [hl8_3]); (with_reducible repeat (first | refine blk_drewN ?_ _ | refine blk_drew ?_ | refine blk_alloc ?_ _)); exact BK126.out⟩, ⟨by repeat (first | (with_reducible first | exact HB.out | apply below_alloc | apply pw_below_drewN | apply below_drew1 | refine below_set ?_ GE126.out) | exact HB.out)⟩⟩
                              case round =>
                               as_aux_lemma =>
                                clear H'
                                try clear c1
                                try clear p1
                                try clear q1
                                try clear hx1
                                try clear qi1
                                try clear c2
                                try clear p2
                                try clear c3
                                try clear c4
                                try clear p4
                                try clear q4
                                try clear hx4
                                try clear hf4
                                try clear c5
                                try clear c6
                                try clear p6
                                try clear c7
                                try clear c7b0
                                try clear c7b1
                                try clear c8
                                try clear c9
                                try clear c9b0
                                try clear c9b1
                                try clear c10
                                try clear c10b0
                                try clear c10b1
                                try clear c11
                                try clear p11
                                try clear q11
                                try clear hx11
                                try clear qi11
                                try clear c12
                                try clear p12
                                try clear q12
                                try clear hx12
                                try clear c13
                                try clear p13
                                try clear q13
                                try clear hx13
                                try clear c15
                                try clear c15b0
                                try clear c17
                                try clear c17b0
                                try clear c18
                                try clear c18b0
                                try clear q19
                                try clear c20
                                try clear c23
                                try clear c23b0
                                try clear c23b1
                                try clear c23b2
                                try clear c25
                                try clear c25b0
                                try clear c26
                                try clear c26b0
                                try clear c28
                                try clear c28b0
                                try clear c29
                                try clear c29b0
                                try clear c32
                                try clear c33
                                try clear c33b0
                                try clear c33b1
                                try clear c33b2
                                try clear c35
                                try clear c35b0
                                try clear c36
                                try clear c36b0
                                try clear c38
                                try clear c38b0
                                try clear c39
                                try clear c39b0
                                try clear c40
                                try clear c40b0
                                try clear c41
                                try clear c41b0
                                try clear p42
                                try clear q42
                                try clear hx42
                                try clear hf42
                                try clear c54
                                try clear c54b0
                                try clear c55
                                try clear c55b0
                                try clear c56
                                try clear c56b0
                                try clear c56b1
                                try clear c56b2
                                try clear c58
                                try clear c58b0
                                try clear c59
                                try clear c59b0
                                try clear c61
                                try clear c61b0
                                try clear c62
                                try clear c62b0
                                try clear p64
                                try clear hcz65_0
                                try clear hcz65_1
                                try clear hcz65_2
                                try clear hcz65_3
                                try clear hfz65_0
                                try clear hfz65_1
                                try clear hfz65_2
                                try clear hfz65_3
                                try clear hx114_0
                                try clear hx121_0
                                try clear hx122_0
                                try clear hx123_0
                                try clear hx124_0
                                try clear hx125_0
                                try clear hx134_0
                                try clear hx135_0
                                try clear hx136_0
                                try clear hx137_0
                                try clear hx42_0
                                try clear p1
                                try clear p11
                                try clear p114
                                try clear p12
                                try clear p121
                                try clear p122
                                try clear p123
                                try clear p124
                                try clear p125
                                try clear p134
                                try clear p135
                                try clear p136
                                try clear p137
                                try clear p2
                                try clear p4
                                try clear p42
                                try clear p6
                                try clear q1
                                try clear q11
                                try clear q114
                                try clear q12
                                try clear q121
                                try clear q122
                                try clear q123
                                try clear q124
                                try clear q125
                                try clear q134
                                try clear q135
                                try clear q136
                                try clear q137
                                try clear q19
                                try clear q4
                                try clear q42
                                obtain ⟨x8_4, x12_4, x17_4, rfl, HA, HK4, HO_8, HO_9, HO_12, HO_16, BK126, HB⟩ := hrel
                                have hl8_4 := (Kd.R_reads' HO_8.out).1
                                rw [hl8_4] at HO_8
                                (try simp only [hl8_4])
                                (try simp only [hl8_4] at BK126)
                                (try simp only [hl8_4] at HO_9)
                                (try simp only [hl8_4] at HO_12)
                                (try simp only [hl8_4] at HO_16)
                                cases gk with
                                | zero => exact absurd HA.out (by simp [spec_HotSpots.l2])
                                | succ k4 =>
                                 have H := HA.out
                                 clear HA
                                 simp only [spec_HotSpots.l2] at H
                                 by_cases c83 : x17_4 < 4
                                 ·
                                  rw [if_pos c83] at H
                                  have c83b0 : decide (x17_4 < 4) = true := decide_eq_true c83
                                  clear c83
                                  by_cases c84 : 0 ≤ x17_4
                                  ·
                                   rw [if_pos c84] at H
                                   have c84b0 : decide (0 ≤ x17_4) = true := decide_eq_true c84
                                   clear c84
                                   by_cases c85 : x17_4 < (y151.length : Int)
                                   ·
                                    rw [if_pos c85] at H
                                    have c85b0 : decide (x17_4 < (y151.length : Int)) = true := decide_eq_true c85
                                    have c85b0_ := c85b0
                                    (try simp only [hl8_3, hl8_4] at c85b0_)
                                    clear c85
                                    by_cases c86 : 0 < ((rd_L2 y151 x17_4).length : Int)
                                    ·
                                     rw [if_pos c86] at H
                                     have c86b0 : decide (0 < ((rd_L2 y151 x17_4).length : Int)) = true := decide_eq_true c86
                                     have c86b0_ := c86b0
                                     (try simp only [hl8_3, hl8_4] at c86b0_)
                                     have c86b1 : decide (0 < (rd_L2 y151 x17_4).length) = true := decide_eq_true (by omega)
                                     have c86b1_ := c86b1
                                     (try simp only [hl8_3, hl8_4] at c86b1_)
                                     clear c86
                                     by_cases c87 : 1 < ((rd_L2 y151 x17_4).length : Int)
                                     ·
                                      rw [if_pos c87] at H
                                      have c87b0 : decide (1 < ((rd_L2 y151 x17_4).length : Int)) = true := decide_eq_true c87
                                      have c87b0_ := c87b0
                                      (try simp only [hl8_3, hl8_4] at c87b0_)
                                      have c87b1 : decide (1 < (rd_L2 y151 x17_4).length) = true := decide_eq_true (by omega)
                                      have c87b1_ := c87b1
                                      (try simp only [hl8_3, hl8_4] at c87b1_)
                                      clear c87
                                      by_cases c88 : (rd (rd_L2 y151 x17_4) 0) < 0
                                      ·
                                       rw [if_pos c88] at H
                                       have c88b0 : decide ((rd (rd_L2 y151 x17_4) 0) < 0) = true := decide_eq_true c88
                                       clear c88
                                       have H' := Aside0.mk H
                                       clear H
                                       obtain ⟨Ao89, co89, eo89⟩ := Kd.N_slice HO_16.out
                                       subst eo89
                                       have p154 : 0 ≤ (x17_4 : Int) := of_decide_eq_true (by first | (with_reducible assumption) | assumption)
                                       have q154 : x17_4 < (y151.length : Int) := of_decide_eq_true (by first | (with_reducible assumption) | assumption)
                                       obtain ⟨ad154, A154_0, c154_0, e154, hx154_0, hl154_0, hi154_0⟩ := at_L2 (Kd.N_reads' HO_16.out).2.2 x17_4 p154 q154
                                       cases e154
                                       obtain ⟨ce154, hce154, hMe154, hcc154⟩ := Kd.N_get HO_16.out [] x17_4 p154 (by first | exact q154 | exact of_decide_eq_true (by first | (with_reducible assumption) | assumption) | (have e_ := (Kd.N_reads' HO_16.out).1; omega))
                                       obtain ⟨ua154_0, uc154_0, rfl, ul154_0, ge154_0⟩ := Kd.FK_slice_open hMe154
                                       have hv154_0 := hcc154 0 _ rfl
                                       rw [Nat.add_zero, show ((Kd.slice 3 (Kd.int .i64))).sz = 1 from rfl, Nat.mul_one] at hv154_0
                                       replace hv154_0 := Option.some.inj (hv154_0.symm.trans hx154_0)
                                       injection hv154_0 with hva_ hvn_ hvc_
                                       rw [hva_] at ge154_0
                                       rw [hvc_] at ul154_0
                                       have HL154_0 := Aside0.mk (show Kd.V (Kd.int .i64) 3 _ w.heap.size _ _ (rd_L2 y151 x17_4) from Kd.V_mk ul154_0 ge154_0)
                                       clear hva_ hvn_ hvc_ ge154_0 ul154_0
                                       clear hcc154 hce154
                                       have HR154_0 := Aside0.mk hi154_0
                                       have HC154_0 := Aside0.mk hl154_0
                                       clear hi154_0 hl154_0
                                       replace p154 := eq_true p154
                                       replace q154 := eq_true q154
                                       have p155 : 0 ≤ (0 : Int) := (by omega)
                                       have q155 : 0 < ((rd_L2 y151 x17_4).length : Int) := of_decide_eq_true (by first | (with_reducible assumption) | assumption)
                                       obtain ⟨ad155, e155, hx155_0⟩ := Kd.at_int (by repeat (first | (with_reducible exact HR154_0.out) | (with_reducible refine Kd.C_alloc ?_ _) | (with_reducible refine Kd.C_drewN ?_ _) | (with_reducible refine Kd.C_drew ?_) | exact HR154_0.out)) 0 p155 q155
                                       cases e155
                                       have qi155 : (0 < (rd_L2 y151 x17_4).length) = True := eq_true (by omega)
                                       (try rw [show ((0 : Int)).toNat = 0 from rfl] at hx155_0)
                                       (try rw [Addr.add_zero'] at hx155_0)
                                       replace p155 := eq_true p155
                                       replace q155 := eq_true q155
                                       have p156 : 0 ≤ (x17_4 : Int) := of_decide_eq_true (by first | (with_reducible assumption) | assumption)
                                       have q156 : x17_4 < (y151.length : Int) := of_decide_eq_true (by first | (with_reducible assumption) | assumption)
                                       obtain ⟨ad156, A156_0, c156_0, e156, hx156_0, hl156_0, hi156_0⟩ := at_L2 (Kd.N_reads' HO_16.out).2.2 x17_4 p156 q156
                                       obtain rfl : ad154 = ad156 := (by injection e156)
                                       obtain ⟨ce156, hce156, hMe156, hcc156⟩ := Kd.N_get HO_16.out [] x17_4 p156 (by first | exact q156 | exact of_decide_eq_true (by first | (with_reducible assumption) | assumption) | (have e_ := (Kd.N_reads' HO_16.out).1; omega))
                                       obtain ⟨ua156_0, uc156_0, rfl, ul156_0, ge156_0⟩ := Kd.FK_slice_open hMe156
                                       have hv156_0 := hcc156 0 _ rfl
                                       rw [Nat.add_zero, show ((Kd.slice 3 (Kd.int .i64))).sz = 1 from rfl, Nat.mul_one] at hv156_0
                                       replace hv156_0 := Option.some.inj (hv156_0.symm.trans hx156_0)
                                       injection hv156_0 with hva_ hvn_ hvc_
                                       rw [hva_] at ge156_0
                                       rw [hvc_] at ul156_0
                                       have HL156_0 := Aside0.mk (show Kd.V (Kd.int .i64) 3 _ w.heap.size _ _ (rd_L2 y151 x17_4) from Kd.V_mk ul156_0 ge156_0)
                                       clear hva_ hvn_ hvc_ ge156_0 ul156_0
                                       clear hcc156 hce156
                                       have HR156_0 := Aside0.mk hi156_0
                                       have HC156_0 := Aside0.mk hl156_0
                                       clear hi156_0 hl156_0
                                       replace p156 := eq_true p156
                                       replace q156 := eq_true q156
                                       have ea_ := Option.some.inj (hx154_0.symm.trans hx156_0)
                                       injection ea_ with ea_ en_ ec_
                                       (try subst ea_)
                                       (try subst ec_)
                                       clear en_
                                       have p157 : 0 ≤ (1 : Int) := (by omega)
                                       have q157 : 1 < ((rd_L2 y151 x17_4).length : Int) := of_decide_eq_true (by first | (with_reducible assumption) | assumption)
                                       obtain ⟨ad157, e157, hx157_0⟩ := Kd.at_int (by repeat (first | (with_reducible exact HR156_0.out) | (with_reducible refine Kd.C_alloc ?_ _) | (with_reducible refine Kd.C_drewN ?_ _) | (with_reducible refine Kd.C_drew ?_) | exact HR156_0.out)) 1 p157 q157
                                       cases e157
                                       (try simp only [show (1 : Int).toNat = 1 from rfl, Nat.reduceMul, Nat.reduceEqDiff, Go.Addr.add, ↓reduceIte] at hx157_0)
                                       have qi157 : (1 < (rd_L2 y151 x17_4).length) = True := eq_true (by omega)
                                       (try rw [show ((1 : Int)).toNat = 1 from rfl] at hx157_0)
                                       replace p157 := eq_true p157
                                       replace q157 := eq_true q157
                                       go_wp2
                                       (try simp only [← hl8_4])
                                       go_roundg k4
                                       case measure => have := HK1.out; have := HJ15.out; have := HK3.out; have := HK4.out; omega
                                       case rel => exact ⟨(x8_4), (x12_4), (wrap64 (x17_4 + 1)), (by first | rfl | (simp; done) | (simp [*]; done)), H', ⟨by have := HK1.out; have := HJ15.out; have := HK3.out; have := HK4.out; omega⟩, ⟨by (try simp only [hl8_3]); (try simp only [hl8_4]); (with_reducible repeat (first | apply Kd.R_alloc | apply Kd.R_drewN | apply Kd.R_drew)); exact HO_8.out⟩, ⟨by (try simp only [hl8_3]); (try simp only [hl8_4]); (with_reducible repeat (first | apply Kd.R_alloc | apply Kd.R_drewN | apply Kd.R_drew)); exact HO_9.out⟩, ⟨by (try simp only [hl8_3]); (try simp only [hl8_4]); (with_reducible repeat (first | apply Kd.R_alloc | apply Kd.R_drewN | apply Kd.R_drew)); exact HO_12.out⟩, ⟨by (try simp only [hl8_3]); (try simp only [hl8_4]); (with_reducible repeat (first | apply Kd.N_alloc | apply Kd.N_drewN | apply Kd.N_drew)); exact HO_16.out⟩, ⟨by (try simp only [hl8_3]); (try simp only [hl8_4]); (with_reducible repeat (first | refine blk_drewN ?_ _ | refine blk_drew ?_ | refine blk_alloc ?_ _)); exact BK126.out⟩, ⟨by repeat (first | (with_reducible first | exact HB.out | apply below_alloc | apply pw_below_drewN | apply below_drew1 | refine below_set ?_ GE126.out) | exact HB.out)⟩⟩
                                      ·
                                       rw [if_neg c88] at H
                                       have c88b0 : decide ((rd (rd_L2 y151 x17_4) 0) < 0) = false := decide_eq_false c88
                                       clear c88
                                       by_cases c90 : (rd (rd_L2 y151 x17_4) 0) ≥ (l0.length : Int)
                                       ·
                                        rw [if_pos c90] at H
                                        have c90b0 : decide ((l0.length : Int) ≤ (rd (rd_L2 y151 x17_4) 0)) = true := decide_eq_true c90
                                        have c90b0_ := c90b0
                                        (try simp only [hl8_3, hl8_4] at c90b0_)
                                        clear c90
                                        have H' := Aside0.mk H
                                        clear H
                                        obtain ⟨Ao91, co91, eo91⟩ := Kd.N_slice HO_16.out
                                        subst eo91
                                        have p154 : 0 ≤ (x17_4 : Int) := of_decide_eq_true (by first | (with_reducible assumption) | assumption)
                                        have q154 : x17_4 < (y151.length : Int) := of_decide_eq_true (by first | (with_reducible assumption) | assumption)
                                        obtain ⟨ad154, A154_0, c154_0, e154, hx154_0, hl154_0, hi154_0⟩ := at_L2 (Kd.N_reads' HO_16.out).2.2 x17_4 p154 q154
                                        cases e154
                                        obtain ⟨ce154, hce154, hMe154, hcc154⟩ := Kd.N_get HO_16.out [] x17_4 p154 (by first | exact q154 | exact of_decide_eq_true (by first | (with_reducible assumption) | assumption) | (have e_ := (Kd.N_reads' HO_16.out).1; omega))
                                        obtain ⟨ua154_0, uc154_0, rfl, ul154_0, ge154_0⟩ := Kd.FK_slice_open hMe154
                                        have hv154_0 := hcc154 0 _ rfl
                                        rw [Nat.add_zero, show ((Kd.slice 3 (Kd.int .i64))).sz = 1 from rfl, Nat.mul_one] at hv154_0
                                        replace hv154_0 := Option.some.inj (hv154_0.symm.trans hx154_0)
                                        injection hv154_0 with hva_ hvn_ hvc_
                                        rw [hva_] at ge154_0
                                        rw [hvc_] at ul154_0
                                        have HL154_0 := Aside0.mk (show Kd.V (Kd.int .i64) 3 _ w.heap.size _ _ (rd_L2 y151 x17_4) from Kd.V_mk ul154_0 ge154_0)
                                        clear hva_ hvn_ hvc_ ge154_0 ul154_0
                                        clear hcc154 hce154
                                        have HR154_0 := Aside0.mk hi154_0
                                        have HC154_0 := Aside0.mk hl154_0
                                        clear hi154_0 hl154_0
                                        replace p154 := eq_true p154
                                        replace q154 := eq_true q154
                                        have p155 : 0 ≤ (0 : Int) := (by omega)
                                        have q155 : 0 < ((rd_L2 y151 x17_4).length : Int) := of_decide_eq_true (by first | (with_reducible assumption) | assumption)
                                        obtain ⟨ad155, e155, hx155_0⟩ := Kd.at_int (by repeat (first | (with_reducible exact HR154_0.out) | (with_reducible refine Kd.C_alloc ?_ _) | (with_reducible refine Kd.C_drewN ?_ _) | (with_reducible refine Kd.C_drew ?_) | exact HR154_0.out)) 0 p155 q155
                                        cases e155
                                        have qi155 : (0 < (rd_L2 y151 x17_4).length) = True := eq_true (by omega)
                                        (try rw [show ((0 : Int)).toNat = 0 from rfl] at hx155_0)
                                        (try rw [Addr.add_zero'] at hx155_0)
                                        replace p155 := eq_true p155
                                        replace q155 := eq_true q155
                                        have p156 : 0 ≤ (x17_4 : Int) := of_decide_eq_true (by first | (with_reducible assumption) | assumption)
                                        have q156 : x17_4 < (y151.length : Int) := of_decide_eq_true (by first | (with_reducible assumption) | assumption)
                                        obtain ⟨ad156, A156_0, c156_0, e156, hx156_0, hl156_0, hi156_0⟩ := at_L2 (Kd.N_reads' HO_16.out).2.2 x17_4 p156 q156
                                        obtain rfl : ad154 = ad156 := (by injection e156)
                                        obtain ⟨ce156, hce156, hMe156, hcc156⟩ := Kd.N_get HO_16.out [] x17_4 p156 (by first | exact q156 | exact of_decide_eq_true (by first | (with_reducible assumption) | assumption) | (have e_ := (Kd.N_reads' HO_16.out).1; omega))
                                        obtain ⟨ua156_0, uc156_0, rfl, ul156_0, ge156_0⟩ := Kd.FK_slice_open hMe156
                                        have hv156_0 := hcc156 0 _ rfl
                                        rw [Nat.add_zero, show ((Kd.slice 3 (Kd.int .i64))).sz = 1 from rfl, Nat.mul_one] at hv156_0
                                        replace hv156_0 := Option.some.inj (hv156_0.symm.trans hx156_0)
                                        injection hv156_0 with hva_ hvn_ hvc_
                                        rw [hva_] at ge156_0
                                        rw [hvc_] at ul156_0
                                        have HL156_0 := Aside0.mk (show Kd.V (Kd.int .i64) 3 _ w.heap.size _ _ (rd_L2 y151 x17_4) from Kd.V_mk ul156_0 ge156_0)
                                        clear hva_ hvn_ hvc_ ge156_0 ul156_0
                                        clear hcc156 hce156
                                        have HR156_0 := Aside0.mk hi156_0
                                        have HC156_0 := Aside0.mk hl156_0
                                        clear hi156_0 hl156_0
                                        replace p156 := eq_true p156
                                        replace q156 := eq_true q156
                                        have ea_ := Option.some.inj (hx154_0.symm.trans hx156_0)
                                        injection ea_ with ea_ en_ ec_
                                        (try subst ea_)
                                        (try subst ec_)
                                        clear en_
                                        have p157 : 0 ≤ (1 : Int) := (by omega)
                                        have q157 : 1 < ((rd_L2 y151 x17_4).length : Int) := of_decide_eq_true (by first | (with_reducible assumption) | assumption)
                                        obtain ⟨ad157, e157, hx157_0⟩ := Kd.at_int (by repeat (first | (with_reducible exact HR156_0.out) | (with_reducible refine Kd.C_alloc ?_ _) | (with_reducible refine Kd.C_drewN ?_ _) | (with_reducible refine Kd.C_drew ?_) | exact HR156_0.out)) 1 p157 q157
                                        cases e157
                                        (try simp only [show (1 : Int).toNat = 1 from rfl, Nat.reduceMul, Nat.reduceEqDiff, Go.Addr.add, ↓reduceIte] at hx157_0)
                                        have qi157 : (1 < (rd_L2 y151 x17_4).length) = True := eq_true (by omega)
                                        (try rw [show ((1 : Int)).toNat = 1 from rfl] at hx157_0)
                                        replace p157 := eq_true p157
                                        replace q157 := eq_true q157
                                        go_wp2
                                        (try simp only [← hl8_4])
                                        go_roundg k4
                                        case measure => have := HK1.out; have := HJ15.out; have := HK3.out; have := HK4.out; omega
                                        case rel => exact ⟨(x8_4), (x12_4), (wrap64 (x17_4 + 1)), (by first | rfl | (simp; done) | (simp [*]; done)), H', ⟨by have := HK1.out; have := HJ15.out; have := HK3.out; have := HK4.out; omega⟩, ⟨by (try simp only [hl8_3]); (try simp only [hl8_4]); (with_reducible repeat (first | apply Kd.R_alloc | apply Kd.R_drewN | apply Kd.R_drew)); exact HO_8.out⟩, ⟨by (try simp only [hl8_3]); (try simp only [hl8_4]); (with_reducible repeat (first | apply Kd.R_alloc | apply Kd.R_drewN | apply Kd.R_drew)); exact HO_9.out⟩, ⟨by (try simp only [hl8_3]); (try simp only [hl8_4]); (with_reducible repeat (first | apply Kd.R_alloc | apply Kd.R_drewN | apply Kd.R_drew)); exact HO_12.out⟩, ⟨by (try simp only [hl8_3]); (try simp only [hl8_4]); (with_reducible repeat (first | apply Kd.N_alloc | apply Kd.N_drewN | apply Kd.N_drew)); exact HO_16.out⟩, ⟨by (try simp only [hl8_3]); (try simp only [hl8_4]); (with_reducible repeat (first | refine blk_drewN ?_ _ | refine blk_drew ?_ | refine blk_alloc ?_ _)); exact BK126.out⟩, ⟨by repeat (first | (with_reducible first | exact HB.out | apply below_alloc | apply pw_below_drewN | apply below_drew1 | refine below_set ?_ GE126.out) | exact HB.out)⟩⟩
                                       ·
                                        rw [if_neg c90] at H
                                        have c90b0 : decide ((l0.length : Int) ≤ (rd (rd_L2 y151 x17_4) 0)) = false := decide_eq_false c90
                                        have c90b0_ := c90b0
                                        (try simp only [hl8_3, hl8_4] at c90b0_)
                                        clear c90
                                        by_cases c92 : (rd (rd_L2 y151 x17_4) 1) < 0
                                        ·
                                         rw [if_pos c92] at H
                                         have c92b0 : decide ((rd (rd_L2 y151 x17_4) 1) < 0) = true := decide_eq_true c92
                                         clear c92
                                         have H' := Aside0.mk H
                                         clear H
                                         obtain ⟨Ao93, co93, eo93⟩ := Kd.N_slice HO_16.out
                                         subst eo93
                                         have p154 : 0 ≤ (x17_4 : Int) := of_decide_eq_true (by first | (with_reducible assumption) | assumption)
                                         have q154 : x17_4 < (y151.length : Int) := of_decide_eq_true (by first | (with_reducible assumption) | assumption)
                                         obtain ⟨ad154, A154_0, c154_0, e154, hx154_0, hl154_0, hi154_0⟩ := at_L2 (Kd.N_reads' HO_16.out).2.2 x17_4 p154 q154
                                         cases e154
                                         obtain ⟨ce154, hce154, hMe154, hcc154⟩ := Kd.N_get HO_16.out [] x17_4 p154 (by first | exact q154 | exact of_decide_eq_true (by first | (with_reducible assumption) | assumption) | (have e_ := (Kd.N_reads' HO_16.out).1; omega))
                                         obtain ⟨ua154_0, uc154_0, rfl, ul154_0, ge154_0⟩ := Kd.FK_slice_open hMe154
                                         have hv154_0 := hcc154 0 _ rfl
                                         rw [Nat.add_zero, show ((Kd.slice 3 (Kd.int .i64))).sz = 1 from rfl, Nat.mul_one] at hv154_0
                                         replace hv154_0 := Option.some.inj (hv154_0.symm.trans hx154_0)
                                         injection hv154_0 with hva_ hvn_ hvc_
                                         rw [hva_] at ge154_0
                                         rw [hvc_] at ul154_0
                                         have HL154_0 := Aside0.mk (show Kd.V (Kd.int .i64) 3 _ w.heap.size _ _ (rd_L2 y151 x17_4) from Kd.V_mk ul154_0 ge154_0)
                                         clear hva_ hvn_ hvc_ ge154_0 ul154_0
                                         clear hcc154 hce154
                                         have HR154_0 := Aside0.mk hi154_0
                                         have HC154_0 := Aside0.mk hl154_0
                                         clear hi154_0 hl154_0
                                         replace p154 := eq_true p154
                                         replace q154 := eq_true q154
                                         have p155 : 0 ≤ (0 : Int) := (by omega)
                                         have q155 : 0 < ((rd_L2 y151 x17_4).length : Int) := of_decide_eq_true (by first | (with_reducible assumption) | assumption)
                                         obtain ⟨ad155, e155, hx155_0⟩ := Kd.at_int (by repeat (first | (with_reducible exact HR154_0.out) | (with_reducible refine Kd.C_alloc ?_ _) | (with_reducible refine Kd.C_drewN ?_ _) | (with_reducible refine Kd.C_drew ?_) | exact HR154_0.out)) 0 p155 q155
                                         cases e155
                                         have qi155 : (0 < (rd_L2 y151 x17_4).length) = True := eq_true (by omega)
                                         (try rw [show ((0 : Int)).toNat = 0 from rfl] at hx155_0)
                                         (try rw [Addr.add_zero'] at hx155_0)
                                         replace p155 := eq_true p155
                                         replace q155 := eq_true q155
                                         have p156 : 0 ≤ (x17_4 : Int) := of_decide_eq_true (by first | (with_reducible assumption) | assumption)
                                         have q156 : x17_4 < (y151.length : Int) := of_decide_eq_true (by first | (with_reducible assumption) | assumption)
                                         obtain ⟨ad156, A156_0, c156_0, e156, hx156_0, hl156_0, hi156_0⟩ := at_L2 (Kd.N_reads' HO_16.out).2.2 x17_4 p156 q156
                                         obtain rfl : ad154 = ad156 := (by injection e156)
                                         obtain ⟨ce156, hce156, hMe156, hcc156⟩ := Kd.N_get HO_16.out [] x17_4 p156 (by first | exact q156 | exact of_decide_eq_true (by first | (with_reducible assumption) | assumption) | (have e_ := (Kd.N_reads' HO_16.out).1; omega))
                                         obtain ⟨ua156_0, uc156_0, rfl, ul156_0, ge156_0⟩ := Kd.FK_slice_open hMe156
                                         have hv156_0 := hcc156 0 _ rfl
                                         rw [Nat.add_zero, show ((Kd.slice 3 (Kd.int .i64))).sz = 1 from rfl, Nat.mul_one] at hv156_0
                                         replace hv156_0 := Option.some.inj (hv156_0.symm.trans hx156_0)
                                         injection hv156_0 with hva_ hvn_ hvc_
                                         rw [hva_] at ge156_0
                                         rw [hvc_] at ul156_0
                                         have HL156_0 := Aside0.mk (show Kd.V (Kd.int .i64) 3 _ w.heap.size _ _ (rd_L2 y151 x17_4) from Kd.V_mk ul156_0 ge156_0)
                                         clear hva_ hvn_ hvc_ ge156_0 ul156_0
                                         clear hcc156 hce156
                                         have HR156_0 := Aside0.mk hi156_0
                                         have HC156_0 := Aside0.mk hl156_0
                                         clear hi156_0 hl156_0
                                         replace p156 := eq_true p156
                                         replace q156 := eq_true q156
                                         have ea_ := Option.some.inj (hx154_0.symm.trans hx156_0)
                                         injection ea_ with ea_ en_ ec_
                                         (try subst ea_)
                                         (try subst ec_)
                                         clear en_
                                         have p157 : 0 ≤ (1 : Int) := (by omega)
                                         have q157 : 1 < ((rd_L2 y151 x17_4).length : Int) := of_decide_eq_true (by first | (with_reducible assumption) | assumption)
                                         obtain ⟨ad157, e157, hx157_0⟩ := Kd.at_int (by repeat (first | (with_reducible exact HR156_0.out) | (with_reducible refine Kd.C_alloc ?_ _) | (with_reducible refine Kd.C_drewN ?_ _) | (with_reducible refine Kd.C_drew ?_) | exact HR156_0.out)) 1 p157 q157
                                         cases e157
                                         (try simp only [show (1 : Int).toNat = 1 from rfl, Nat.reduceMul, Nat.reduceEqDiff, Go.Addr.add, ↓reduceIte] at hx157_0)
                                         have qi157 : (1 < (rd_L2 y151 x17_4).length) = True := eq_true (by omega)
                                         (try rw [show ((1 : Int)).toNat = 1 from rfl] at hx157_0)
                                         replace p157 := eq_true p157
                                         replace q157 := eq_true q157
                                         go_wp2
                                         (try simp only [← hl8_4])
                                         go_roundg k4
                                         case measure => have := HK1.out; have := HJ15.out; have := HK3.out; have := HK4.out; omega
                                         case rel => exact ⟨(x8_4), (x12_4), (wrap64 (x17_4 + 1)), (by first | rfl | (simp; done) | (simp [*]; done)), H', ⟨by have := HK1.out; have := HJ15.out; have := HK3.out; have := HK4.out; omega⟩, ⟨by (try simp only [hl8_3]); (try simp only [hl8_4]); (with_reducible repeat (first | apply Kd.R_alloc | apply Kd.R_drewN | apply Kd.R_drew)); exact HO_8.out⟩, ⟨by (try simp only [hl8_3]); (try simp only [hl8_4]); (with_reducible repeat (first | apply Kd.R_alloc | apply Kd.R_drewN | apply Kd.R_drew)); exact HO_9.out⟩, ⟨by (try simp only [hl8_3]); (try simp only [hl8_4]); (with_reducible repeat (first | apply Kd.R_alloc | apply Kd.R_drewN | apply Kd.R_drew)); exact HO_12.out⟩, ⟨by (try simp only [hl8_3]); (try simp only [hl8_4]); (with_reducible repeat (first | apply Kd.N_alloc | apply Kd.N_drewN | apply Kd.N_drew)); exact HO_16.out⟩, ⟨by (try simp only [hl8_3]); (try simp only [hl8_4]); (with_reducible repeat (first | refine blk_drewN ?_ _ | refine blk_drew ?_ | refine blk_alloc ?_ _)); exact BK126.out⟩, ⟨by repeat (first | (with_reducible first | exact HB.out | apply below_alloc | apply pw_below_drewN | apply below_drew1 | refine below_set ?_ GE126.out) | exact HB.out)⟩⟩
                                        ·
                                         rw [if_neg c92] at H
                                         have c92b0 : decide ((rd (rd_L2 y151 x17_4) 1) < 0) = false := decide_eq_false c92
                                         clear c92
                                         by_cases c94 : (rd (rd_L2 y151 x17_4) 1) ≥ ((rd_L1 l0 0).length : Int)
                                         ·
                                          rw [if_pos c94] at H
                                          have c94b0 : decide (((rd_L1 l0 0).length : Int) ≤ (rd (rd_L2 y151 x17_4) 1)) = true := decide_eq_true c94
                                          have c94b0_ := c94b0
                                          (try simp only [hl8_3, hl8_4] at c94b0_)
                                          clear c94
                                          have H' := Aside0.mk H
                                          clear H
                                          obtain ⟨Ao95, co95, eo95⟩ := Kd.N_slice HO_16.out
                                          subst eo95
                                          have p154 : 0 ≤ (x17_4 : Int) := of_decide_eq_true (by first | (with_reducible assumption) | assumption)
                                          have q154 : x17_4 < (y151.length : Int) := of_decide_eq_true (by first | (with_reducible assumption) | assumption)
                                          obtain ⟨ad154, A154_0, c154_0, e154, hx154_0, hl154_0, hi154_0⟩ := at_L2 (Kd.N_reads' HO_16.out).2.2 x17_4 p154 q154
                                          cases e154
                                          obtain ⟨ce154, hce154, hMe154, hcc154⟩ := Kd.N_get HO_16.out [] x17_4 p154 (by first | exact q154 | exact of_decide_eq_true (by first | (with_reducible assumption) | assumption) | (have e_ := (Kd.N_reads' HO_16.out).1; omega))
                                          obtain ⟨ua154_0, uc154_0, rfl, ul154_0, ge154_0⟩ := Kd.FK_slice_open hMe154
                                          have hv154_0 := hcc154 0 _ rfl
                                          rw [Nat.add_zero, show ((Kd.slice 3 (Kd.int .i64))).sz = 1 from rfl, Nat.mul_one] at hv154_0
                                          replace hv154_0 := Option.some.inj (hv154_0.symm.trans hx154_0)
                                          injection hv154_0 with hva_ hvn_ hvc_
                                          rw [hva_] at ge154_0
                                          rw [hvc_] at ul154_0
                                          have HL154_0 := Aside0.mk (show Kd.V (Kd.int .i64) 3 _ w.heap.size _ _ (rd_L2 y151 x17_4) from Kd.V_mk ul154_0 ge154_0)
                                          clear hva_ hvn_ hvc_ ge154_0 ul154_0
                                          clear hcc154 hce154
                                          have HR154_0 := Aside0.mk hi154_0
                                          have HC154_0 := Aside0.mk hl154_0
                                          clear hi154_0 hl154_0
                                          replace p154 := eq_true p154
                                          replace q154 := eq_true q154
                                          have p155 : 0 ≤ (0 : Int) := (by omega)
                                          have q155 : 0 < ((rd_L2 y151 x17_4).length : Int) := of_decide_eq_true (by first | (with_reducible assumption) | assumption)
                                          obtain ⟨ad155, e155, hx155_0⟩ := Kd.at_int (by repeat (first | (with_reducible exact HR154_0.out) | (with_reducible refine Kd.C_alloc ?_ _) | (with_reducible refine Kd.C_drewN ?_ _) | (with_reducible refine Kd.C_drew ?_) | exact HR154_0.out)) 0 p155 q155
                                          cases e155
                                          have qi155 : (0 < (rd_L2 y151 x17_4).length) = True := eq_true (by omega)
                                          (try rw [show ((0 : Int)).toNat = 0 from rfl] at hx155_0)
                                          (try rw [Addr.add_zero'] at hx155_0)
                                          replace p155 := eq_true p155
                                          replace q155 := eq_true q155
                                          have p156 : 0 ≤ (x17_4 : Int) := of_decide_eq_true (by first | (with_reducible assumption) | assumption)
                                          have q156 : x17_4 < (y151.length : Int) := of_decide_eq_true (by first | (with_reducible assumption) | assumption)
                                          obtain ⟨ad156, A156_0, c156_0, e156, hx156_0, hl156_0, hi156_0⟩ := at_L2 (Kd.N_reads' HO_16.out).2.2 x17_4 p156 q156
                                          obtain rfl : ad154 = ad156 := (by injection e156)
                                          obtain ⟨ce156, hce156, hMe156, hcc156⟩ := Kd.N_get HO_16.out [] x17_4 p156 (by first | exact q156 | exact of_decide_eq_true (by first | (with_reducible assumption) | assumption) | (have e_ := (Kd.N_reads' HO_16.out).1; omega))
                                          obtain ⟨ua156_0, uc156_0, rfl, ul156_0, ge156_0⟩ := Kd.FK_slice_open hMe156
                                          have hv156_0 := hcc156 0 _ rfl
                                          rw [Nat.add_zero, show ((Kd.slice 3 (Kd.int .i64))).sz = 1 from rfl, Nat.mul_one] at hv156_0
                                          replace hv156_0 := Option.some.inj (hv156_0.symm.trans hx156_0)
                                          injection hv156_0 with hva_ hvn_ hvc_
                                          rw [hva_] at ge156_0
                                          rw [hvc_] at ul156_0
                                          have HL156_0 := Aside0.mk (show Kd.V (Kd.int .i64) 3 _ w.heap.size _ _ (rd_L2 y151 x17_4) from Kd.V_mk ul156_0 ge156_0)
                                          clear hva_ hvn_ hvc_ ge156_0 ul156_0
                                          clear hcc156 hce156
                                          have HR156_0 := Aside0.mk hi156_0
                                          have HC156_0 := Aside0.mk hl156_0
                                          clear hi156_0 hl156_0
                                          replace p156 := eq_true p156
                                          replace q156 := eq_true q156
                                          have ea_ := Option.some.inj (hx154_0.symm.trans hx156_0)
                                          injection ea_ with ea_ en_ ec_
                                          (try subst ea_)
                                          (try subst ec_)
                                          clear en_
                                          have p157 : 0 ≤ (1 : Int) := (by omega)
                                          have q157 : 1 < ((rd_L2 y151 x17_4).length : Int) := of_decide_eq_true (by first | (with_reducible assumption) | assumption)
                                          obtain ⟨ad157, e157, hx157_0⟩ := Kd.at_int (by repeat (first | (with_reducible exact HR156_0.out) | (with_reducible refine Kd.C_alloc ?_ _) | (with_reducible refine Kd.C_drewN ?_ _) | (with_reducible refine Kd.C_drew ?_) | exact HR156_0.out)) 1 p157 q157
                                          cases e157
                                          (try simp only [show (1 : Int).toNat = 1 from rfl, Nat.reduceMul, Nat.reduceEqDiff, Go.Addr.add, ↓reduceIte] at hx157_0)
                                          have qi157 : (1 < (rd_L2 y151 x17_4).length) = True := eq_true (by omega)
                                          (try rw [show ((1 : Int)).toNat = 1 from rfl] at hx157_0)
                                          replace p157 := eq_true p157
                                          replace q157 := eq_true q157
                                          go_wp2
                                          (try simp only [← hl8_4])
                                          go_roundg k4
                                          case measure => have := HK1.out; have := HJ15.out; have := HK3.out; have := HK4.out; omega
                                          case rel => exact ⟨(x8_4), (x12_4), (wrap64 (x17_4 + 1)), (by first | rfl | (simp; done) | (simp [*]; done)), H', ⟨by have := HK1.out; have := HJ15.out; have := HK3.out; have := HK4.out; omega⟩, ⟨by (try simp only [hl8_3]); (try simp only [hl8_4]); (with_reducible repeat (first | apply Kd.R_alloc | apply Kd.R_drewN | apply Kd.R_drew)); exact HO_8.out⟩, ⟨by (try simp only [hl8_3]); (try simp only [hl8_4]); (with_reducible repeat (first | apply Kd.R_alloc | apply Kd.R_drewN | apply Kd.R_drew)); exact HO_9.out⟩, ⟨by (try simp only [hl8_3]); (try simp only [hl8_4]); (with_reducible repeat (first | apply Kd.R_alloc | apply Kd.R_drewN | apply Kd.R_drew)); exact HO_12.out⟩, ⟨by (try simp only [hl8_3]); (try simp only [hl8_4]); (with_reducible repeat (first | apply Kd.N_alloc | apply Kd.N_drewN | apply Kd.N_drew)); exact HO_16.out⟩, ⟨by (try simp only [hl8_3]); (try simp only [hl8_4]); (with_reducible repeat (first | refine blk_drewN ?_ _ | refine blk_drew ?_ | refine blk_alloc ?_ _)); exact BK126.out⟩, ⟨by repeat (first | (with_reducible first | exact HB.out | apply below_alloc | apply pw_below_drewN | apply below_drew1 | refine below_set ?_ GE126.out) | exact HB.out)⟩⟩
                                         ·
                                          rw [if_neg c94] at H
                                          have c94b0 : decide (((rd_L1 l0 0).length : Int) ≤ (rd (rd_L2 y151 x17_4) 1)) = false := decide_eq_false c94
                                          have c94b0_ := c94b0
                                          (try simp only [hl8_3, hl8_4] at c94b0_)
                                          clear c94
                                          obtain ⟨ji96, hji96⟩ : ∃ j_ : Int, (wrap64 ((wrap64 ((rd (rd_L2 y151 x17_4) 0) * ((rd_L1 l0 0).length : Int))) + (rd (rd_L2 y151 x17_4) 1))) = j_ := ⟨_, rfl⟩
                                          replace H : (if 0 ≤ (ji96) then (if (ji96) < (x8_4.length : Int) then (if rdOf false x8_4 (ji96) = true then (spec_HotSpots.l2 k4 l0 a1 (l0.length : Int) ((rd_L1 l0 0).length : Int) x8_4 x9_1 x10_1 x12_4 x13_3 y151 (wrap64 (x17_4 + 1)) ji34 ji37 (wrap64 (x127002_3 + 1)) t138) else (if 0 ≤ (rd (rd_L2 y151 x17_4) 0) then (if (rd (rd_L2 y151 x17_4) 0) < (l0.length : Int) then (if 0 ≤ (rd (rd_L2 y151 x17_4) 1) then (if (rd (rd_L2 y151 x17_4) 1) < ((rd_L1 l0 (rd (rd_L2 y151 x17_4) 0)).length : Int) then (if (rd (rd_L1 l0 (rd (rd_L2 y151 x17_4) 0)) (rd (rd_L2 y151 x17_4) 1)) ≤ a1 then (spec_HotSpots.l2 k4 l0 a1 (l0.length : Int) ((rd_L1 l0 0).length : Int) x8_4 x9_1 x10_1 x12_4 x13_3 y151 (wrap64 (x17_4 + 1)) ji34 ji37 (wrap64 (x127002_3 + 1)) t138) else (if x12_4.length < 17592186044416 then (spec_HotSpots.l2 k4 l0 a1 (l0.length : Int) ((rd_L1 l0 0).length : Int) (x8_4.set ((ji96) : Int).toNat true) x9_1 x10_1 (x12_4 ++ [ji96]) x13_3 y151 (wrap64 (x17_4 + 1)) ji34 ji37 (wrap64 (x127002_3 + 1)) t138) else (none))) else (none)) else (none)) else (none)) else (none))) else (none)) else (none)) = some (r1, r2) := by first | (rw [hji96] at H; exact H) | (simp only [hji96] at H ⊢; exact H)
                                          have hji96w : (IntKind.i64.wrap ((wrap64 ((rd (rd_L2 y151 x17_4) 0) * ((rd_L1 l0 0).length : Int))) + (rd (rd_L2 y151 x17_4) 1))) = ji96 := (i64_w _).trans hji96
                                          by_cases c97 : 0 ≤ (ji96)
                                          ·
                                           rw [if_pos c97] at H
                                           have c97b0 : decide (0 ≤ (ji96)) = true := decide_eq_true c97
                                           clear c97
                                           by_cases c98 : (ji96) < (x8_4.length : Int)
                                           ·
                                            rw [if_pos c98] at H
                                            have c98b0 : decide ((ji96) < (x8_4.length : Int)) = true := decide_eq_true c98
                                            have c98b0_ := c98b0
                                            (try simp only [hl8_3, hl8_4] at c98b0_)
                                            clear c98
                                            obtain ⟨bq99, hbq99⟩ : ∃ b_ : Bool, b_ = (rdOf false x8_4 (ji96)) := ⟨_, rfl⟩
                                            replace H : (if bq99 = true then (spec_HotSpots.l2 k4 l0 a1 (l0.length : Int) ((rd_L1 l0 0).length : Int) x8_4 x9_1 x10_1 x12_4 x13_3 y151 (wrap64 (x17_4 + 1)) ji34 ji37 (wrap64 (x127002_3 + 1)) t138) else (if 0 ≤ (rd (rd_L2 y151 x17_4) 0) then (if (rd (rd_L2 y151 x17_4) 0) < (l0.length : Int) then (if 0 ≤ (rd (rd_L2 y151 x17_4) 1) then (if (rd (rd_L2 y151 x17_4) 1) < ((rd_L1 l0 (rd (rd_L2 y151 x17_4) 0)).length : Int) then (if (rd (rd_L1 l0 (rd (rd_L2 y151 x17_4) 0)) (rd (rd_L2 y151 x17_4) 1)) ≤ a1 then (spec_HotSpots.l2 k4 l0 a1 (l0.length : Int) ((rd_L1 l0 0).length : Int) x8_4 x9_1 x10_1 x12_4 x13_3 y151 (wrap64 (x17_4 + 1)) ji34 ji37 (wrap64 (x127002_3 + 1)) t138) else (if x12_4.length < 17592186044416 then (spec_HotSpots.l2 k4 l0 a1 (l0.length : Int) ((rd_L1 l0 0).length : Int) (x8_4.set ((ji96) : Int).toNat true) x9_1 x10_1 (x12_4 ++ [ji96]) x13_3 y151 (wrap64 (x17_4 + 1)) ji34 ji37 (wrap64 (x127002_3 + 1)) t138) else (none))) else (none)) else (none)) else (none)) else (none))) = some (r1, r2) := by rw [← hbq99] at H; exact H
                                            have Nbq99 := Aside0.mk hbq99
                                            clear hbq99
                                            by_cases c100 : bq99 = true
                                            ·
                                             subst c100
                                             have H1 : (spec_HotSpots.l2 k4 l0 a1 (l0.length : Int) ((rd_L1 l0 0).length : Int) x8_4 x9_1 x10_1 x12_4 x13_3 y151 (wrap64 (x17_4 + 1)) ji34 ji37 (wrap64 (x127002_3 + 1)) t138) = some (r1, r2) := by rw [if_pos rfl] at H; exact H
                                             clear H
                                             have H := H1
                                             clear H1
                                             have H' := Aside0.mk H
                                             clear H
                                             obtain ⟨Ao101, co101, eo101⟩ := Kd.N_slice HO_16.out
                                             subst eo101
                                             have p154 : 0 ≤ (x17_4 : Int) := of_decide_eq_true (by first | (with_reducible assumption) | assumption)
                                             have q154 : x17_4 < (y151.length : Int) := of_decide_eq_true (by first | (with_reducible assumption) | assumption)
                                             obtain ⟨ad154, A154_0, c154_0, e154, hx154_0, hl154_0, hi154_0⟩ := at_L2 (Kd.N_reads' HO_16.out).2.2 x17_4 p154 q154
                                             cases e154
                                             obtain ⟨ce154, hce154, hMe154, hcc154⟩ := Kd.N_get HO_16.out [] x17_4 p154 (by first | exact q154 | exact of_decide_eq_true (by first | (with_reducible assumption) | assumption) | (have e_ := (Kd.N_reads' HO_16.out).1; omega))
                                             obtain ⟨ua154_0, uc154_0, rfl, ul154_0, ge154_0⟩ := Kd.FK_slice_open hMe154
                                             have hv154_0 := hcc154 0 _ rfl
                                             rw [Nat.add_zero, show ((Kd.slice 3 (Kd.int .i64))).sz = 1 from rfl, Nat.mul_one] at hv154_0
                                             replace hv154_0 := Option.some.inj (hv154_0.symm.trans hx154_0)
                                             injection hv154_0 with hva_ hvn_ hvc_
                                             rw [hva_] at ge154_0
                                             rw [hvc_] at ul154_0
                                             have HL154_0 := Aside0.mk (show Kd.V (Kd.int .i64) 3 _ w.heap.size _ _ (rd_L2 y151 x17_4) from Kd.V_mk ul154_0 ge154_0)
                                             clear hva_ hvn_ hvc_ ge154_0 ul154_0
                                             clear hcc154 hce154
                                             have HR154_0 := Aside0.mk hi154_0
                                             have HC154_0 := Aside0.mk hl154_0
                                             clear hi154_0 hl154_0
                                             replace p154 := eq_true p154
                                             replace q154 := eq_true q154
                                             have p155 : 0 ≤ (0 : Int) := (by omega)
                                             have q155 : 0 < ((rd_L2 y151 x17_4).length : Int) := of_decide_eq_true (by first | (with_reducible assumption) | assumption)
                                             obtain ⟨ad155, e155, hx155_0⟩ := Kd.at_int (by repeat (first | (with_reducible exact HR154_0.out) | (with_reducible refine Kd.C_alloc ?_ _) | (with_reducible refine Kd.C_drewN ?_ _) | (with_reducible refine Kd.C_drew ?_) | exact HR154_0.out)) 0 p155 q155
                                             cases e155
                                             have qi155 : (0 < (rd_L2 y151 x17_4).length) = True := eq_true (by omega)
                                             (try rw [show ((0 : Int)).toNat = 0 from rfl] at hx155_0)
                                             (try rw [Addr.add_zero'] at hx155_0)
                                             replace p155 := eq_true p155
                                             replace q155 := eq_true q155
                                             have p156 : 0 ≤ (x17_4 : Int) := of_decide_eq_true (by first | (with_reducible assumption) | assumption)
                                             have q156 : x17_4 < (y151.length : Int) := of_decide_eq_true (by first | (with_reducible assumption) | assumption)
                                             obtain ⟨ad156, A156_0, c156_0, e156, hx156_0, hl156_0, hi156_0⟩ := at_L2 (Kd.N_reads' HO_16.out).2.2 x17_4 p156 q156
                                             obtain rfl : ad154 = ad156 := (by injection e156)
                                             obtain ⟨ce156, hce156, hMe156, hcc156⟩ := Kd.N_get HO_16.out [] x17_4 p156 (by first | exact q156 | exact of_decide_eq_true (by first | (with_reducible assumption) | assumption) | (have e_ := (Kd.N_reads' HO_16.out).1; omega))
                                             obtain ⟨ua156_0, uc156_0, rfl, ul156_0, ge156_0⟩ := Kd.FK_slice_open hMe156
                                             have hv156_0 := hcc156 0 _ rfl
                                             rw [Nat.add_zero, show ((Kd.slice 3 (Kd.int .i64))).sz = 1 from rfl, Nat.mul_one] at hv156_0
                                             replace hv156_0 := Option.some.inj (hv156_0.symm.trans hx156_0)
                                             injection hv156_0 with hva_ hvn_ hvc_
                                             rw [hva_] at ge156_0
                                             rw [hvc_] at ul156_0
                                             have HL156_0 := Aside0.mk (show Kd.V (Kd.int .i64) 3 _ w.heap.size _ _ (rd_L2 y151 x17_4) from Kd.V_mk ul156_0 ge156_0)
                                             clear hva_ hvn_ hvc_ ge156_0 ul156_0
                                             clear hcc156 hce156
                                             have HR156_0 := Aside0.mk hi156_0
                                             have HC156_0 := Aside0.mk hl156_0
                                             clear hi156_0 hl156_0
                                             replace p156 := eq_true p156
                                             replace q156 := eq_true q156
                                             have ea_ := Option.some.inj (hx154_0.symm.trans hx156_0)
                                             injection ea_ with ea_ en_ ec_
                                             (try subst ea_)
                                             (try subst ec_)
                                             clear en_
                                             have p157 : 0 ≤ (1 : Int) := (by omega)
                                             have q157 : 1 < ((rd_L2 y151 x17_4).length : Int) := of_decide_eq_true (by first | (with_reducible assumption) | assumption)
                                             obtain ⟨ad157, e157, hx157_0⟩ := Kd.at_int (by repeat (first | (with_reducible exact HR156_0.out) | (with_reducible refine Kd.C_alloc ?_ _) | (with_reducible refine Kd.C_drewN ?_ _) | (with_reducible refine Kd.C_drew ?_) | exact HR156_0.out)) 1 p157 q157
                                             cases e157
                                             (try simp only [show (1 : Int).toNat = 1 from rfl, Nat.reduceMul, Nat.reduceEqDiff, Go.Addr.add, ↓reduceIte] at hx157_0)
                                             have qi157 : (1 < (rd_L2 y151 x17_4).length) = True := eq_true (by omega)
                                             (try rw [show ((1 : Int)).toNat = 1 from rfl] at hx157_0)
                                             replace p157 := eq_true p157
                                             replace q157 := eq_true q157
                                             have p158 : 0 ≤ ((ji96) : Int) := of_decide_eq_true (by first | (with_reducible assumption) | assumption)
                                             have q158 : (ji96) < (x8_4.length : Int) := of_decide_eq_true (by first | (with_reducible assumption) | assumption)
                                             obtain ⟨ad158, e158, hx158_0⟩ := Kd.at_bool (Kd.R_reads' HO_8.out).2.2 (ji96) p158 q158
                                             (try rw [← Nbq99.out] at hx158_0)
                                             obtain rfl : (⟨go42, 0, none⟩ : Addr) = ad158 := (by injection e158)
                                             (first | simp only [add_plain] at hx158_0 | simp only [add_at] at hx158_0 | simp only [Addr.add, Nat.zero_add] at hx158_0 | skip)
                                             replace p158 := eq_true p158
                                             replace q158 := eq_true q158
                                             go_wp2
                                             (try simp only [← hl8_4])
                                             go_roundg k4
                                             case measure => have := HK1.out; have := HJ15.out; have := HK3.out; have := HK4.out; omega
                                             case rel => exact ⟨(x8_4), (x12_4), (wrap64 (x17_4 + 1)), (by first | rfl | (simp; done) | (simp [*]; done)), H', ⟨by have := HK1.out; have := HJ15.out; have := HK3.out; have := HK4.out; omega⟩, ⟨by (try simp only [hl8_3]); (try simp only [hl8_4]); (with_reducible repeat (first | apply Kd.R_alloc | apply Kd.R_drewN | apply Kd.R_drew)); exact HO_8.out⟩, ⟨by (try simp only [hl8_3]); (try simp only [hl8_4]); (with_reducible repeat (first | apply Kd.R_alloc | apply Kd.R_drewN | apply Kd.R_drew)); exact HO_9.out⟩, ⟨by (try simp only [hl8_3]); (try simp only [hl8_4]); (with_reducible repeat (first | apply Kd.R_alloc | apply Kd.R_drewN | apply Kd.R_drew)); exact HO_12.out⟩, ⟨by (try simp only [hl8_3]); (try simp only [hl8_4]); (with_reducible repeat (first | apply Kd.N_alloc | apply Kd.N_drewN | apply Kd.N_drew)); exact HO_16.out⟩, ⟨by (try simp only [hl8_3]); (try simp only [hl8_4]); (with_reducible repeat (first | refine blk_drewN ?_ _ | refine blk_drew ?_ | refine blk_alloc ?_ _)); exact BK126.out⟩, ⟨by repeat (first | (with_reducible first | exact HB.out | apply below_alloc | apply pw_below_drewN | apply below_drew1 | refine below_set ?_ GE126.out) | exact HB.out)⟩⟩
                                            ·
                                             replace c100 := Bool.eq_false_iff.mpr c100
                                             subst c100
                                             have H1 : (if 0 ≤ (rd (rd_L2 y151 x17_4) 0) then (if (rd (rd_L2 y151 x17_4) 0) < (l0.length : Int) then (if 0 ≤ (rd (rd_L2 y151 x17_4) 1) then (if (rd (rd_L2 y151 x17_4) 1) < ((rd_L1 l0 (rd (rd_L2 y151 x17_4) 0)).length : Int) then (if (rd (rd_L1 l0 (rd (rd_L2 y151 x17_4) 0)) (rd (rd_L2 y151 x17_4) 1)) ≤ a1 then (spec_HotSpots.l2 k4 l0 a1 (l0.length : Int) ((rd_L1 l0 0).length : Int) x8_4 x9_1 x10_1 x12_4 x13_3 y151 (wrap64 (x17_4 + 1)) ji34 ji37 (wrap64 (x127002_3 + 1)) t138) else (if x12_4.length < 17592186044416 then (spec_HotSpots.l2 k4 l0 a1 (l0.length : Int) ((rd_L1 l0 0).length : Int) (x8_4.set ((ji96) : Int).toNat true) x9_1 x10_1 (x12_4 ++ [ji96]) x13_3 y151 (wrap64 (x17_4 + 1)) ji34 ji37 (wrap64 (x127002_3 + 1)) t138) else (none))) else (none)) else (none)) else (none)) else (none)) = some (r1, r2) := by rw [if_neg (show ¬ (false = true) by decide)] at H; exact H
                                             clear H
                                             have H := H1
                                             clear H1
                                             by_cases c102 : 0 ≤ (rd (rd_L2 y151 x17_4) 0)
                                             ·
                                              rw [if_pos c102] at H
                                              have c102b0 : decide (0 ≤ (rd (rd_L2 y151 x17_4) 0)) = true := decide_eq_true c102
                                              clear c102
                                              by_cases c103 : (rd (rd_L2 y151 x17_4) 0) < (l0.length : Int)
                                              ·
                                               rw [if_pos c103] at H
                                               have c103b0 : decide ((rd (rd_L2 y151 x17_4) 0) < (l0.length : Int)) = true := decide_eq_true c103
                                               have c103b0_ := c103b0
                                               (try simp only [hl8_3, hl8_4] at c103b0_)
                                               clear c103
                                               by_cases c104 : 0 ≤ (rd (rd_L2 y151 x17_4) 1)
                                               ·
                                                rw [if_pos c104] at H
                                                have c104b0 : decide (0 ≤ (rd (rd_L2 y151 x17_4) 1)) = true := decide_eq_true c104
                                                clear c104
                                                by_cases c105 : (rd (rd_L2 y151 x17_4) 1) < ((rd_L1 l0 (rd (rd_L2 y151 x17_4) 0)).length : Int)
                                                ·
                                                 rw [if_pos c105] at H
                                                 have c105b0 : decide ((rd (rd_L2 y151 x17_4) 1) < ((rd_L1 l0 (rd (rd_L2 y151 x17_4) 0)).length : Int)) = true := decide_eq_true c105
                                                 have c105b0_ := c105b0
                                                 (try simp only [hl8_3, hl8_4] at c105b0_)
                                                 clear c105
                                                 by_cases c106 : (rd (rd_L1 l0 (rd (rd_L2 y151 x17_4) 0)) (rd (rd_L2 y151 x17_4) 1)) ≤ a1
                                                 ·
                                                  rw [if_pos c106] at H
                                                  have c106b0 : decide ((rd (rd_L1 l0 (rd (rd_L2 y151 x17_4) 0)) (rd (rd_L2 y151 x17_4) 1)) ≤ a1) = true := decide_eq_true c106
                                                  clear c106
                                                  have H' := Aside0.mk H
                                                  clear H
                                                  obtain ⟨Ao107, co107, eo107⟩ := Kd.N_slice HO_16.out
                                                  subst eo107
                                                  have p154 : 0 ≤ (x17_4 : Int) := of_decide_eq_true (by first | (with_reducible assumption) | assumption)
                                                  have q154 : x17_4 < (y151.length : Int) := of_decide_eq_true (by first | (with_reducible assumption) | assumption)
                                                  obtain ⟨ad154, A154_0, c154_0, e154, hx154_0, hl154_0, hi154_0⟩ := at_L2 (Kd.N_reads' HO_16.out).2.2 x17_4 p154 q154
                                                  cases e154
                                                  obtain ⟨ce154, hce154, hMe154, hcc154⟩ := Kd.N_get HO_16.out [] x17_4 p154 (by first | exact q154 | exact of_decide_eq_true (by first | (with_reducible assumption) | assumption) | (have e_ := (Kd.N_reads' HO_16.out).1; omega))
                                                  obtain ⟨ua154_0, uc154_0, rfl, ul154_0, ge154_0⟩ := Kd.FK_slice_open hMe154
                                                  have hv154_0 := hcc154 0 _ rfl
                                                  rw [Nat.add_zero, show ((Kd.slice 3 (Kd.int .i64))).sz = 1 from rfl, Nat.mul_one] at hv154_0
                                                  replace hv154_0 := Option.some.inj (hv154_0.symm.trans hx154_0)
                                                  injection hv154_0 with hva_ hvn_ hvc_
                                                  rw [hva_] at ge154_0
                                                  rw [hvc_] at ul154_0
                                                  have HL154_0 := Aside0.mk (show Kd.V (Kd.int .i64) 3 _ w.heap.size _ _ (rd_L2 y151 x17_4) from Kd.V_mk ul154_0 ge154_0)
                                                  clear hva_ hvn_ hvc_ ge154_0 ul154_0
                                                  clear hcc154 hce154
                                                  have HR154_0 := Aside0.mk hi154_0
                                                  have HC154_0 := Aside0.mk hl154_0
                                                  clear hi154_0 hl154_0
                                                  replace p154 := eq_true p154
                                                  replace q154 := eq_true q154
                                                  have p155 : 0 ≤ (0 : Int) := (by omega)
                                                  have q155 : 0 < ((rd_L2 y151 x17_4).length : Int) := of_decide_eq_true (by first | (with_reducible assumption) | assumption)
                                                  obtain ⟨ad155, e155, hx155_0⟩ := Kd.at_int (by repeat (first | (with_reducible exact HR154_0.out) | (with_reducible refine Kd.C_alloc ?_ _) | (with_reducible refine Kd.C_drewN ?_ _) | (with_reducible refine Kd.C_drew ?_) | exact HR154_0.out)) 0 p155 q155
                                                  cases e155
                                                  have qi155 : (0 < (rd_L2 y151 x17_4).length) = True := eq_true (by omega)
                                                  (try rw [show ((0 : Int)).toNat = 0 from rfl] at hx155_0)
                                                  (try rw [Addr.add_zero'] at hx155_0)
                                                  replace p155 := eq_true p155
                                                  replace q155 := eq_true q155
                                                  have p156 : 0 ≤ (x17_4 : Int) := of_decide_eq_true (by first | (with_reducible assumption) | assumption)
                                                  have q156 : x17_4 < (y151.length : Int) := of_decide_eq_true (by first | (with_reducible assumption) | assumption)
                                                  obtain ⟨ad156, A156_0, c156_0, e156, hx156_0, hl156_0, hi156_0⟩ := at_L2 (Kd.N_reads' HO_16.out).2.2 x17_4 p156 q156
                                                  obtain rfl : ad154 = ad156 := (by injection e156)
                                                  obtain ⟨ce156, hce156, hMe156, hcc156⟩ := Kd.N_get HO_16.out [] x17_4 p156 (by first | exact q156 | exact of_decide_eq_true (by first | (with_reducible assumption) | assumption) | (have e_ := (Kd.N_reads' HO_16.out).1; omega))
                                                  obtain ⟨ua156_0, uc156_0, rfl, ul156_0, ge156_0⟩ := Kd.FK_slice_open hMe156
                                                  have hv156_0 := hcc156 0 _ rfl
                                                  rw [Nat.add_zero, show ((Kd.slice 3 (Kd.int .i64))).sz = 1 from rfl, Nat.mul_one] at hv156_0
                                                  replace hv156_0 := Option.some.inj (hv156_0.symm.trans hx156_0)
                                                  injection hv156_0 with hva_ hvn_ hvc_
                                                  rw [hva_] at ge156_0
                                                  rw [hvc_] at ul156_0
                                                  have HL156_0 := Aside0.mk (show Kd.V (Kd.int .i64) 3 _ w.heap.size _ _ (rd_L2 y151 x17_4) from Kd.V_mk ul156_0 ge156_0)
                                                  clear hva_ hvn_ hvc_ ge156_0 ul156_0
                                                  clear hcc156 hce156
                                                  have HR156_0 := Aside0.mk hi156_0
                                                  have HC156_0 := Aside0.mk hl156_0
                                                  clear hi156_0 hl156_0
                                                  replace p156 := eq_true p156
                                                  replace q156 := eq_true q156
                                                  have ea_ := Option.some.inj (hx154_0.symm.trans hx156_0)
                                                  injection ea_ with ea_ en_ ec_
                                                  (try subst ea_)
                                                  (try subst ec_)
                                                  clear en_
                                                  have p157 : 0 ≤ (1 : Int) := (by omega)
                                                  have q157 : 1 < ((rd_L2 y151 x17_4).length : Int) := of_decide_eq_true (by first | (with_reducible assumption) | assumption)
                                                  obtain ⟨ad157, e157, hx157_0⟩ := Kd.at_int (by repeat (first | (with_reducible exact HR156_0.out) | (with_reducible refine Kd.C_alloc ?_ _) | (with_reducible refine Kd.C_drewN ?_ _) | (with_reducible refine Kd.C_drew ?_) | exact HR156_0.out)) 1 p157 q157
                                                  cases e157
                                                  (try simp only [show (1 : Int).toNat = 1 from rfl, Nat.reduceMul, Nat.reduceEqDiff, Go.Addr.add, ↓reduceIte] at hx157_0)
                                                  have qi157 : (1 < (rd_L2 y151 x17_4).length) = True := eq_true (by omega)
                                                  (try rw [show ((1 : Int)).toNat = 1 from rfl] at hx157_0)
                                                  replace p157 := eq_true p157
                                                  replace q157 := eq_true q157
                                                  have p158 : 0 ≤ ((ji96) : Int) := of_decide_eq_true (by first | (with_reducible assumption) | assumption)
                                                  have q158 : (ji96) < (x8_4.length : Int) := of_decide_eq_true (by first | (with_reducible assumption) | assumption)
                                                  obtain ⟨ad158, e158, hx158_0⟩ := Kd.at_bool (Kd.R_reads' HO_8.out).2.2 (ji96) p158 q158
                                                  (try rw [← Nbq99.out] at hx158_0)
                                                  obtain rfl : (⟨go42, 0, none⟩ : Addr) = ad158 := (by injection e158)
                                                  (first | simp only [add_plain] at hx158_0 | simp only [add_at] at hx158_0 | simp only [Addr.add, Nat.zero_add] at hx158_0 | skip)
                                                  replace p158 := eq_true p158
                                                  replace q158 := eq_true q158
                                                  have p159 : 0 ≤ ((rd (rd_L2 y151 x17_4) 0) : Int) := of_decide_eq_true (by first | (with_reducible assumption) | assumption)
                                                  have q159 : (rd (rd_L2 y151 x17_4) 0) < (l0.length : Int) := of_decide_eq_true (by first | (with_reducible assumption) | assumption)
                                                  obtain ⟨ad159, A159_0, c159_0, e159, hx159_0, hl159_0, hi159_0⟩ := at_L1 HR0.out (rd (rd_L2 y151 x17_4) 0) p159 q159
                                                  obtain rfl : ad114 = ad159 := (by injection e159)
                                                  replace hx159_0 := (HB.out.cell (World.block_lt_of_cell? w _ hx159_0)).trans hx159_0
                                                  have HR159_0 := Aside0.mk hi159_0
                                                  have HC159_0 := Aside0.mk hl159_0
                                                  clear hi159_0 hl159_0
                                                  replace p159 := eq_true p159
                                                  replace q159 := eq_true q159
                                                  have p160 : 0 ≤ ((rd (rd_L2 y151 x17_4) 1) : Int) := of_decide_eq_true (by first | (with_reducible assumption) | assumption)
                                                  have q160 : (rd (rd_L2 y151 x17_4) 1) < ((rd_L1 l0 (rd (rd_L2 y151 x17_4) 0)).length : Int) := of_decide_eq_true (by first | (with_reducible assumption) | assumption)
                                                  obtain ⟨ad160, e160, hx160_0⟩ := Kd.at_int HR159_0.out (rd (rd_L2 y151 x17_4) 1) p160 q160
                                                  cases e160
                                                  replace hx160_0 := (HB.out.cell (World.block_lt_of_cell? w _ hx160_0)).trans hx160_0
                                                  replace p160 := eq_true p160
                                                  replace q160 := eq_true q160
                                                  go_wp2
                                                  (try simp only [← hl8_4])
                                                  go_roundg k4
                                                  case measure => have := HK1.out; have := HJ15.out; have := HK3.out; have := HK4.out; omega
                                                  case rel => exact ⟨(x8_4), (x12_4), (wrap64 (x17_4 + 1)), (by first | rfl | (simp; done) | (simp [*]; done)), H', ⟨by have := HK1.out; have := HJ15.out; have := HK3.out; have := HK4.out; omega⟩, ⟨by (try simp only [hl8_3]); (try simp only [hl8_4]); (with_reducible repeat (first | apply Kd.R_alloc | apply Kd.R_drewN | apply Kd.R_drew)); exact HO_8.out⟩, ⟨by (try simp only [hl8_3]); (try simp only [hl8_4]); (with_reducible repeat (first | apply Kd.R_alloc | apply Kd.R_drewN | apply Kd.R_drew)); exact HO_9.out⟩, ⟨by (try simp only [hl8_3]); (try simp only [hl8_4]); (with_reducible repeat (first | apply Kd.R_alloc | apply Kd.R_drewN | apply Kd.R_drew)); exact HO_12.out⟩, ⟨by (try simp only [hl8_3]); (try simp only [hl8_4]); (with_reducible repeat (first | apply Kd.N_alloc | apply Kd.N_drewN | apply Kd.N_drew)); exact HO_16.out⟩, ⟨by (try simp only [hl8_3]); (try simp only [hl8_4]); (with_reducible repeat (first | refine blk_drewN ?_ _ | refine blk_drew ?_ | refine blk_alloc ?_ _)); exact BK126.out⟩, ⟨by repeat (first | (with_reducible first | exact HB.out | apply below_alloc | apply pw_below_drewN | apply below_drew1 | refine below_set ?_ GE126.out) | exact HB.out)⟩⟩
                                                 ·
                                                  rw [if_neg c106] at H
                                                  have c106b0 : decide ((rd (rd_L1 l0 (rd (rd_L2 y151 x17_4) 0)) (rd (rd_L2 y151 x17_4) 1)) ≤ a1) = false := decide_eq_false c106
                                                  clear c106
                                                  obtain ⟨y161, hy161⟩ : ∃ y_ : List Bool, y_ = (x8_4.set ((ji96) : Int).toNat true) := ⟨_, rfl⟩
                                                  replace H : (if x12_4.length < 17592186044416 then (spec_HotSpots.l2 k4 l0 a1 (l0.length : Int) ((rd_L1 l0 0).length : Int) y161 x9_1 x10_1 (x12_4 ++ [ji96]) x13_3 y151 (wrap64 (x17_4 + 1)) ji34 ji37 (wrap64 (x127002_3 + 1)) t138) else (none)) = some (r1, r2) := by first | (rw [hy161]; with_reducible exact H) | (have H2_ := (Option.bind_some _ _).symm.trans H; rw [hy161]; with_reducible exact H2_) | (have H2_ := (Option.bind_some _ _).symm.trans H; with_reducible exact H2_) | with_reducible exact H | (rw [hy161]; exact H) | exact H
                                                  have Ny161 := Aside0.mk hy161
                                                  clear hy161
                                                  by_cases c109 : x12_4.length < 17592186044416
                                                  ·
                                                   rw [if_pos c109] at H
                                                   have LMc109 := Aside0.mk c109
                                                   clear c109
                                                   obtain ⟨y162, hy162⟩ : ∃ y_ : List Int, y_ = (x12_4 ++ [ji96]) := ⟨_, rfl⟩
                                                   replace H : (spec_HotSpots.l2 k4 l0 a1 (l0.length : Int) ((rd_L1 l0 0).length : Int) y161 x9_1 x10_1 y162 x13_3 y151 (wrap64 (x17_4 + 1)) ji34 ji37 (wrap64 (x127002_3 + 1)) t138) = some (r1, r2) := by first | (rw [hy162]; with_reducible exact H) | (have H2_ := (Option.bind_some _ _).symm.trans H; rw [hy162]; with_reducible exact H2_) | (have H2_ := (Option.bind_some _ _).symm.trans H; with_reducible exact H2_) | with_reducible exact H | (rw [hy162]; exact H) | exact H
                                                   have Ny162 := Aside0.mk hy162
                                                   clear hy162
                                                   have H' := Aside0.mk H
                                                   clear H
                                                   obtain ⟨Ao110, co110, eo110⟩ := Kd.N_slice HO_16.out
                                                   subst eo110
                                                   have p154 : 0 ≤ (x17_4 : Int) := of_decide_eq_true (by first | (with_reducible assumption) | assumption)
                                                   have q154 : x17_4 < (y151.length : Int) := of_decide_eq_true (by first | (with_reducible assumption) | assumption)
                                                   obtain ⟨ad154, A154_0, c154_0, e154, hx154_0, hl154_0, hi154_0⟩ := at_L2 (Kd.N_reads' HO_16.out).2.2 x17_4 p154 q154
                                                   cases e154
                                                   obtain ⟨ce154, hce154, hMe154, hcc154⟩ := Kd.N_get HO_16.out [] x17_4 p154 (by first | exact q154 | exact of_decide_eq_true (by first | (with_reducible assumption) | assumption) | (have e_ := (Kd.N_reads' HO_16.out).1; omega))
                                                   obtain ⟨ua154_0, uc154_0, rfl, ul154_0, ge154_0⟩ := Kd.FK_slice_open hMe154
                                                   have hv154_0 := hcc154 0 _ rfl
                                                   rw [Nat.add_zero, show ((Kd.slice 3 (Kd.int .i64))).sz = 1 from rfl, Nat.mul_one] at hv154_0
                                                   replace hv154_0 := Option.some.inj (hv154_0.symm.trans hx154_0)
                                                   injection hv154_0 with hva_ hvn_ hvc_
                                                   rw [hva_] at ge154_0
                                                   rw [hvc_] at ul154_0
                                                   have HL154_0 := Aside0.mk (show Kd.V (Kd.int .i64) 3 _ w.heap.size _ _ (rd_L2 y151 x17_4) from Kd.V_mk ul154_0 ge154_0)
                                                   clear hva_ hvn_ hvc_ ge154_0 ul154_0
                                                   clear hcc154 hce154
                                                   have HR154_0 := Aside0.mk hi154_0
                                                   have HC154_0 := Aside0.mk hl154_0
                                                   clear hi154_0 hl154_0
                                                   replace p154 := eq_true p154
                                                   replace q154 := eq_true q154
                                                   have p155 : 0 ≤ (0 : Int) := (by omega)
                                                   have q155 : 0 < ((rd_L2 y151 x17_4).length : Int) := of_decide_eq_true (by first | (with_reducible assumption) | assumption)
                                                   obtain ⟨ad155, e155, hx155_0⟩ := Kd.at_int (by repeat (first | (with_reducible exact HR154_0.out) | (with_reducible refine Kd.C_alloc ?_ _) | (with_reducible refine Kd.C_drewN ?_ _) | (with_reducible refine Kd.C_drew ?_) | exact HR154_0.out)) 0 p155 q155
                                                   cases e155
                                                   have qi155 : (0 < (rd_L2 y151 x17_4).length) = True := eq_true (by omega)
                                                   (try rw [show ((0 : Int)).toNat = 0 from rfl] at hx155_0)
                                                   (try rw [Addr.add_zero'] at hx155_0)
                                                   replace p155 := eq_true p155
                                                   replace q155 := eq_true q155
                                                   have p156 : 0 ≤ (x17_4 : Int) := of_decide_eq_true (by first | (with_reducible assumption) | assumption)
                                                   have q156 : x17_4 < (y151.length : Int) := of_decide_eq_true (by first | (with_reducible assumption) | assumption)
                                                   obtain ⟨ad156, A156_0, c156_0, e156, hx156_0, hl156_0, hi156_0⟩ := at_L2 (Kd.N_reads' HO_16.out).2.2 x17_4 p156 q156
                                                   obtain rfl : ad154 = ad156 := (by injection e156)
                                                   obtain ⟨ce156, hce156, hMe156, hcc156⟩ := Kd.N_get HO_16.out [] x17_4 p156 (by first | exact q156 | exact of_decide_eq_true (by first | (with_reducible assumption) | assumption) | (have e_ := (Kd.N_reads' HO_16.out).1; omega))
                                                   obtain ⟨ua156_0, uc156_0, rfl, ul156_0, ge156_0⟩ := Kd.FK_slice_open hMe156
                                                   have hv156_0 := hcc156 0 _ rfl
                                                   rw [Nat.add_zero, show ((Kd.slice 3 (Kd.int .i64))).sz = 1 from rfl, Nat.mul_one] at hv156_0
                                                   replace hv156_0 := Option.some.inj (hv156_0.symm.trans hx156_0)
                                                   injection hv156_0 with hva_ hvn_ hvc_
                                                   rw [hva_] at ge156_0
                                                   rw [hvc_] at ul156_0
                                                   have HL156_0 := Aside0.mk (show Kd.V (Kd.int .i64) 3 _ w.heap.size _ _ (rd_L2 y151 x17_4) from Kd.V_mk ul156_0 ge156_0)
                                                   clear hva_ hvn_ hvc_ ge156_0 ul156_0
                                                   clear hcc156 hce156
                                                   have HR156_0 := Aside0.mk hi156_0
                                                   have HC156_0 := Aside0.mk hl156_0
                                                   clear hi156_0 hl156_0
                                                   replace p156 := eq_true p156
                                                   replace q156 := eq_true q156
                                                   have ea_ := Option.some.inj (hx154_0.symm.trans hx156_0)
                                                   injection ea_ with ea_ en_ ec_
                                                   (try subst ea_)
                                                   (try subst ec_)
                                                   clear en_
                                                   have p157 : 0 ≤ (1 : Int) := (by omega)
                                                   have q157 : 1 < ((rd_L2 y151 x17_4).length : Int) := of_decide_eq_true (by first | (with_reducible assumption) | assumption)
                                                   obtain ⟨ad157, e157, hx157_0⟩ := Kd.at_int (by repeat (first | (with_reducible exact HR156_0.out) | (with_reducible refine Kd.C_alloc ?_ _) | (with_reducible refine Kd.C_drewN ?_ _) | (with_reducible refine Kd.C_drew ?_) | exact HR156_0.out)) 1 p157 q157
                                                   cases e157
                                                   (try simp only [show (1 : Int).toNat = 1 from rfl, Nat.reduceMul, Nat.reduceEqDiff, Go.Addr.add, ↓reduceIte] at hx157_0)
                                                   have qi157 : (1 < (rd_L2 y151 x17_4).length) = True := eq_true (by omega)
                                                   (try rw [show ((1 : Int)).toNat = 1 from rfl] at hx157_0)
                                                   replace p157 := eq_true p157
                                                   replace q157 := eq_true q157
                                                   have p158 : 0 ≤ ((ji96) : Int) := of_decide_eq_true (by first | (with_reducible assumption) | assumption)
                                                   have q158 : (ji96) < (x8_4.length : Int) := of_decide_eq_true (by first | (with_reducible assumption) | assumption)
                                                   obtain ⟨ad158, e158, hx158_0⟩ := Kd.at_bool (Kd.R_reads' HO_8.out).2.2 (ji96) p158 q158
                                                   (try rw [← Nbq99.out] at hx158_0)
                                                   obtain rfl : (⟨go42, 0, none⟩ : Addr) = ad158 := (by injection e158)
                                                   (first | simp only [add_plain] at hx158_0 | simp only [add_at] at hx158_0 | simp only [Addr.add, Nat.zero_add] at hx158_0 | skip)
                                                   replace p158 := eq_true p158
                                                   replace q158 := eq_true q158
                                                   have p159 : 0 ≤ ((rd (rd_L2 y151 x17_4) 0) : Int) := of_decide_eq_true (by first | (with_reducible assumption) | assumption)
                                                   have q159 : (rd (rd_L2 y151 x17_4) 0) < (l0.length : Int) := of_decide_eq_true (by first | (with_reducible assumption) | assumption)
                                                   obtain ⟨ad159, A159_0, c159_0, e159, hx159_0, hl159_0, hi159_0⟩ := at_L1 HR0.out (rd (rd_L2 y151 x17_4) 0) p159 q159
                                                   obtain rfl : ad114 = ad159 := (by injection e159)
                                                   replace hx159_0 := (HB.out.cell (World.block_lt_of_cell? w _ hx159_0)).trans hx159_0
                                                   have HR159_0 := Aside0.mk hi159_0
                                                   have HC159_0 := Aside0.mk hl159_0
                                                   clear hi159_0 hl159_0
                                                   replace p159 := eq_true p159
                                                   replace q159 := eq_true q159
                                                   have p160 : 0 ≤ ((rd (rd_L2 y151 x17_4) 1) : Int) := of_decide_eq_true (by first | (with_reducible assumption) | assumption)
                                                   have q160 : (rd (rd_L2 y151 x17_4) 1) < ((rd_L1 l0 (rd (rd_L2 y151 x17_4) 0)).length : Int) := of_decide_eq_true (by first | (with_reducible assumption) | assumption)
                                                   obtain ⟨ad160, e160, hx160_0⟩ := Kd.at_int HR159_0.out (rd (rd_L2 y151 x17_4) 1) p160 q160
                                                   cases e160
                                                   replace hx160_0 := (HB.out.cell (World.block_lt_of_cell? w _ hx160_0)).trans hx160_0
                                                   replace p160 := eq_true p160
                                                   replace q160 := eq_true q160
                                                   have p108 : 0 ≤ ((ji96) : Int) := of_decide_eq_true (by first | (with_reducible assumption) | assumption)
                                                   have q108 : ((ji96) : Int) < ((x8_4.length : Int) : Int) := of_decide_eq_true (by first | (with_reducible assumption) | assumption)
                                                   obtain ⟨hx108_0, hf108_0⟩ := Kd.R_celln false HO_8.out ((ji96) : Int) p108 q108
                                                   replace p108 := eq_true p108
                                                   replace q108 := eq_true q108
                                                   have HP111 := Kd.R_putg HO_8.out ((ji96) : Int) true
                                                   go_wp2_with (first | ((with_reducible refine gate_store (t := 4) (p := 195) rfl ?_); refine store_event (t := 4) (p := 195) (v := ?vo_w112) (w1 := (wr.setCell ⟨go42, ((ji96) : Int).toNat, none⟩ (.bool true))) ?hg ?ho ?hn ?hr ?_; (case ho => rfl); (case hg => rfl); (case hn => rfl); (case hr => first | (go_simp; done) | (go_simp; rfl)); intro w112 hw; have hg : wr.grownBy w112 (some go42) := (by rw [hw]; exact HP111.2); have hp_ : Kd.R Kd.bool 4 w112 w.heap.size (fun _ => True) (.slice (some ⟨go42, 0, none⟩) x8_4.length co42) y161 := (by rw [hw, Ny161.out]; exact HP111.1); clear HP111; have n0_ := Aside0.mk (hp_); have n1_ := Aside0.mk (Kd.R_over' (v := (.slice (some ⟨go42, 0, none⟩) x8_4.length co42)) (by (with_reducible repeat (first | apply Kd.R_alloc | apply Kd.R_drewN | apply Kd.R_drew)); exact HO_9.out) (Kd.R_typed HO_8.out) (by decide) hg); have n2_ := Aside0.mk (Kd.R_over' (v := (.slice (some ⟨go42, 0, none⟩) x8_4.length co42)) (by (with_reducible repeat (first | apply Kd.R_alloc | apply Kd.R_drewN | apply Kd.R_drew)); exact HO_12.out) (Kd.R_typed HO_8.out) (by decide) hg); have n3_ := Aside0.mk (Kd.N_afterv (v := (.slice (some ⟨go42, 0, none⟩) x8_4.length co42)) (v1 := (.slice (some ⟨go42, 0, none⟩) x8_4.length co42)) (ok := (fun k_ => some k_ ≠ (u9 : Value).ownBlock ∧ some k_ ≠ (u12 : Value).ownBlock ∧ k_ ≠ gb126)) (by (with_reducible repeat (first | apply Kd.N_alloc | apply Kd.N_drewN | apply Kd.N_drew)); exact Kd.N_mono HO_16.out (fun _ hk => ⟨⟨hk.2.1, ⟨hk.2.2.1, hk.2.2.2⟩⟩, hk.1⟩)) hg (.inl rfl)); have n4_ := Aside0.mk (blk_grown (g := gb126) (o := .cells #[.int .i64 ji34, .int .i64 ji37, .int .i64 (wrap64 (x127002_3 + 1)), .int .i64 t138] 116 (0, 0)) (by (with_reducible repeat (first | refine blk_drewN ?_ _ | refine blk_drew ?_ | refine blk_alloc ?_ _)); exact BK126.out) hg (Kd.R_ne HO_8.out BK126.out (by decide))); have n5_ := Aside0.mk (Kd.V_afterv (v := (.slice (some ⟨go42, 0, none⟩) x8_4.length co42)) (v1 := (.slice (some ⟨go42, 0, none⟩) x8_4.length co42)) (ok := (fun k_ => some k_ ≠ (u9 : Value).ownBlock ∧ some k_ ≠ (u12 : Value).ownBlock ∧ some k_ ≠ (.slice (some ad154) y151.length co110 : Value).ownBlock ∧ k_ ≠ gb126)) (by (with_reducible repeat (first | apply Kd.V_alloc | apply Kd.V_drewN | apply Kd.V_drew)); exact Kd.V_mono HL154_0.out (fun _ hk => ⟨⟨hk.1.2.1, ⟨hk.1.2.2.1, ⟨hk.2, hk.1.2.2.2⟩⟩⟩, hk.1.1⟩)) hg (.inl rfl)); have n6_ := Aside0.mk (Kd.V_afterv (v := (.slice (some ⟨go42, 0, none⟩) x8_4.length co42)) (v1 := (.slice (some ⟨go42, 0, none⟩) x8_4.length co42)) (ok := (fun k_ => some k_ ≠ (u9 : Value).ownBlock ∧ some k_ ≠ (u12 : Value).ownBlock ∧ some k_ ≠ (.slice (some ad154) y151.length co110 : Value).ownBlock ∧ k_ ≠ gb126)) (by (with_reducible repeat (first | apply Kd.V_alloc | apply Kd.V_drewN | apply Kd.V_drew)); exact Kd.V_mono HL156_0.out (fun _ hk => ⟨⟨hk.1.2.1, ⟨hk.1.2.2.1, ⟨hk.2, hk.1.2.2.2⟩⟩⟩, hk.1.1⟩)) hg (.inl rfl)); have n7_ := Aside0.mk ((by rw [hw]; exact below_set (HB.out) GB42.out : Below w.heap.size w w112)); clear HO_8; clear HO_9; clear HO_12; clear HO_16; clear BK126; clear HL154_0; clear HL156_0; clear HB; have HO_8 := n0_; have HO_9 := n1_; have HO_12 := n2_; have HO_16 := n3_; have BK126 := n4_; have HL154_0 := n5_; have HL156_0 := n6_; have HB := n7_; clear n0_ n1_ n2_ n3_ n4_ n5_ n6_ n7_; clear hg hw hp_) | ((with_reducible refine gate_builtin (b := .append) (xs := #[.tmp 196, .tmp 202]) rfl ?_); at_builtin; refine Kd.R_append (Kd.int .i64) (w0 := w) w.heap.size rfl (.tmp 196) (.tmp 202) 117 3 (.int .i64 0) 8 rfl Try.underlying117 info3 rfl (by decide) (by omega) u12 x12_4 ji96 [.int .i64 ji96] (fun _ => True) (fun _ => False) rfl rfl ?aP (fun _ hk => hk.elim) ?aF ?aO ?aB ?aS ?aL ?_; (case aP => exact rfl); (case aB => exact (by repeat (first | (with_reducible first | exact HB.out | apply below_alloc | apply pw_below_drewN | apply below_drew1 | refine below_set ?_ GE126.out) | exact HB.out))); (case aF => exact (fun _ _ => trivial)); (case aO => exact (by (with_reducible repeat (first | apply Kd.R_alloc | apply Kd.R_drewN | apply Kd.R_drew)); exact HO_12.out)); (case aS => exact (below_size (by repeat (first | (with_reducible first | exact HB.out | apply below_alloc | apply pw_below_drewN | apply below_drew1 | refine below_set ?_ GE126.out) | exact HB.out)))); (case aL => have := LMc109.out; omega); intro v163 w113 ho hb hg hat; rw [← Ny162.out] at ho; have n0_ := Aside0.mk (Kd.R_over' (by (with_reducible repeat (first | apply Kd.R_alloc | apply Kd.R_drewN | apply Kd.R_drew)); exact HO_8.out) (Kd.R_typed (by (with_reducible repeat (first | apply Kd.R_alloc | apply Kd.R_drewN | apply Kd.R_drew)); exact HO_12.out)) (by decide) hg); have n1_ := Aside0.mk (Kd.R_over' (by (with_reducible repeat (first | apply Kd.R_alloc | apply Kd.R_drewN | apply Kd.R_drew)); exact HO_9.out) (Kd.R_typed (by (with_reducible repeat (first | apply Kd.R_alloc | apply Kd.R_drewN | apply Kd.R_drew)); exact HO_12.out)) (by decide) hg); have n2_ := Aside0.mk (Kd.N_afterv (ok := (fun k_ => some k_ ≠ (.slice (some ⟨go42, 0, none⟩) x8_4.length co42 : Value).ownBlock ∧ some k_ ≠ (u9 : Value).ownBlock ∧ k_ ≠ gb126)) (by (with_reducible repeat (first | apply Kd.N_alloc | apply Kd.N_drewN | apply Kd.N_drew)); exact Kd.N_mono HO_16.out (fun _ hk => ⟨⟨hk.2, ⟨hk.1.1, hk.1.2.2⟩⟩, hk.1.2.1⟩)) hg hat); have n3_ := Aside0.mk (blk_grown (g := gb126) (o := .cells #[.int .i64 ji34, .int .i64 ji37, .int .i64 (wrap64 (x127002_3 + 1)), .int .i64 t138] 116 (0, 0)) (by (with_reducible repeat (first | refine blk_drewN ?_ _ | refine blk_drew ?_ | refine blk_alloc ?_ _)); exact BK126.out) hg (Kd.R_ne HO_12.out BK126.out (by decide))); have n4_ := Aside0.mk (Kd.V_afterv (ok := (fun k_ => some k_ ≠ (.slice (some ⟨go42, 0, none⟩) x8_4.length co42 : Value).ownBlock ∧ some k_ ≠ (u9 : Value).ownBlock ∧ some k_ ≠ (.slice (some ad154) y151.length co110 : Value).ownBlock ∧ k_ ≠ gb126)) (by (with_reducible repeat (first | apply Kd.V_alloc | apply Kd.V_drewN | apply Kd.V_drew)); exact Kd.V_mono HL154_0.out (fun _ hk => ⟨⟨hk.2, ⟨hk.1.1, ⟨hk.1.2.2.1, hk.1.2.2.2⟩⟩⟩, hk.1.2.1⟩)) hg hat); have n5_ := Aside0.mk (Kd.V_afterv (ok := (fun k_ => some k_ ≠ (.slice (some ⟨go42, 0, none⟩) x8_4.length co42 : Value).ownBlock ∧ some k_ ≠ (u9 : Value).ownBlock ∧ some k_ ≠ (.slice (some ad154) y151.length co110 : Value).ownBlock ∧ k_ ≠ gb126)) (by (with_reducible repeat (first | apply Kd.V_alloc | apply Kd.V_drewN | apply Kd.V_drew)); exact Kd.V_mono HL156_0.out (fun _ hk => ⟨⟨hk.2, ⟨hk.1.1, ⟨hk.1.2.2.1, hk.1.2.2.2⟩⟩⟩, hk.1.2.1⟩)) hg hat); have n6_ := Aside0.mk (hb); have n7_ := Aside0.mk (ho); clear HO_8; clear HO_9; clear HO_16; clear BK126; clear HL154_0; clear HL156_0; clear HB; clear HO_12; have HO_8 := n0_; have HO_9 := n1_; have HO_16 := n2_; have BK126 := n3_; have HL154_0 := n4_; have HL156_0 := n5_; have HB := n6_; have HO164 := n7_; clear n0_ n1_ n2_ n3_ n4_ n5_ n6_ n7_; clear ho hb hg hat))
                                                   (try simp only [← hl8_4])
                                                   go_roundg k4
                                                   case measure => have := HK1.out; have := HJ15.out; have := HK3.out; have := HK4.out; omega
                                                   case rel => exact ⟨(y161), (y162), (wrap64 (x17_4 + 1)), (by first | rfl | (simp; done) | (simp [*]; done)), H', ⟨by have := HK1.out; have := HJ15.out; have := HK3.out; have := HK4.out; omega⟩, ⟨by (try simp only [hl8_3]); (try simp only [hl8_4]); (with_reducible repeat (first | apply Kd.R_alloc | apply Kd.R_drewN | apply Kd.R_drew)); exact HO_8.out⟩, ⟨by (try simp only [hl8_3]); (try simp only [hl8_4]); (with_reducible repeat (first | apply Kd.R_alloc | apply Kd.R_drewN | apply Kd.R_drew)); exact HO_9.out⟩, ⟨by (try simp only [hl8_3]); (try simp only [hl8_4]); (with_reducible repeat (first | apply Kd.R_alloc | apply Kd.R_drewN | apply Kd.R_drew)); exact HO164.out⟩, ⟨by (try simp only [hl8_3]); (try simp only [hl8_4]); (with_reducible repeat (first | apply Kd.N_alloc | apply Kd.N_drewN | apply Kd.N_drew)); exact Kd.N_mono HO_16.out (fun _ hk => ⟨hk.1.1, ⟨hk.1.2.1, ⟨hk.2, hk.1.2.2⟩⟩⟩)⟩, ⟨by (try simp only [hl8_3]); (try simp only [hl8_4]); (with_reducible repeat (first | refine blk_drewN ?_ _ | refine blk_drew ?_ | refine blk_alloc ?_ _)); exact BK126.out⟩, ⟨by repeat (first | (with_reducible first | exact HB.out | apply below_alloc | apply pw_below_drewN | apply below_drew1 | refine below_set ?_ GE126.out) | exact HB.out)⟩⟩
                                                  ·
                                                   rw [if_neg c109] at H
                                                   exact absurd H (by simp)
                                                ·
                                                 rw [if_neg c105] at H
                                                 exact absurd H (by simp)
                                               ·
                                                rw [if_neg c104] at H
                                                exact absurd H (by simp)
                                              ·
                                               rw [if_neg c103] at H
                                               exact absurd H (by simp)
                                             ·
                                              rw [if_neg c102] at H
                                              exact absurd H (by simp)
                                           ·
                                            rw [if_neg c98] at H
                                            exact absurd H (by simp)
                                          ·
                                           rw [if_neg c97] at H
                                           exact absurd H (by simp)
                                     ·
                                      rw [if_neg c87] at H
                                      exact absurd H (by simp)
                                    ·
                                     rw [if_neg c86] at H
                                     exact absurd H (by simp)
                                   ·
                                    rw [if_neg c85] at H
                                    exact absurd H (by simp)
                                  ·
                                   rw [if_neg c84] at H
                                   exact absurd H (by simp)
                                 ·
                                  rw [if_neg c83] at H
                                  have c83b0 : decide (x17_4 < 4) = false := decide_eq_false c83
                                  clear c83
                                  have H' := Aside0.mk H
                                  clear H
                                  go_wp2
                                  (try simp only [← hl8_3, ← hl8_4])
                                  go_roundg k4
                                  case measure => have := HK1.out; have := HJ15.out; have := HK3.out; have := HK4.out; omega
                                  case rel => exact ⟨(x8_4), (x12_4), (wrap64 (x13_3 + 1)), ((wrap64 (x127002_3 + 1))), (t138), (by first | rfl | (simp; done) | (simp [*]; done)), H', ⟨by have := HK1.out; have := HJ15.out; have := HK3.out; have := HK4.out; omega⟩, ⟨by (try simp only [hl8_3]); (try simp only [hl8_4]); (with_reducible repeat (first | apply Kd.R_alloc | apply Kd.R_drewN | apply Kd.R_drew)); exact HO_8.out⟩, ⟨by (try simp only [hl8_3]); (try simp only [hl8_4]); (with_reducible repeat (first | apply Kd.R_alloc | apply Kd.R_drewN | apply Kd.R_drew)); exact HO_9.out⟩, ⟨by (try simp only [hl8_3]); (try simp only [hl8_4]); (with_reducible repeat (first | apply Kd.R_alloc | apply Kd.R_drewN | apply Kd.R_drew)); exact HO_12.out⟩, ⟨by (try simp only [hl8_3]); (try simp only [hl8_4]); (with_reducible repeat (first | refine blk_drewN ?_ _ | refine blk_drew ?_ | refine blk_alloc ?_ _)); exact BK126.out⟩, ⟨by repeat (first | (with_reducible first | exact HB.out | apply below_alloc | apply pw_below_drewN | apply below_drew1 | refine below_set ?_ GE126.out) | exact HB.out)⟩⟩
                             ·
                              rw [if_neg c62] at H
                              exact absurd H (by simp)
                            ·
                             rw [if_neg c61] at H
                             exact absurd H (by simp)
                           ·
                            rw [if_neg c59] at H
                            exact absurd H (by simp)
                          ·
                           rw [if_neg c58] at H
                           exact absurd H (by simp)
                        ·
                         rw [if_neg c55] at H
                         exact absurd H (by simp)
                       ·
                        rw [if_neg c54] at H
                        have c54b0 : decide (x13_3 < (x12_3.length : Int)) = false := decide_eq_false c54
                        have c54b0_ := c54b0
                        (try simp only [hl8_3] at c54b0_)
                        clear c54
                        by_cases c114 : x9_1.length < 4398046511104
                        ·
                         rw [if_pos c114] at H
                         have LMc114 := Aside0.mk c114
                         clear c114
                         obtain ⟨y131, hy131⟩ : ∃ y_ : List (S116), y_ = (x9_1 ++ [(⟨ji34, ji37, x127002_3, x127003_3⟩ : S116)]) := ⟨_, rfl⟩
                         replace H : (spec_HotSpots.l0 k3 l0 a1 (l0.length : Int) ((rd_L1 l0 0).length : Int) x8_3 y131 (wrap64 (x10_1 + 1))) = some (r1, r2) := by first | (rw [hy131]; with_reducible exact H) | (have H2_ := (Option.bind_some _ _).symm.trans H; rw [hy131]; with_reducible exact H2_) | (have H2_ := (Option.bind_some _ _).symm.trans H; with_reducible exact H2_) | with_reducible exact H | (rw [hy131]; exact H) | exact H
                         have Ny131 := Aside0.mk hy131
                         clear hy131
                         have H' := Aside0.mk H
                         clear H
                         obtain ⟨Ao115, co115, eo115⟩ := Kd.R_slice HO_12.out
                         subst eo115
                         have hcz116_0 : wr.cell? ⟨gb126, 0, none⟩ = some (.int .i64 ji34) := (blk_cell BK126.out 0).trans rfl
                         have hcz116_1 : wr.cell? ⟨gb126, 1, none⟩ = some (.int .i64 ji37) := (blk_cell BK126.out 1).trans rfl
                         have hcz116_2 : wr.cell? ⟨gb126, 2, none⟩ = some (.int .i64 x127002_3) := (blk_cell BK126.out 2).trans rfl
                         have hcz116_3 : wr.cell? ⟨gb126, 3, none⟩ = some (.int .i64 x127003_3) := (blk_cell BK126.out 3).trans rfl
                         have hfz116_0 := blk_frozen BK126.out 0
                         have hfz116_1 := blk_frozen BK126.out 1
                         have hfz116_2 := blk_frozen BK126.out 2
                         have hfz116_3 := blk_frozen BK126.out 3
                         go_wp2_with (first | ((with_reducible refine gate_builtin (b := .append) (xs := #[.tmp 204, .tmp 206]) rfl ?_); at_builtin; refine Kd.R_append k116 (w0 := w) w.heap.size rfl (.tmp 204) (.tmp 206) 24 116 (.agg #[(.int .i64 0), (.int .i64 0), (.int .i64 0), (.int .i64 0)]) 32 rfl Try.underlying24 info116 rfl (by decide) (by omega) u9 x9_1 (⟨ji34, ji37, x127002_3, x127003_3⟩ : S116) [.int .i64 ji34, .int .i64 ji37, .int .i64 x127002_3, .int .i64 x127003_3] (fun k_ => k_ ≠ gb126) (fun _ => False) rfl rfl ?aP (fun _ hk => hk.elim) ?aF ?aO ?aB ?aS ?aL ?_; (case aP => exact k116_mkM _ _ _ (⟨ji34, ji37, x127002_3, x127003_3⟩ : S116)); (case aB => exact (by repeat (first | (with_reducible first | exact HB.out | apply below_alloc | apply pw_below_drewN | apply below_drew1 | refine below_set ?_ GE126.out) | exact HB.out))); (case aF => exact (fun k_ hk => Kd.freshB (g := gb126) (o := .cells #[.int .i64 ji34, .int .i64 ji37, .int .i64 x127002_3, .int .i64 x127003_3] 116 (0, 0)) (by (with_reducible repeat (first | refine blk_drewN ?_ _ | refine blk_drew ?_ | refine blk_alloc ?_ _)); exact BK126.out) k_ hk)); (case aO => exact (by (with_reducible repeat (first | apply Kd.R_alloc | apply Kd.R_drewN | apply Kd.R_drew)); exact HO_9.out)); (case aS => exact (below_size (by repeat (first | (with_reducible first | exact HB.out | apply below_alloc | apply pw_below_drewN | apply below_drew1 | refine below_set ?_ GE126.out) | exact HB.out)))); (case aL => have := LMc114.out; omega); intro v132 w117 ho hb hg hat; rw [← Ny131.out] at ho; have n0_ := Aside0.mk (Kd.R_over' (by (with_reducible repeat (first | apply Kd.R_alloc | apply Kd.R_drewN | apply Kd.R_drew)); exact HO_8.out) (Kd.R_typed (by (with_reducible repeat (first | apply Kd.R_alloc | apply Kd.R_drewN | apply Kd.R_drew)); exact HO_9.out)) (by decide) hg); have n1_ := Aside0.mk (Kd.R_over' (by (with_reducible repeat (first | apply Kd.R_alloc | apply Kd.R_drewN | apply Kd.R_drew)); exact HO_12.out) (Kd.R_typed (by (with_reducible repeat (first | apply Kd.R_alloc | apply Kd.R_drewN | apply Kd.R_drew)); exact HO_9.out)) (by decide) hg); have n2_ := Aside0.mk (blk_grown (g := gb126) (o := .cells #[.int .i64 ji34, .int .i64 ji37, .int .i64 x127002_3, .int .i64 x127003_3] 116 (0, 0)) (by (with_reducible repeat (first | refine blk_drewN ?_ _ | refine blk_drew ?_ | refine blk_alloc ?_ _)); exact BK126.out) hg (Kd.R_away HO_9.out (fun _ hk => hk))); have n3_ := Aside0.mk (hb); have n4_ := Aside0.mk (ho); clear HO_8; clear HO_12; clear BK126; clear HB; clear HO_9; have HO_8 := n0_; have HO_12 := n1_; have BK126 := n2_; have HB := n3_; have HO133 := n4_; clear n0_ n1_ n2_ n3_ n4_; clear ho hb hg hat))
                         (try simp only [← hl8_3])
                         go_roundg k3
                         case measure => have := HK1.out; have := HJ15.out; have := HK3.out; omega
                         case rel => exact ⟨(x8_3), (y131), (wrap64 (x10_1 + 1)), (by first | rfl | (simp; done) | (simp [*]; done)), H', ⟨by have := HK1.out; have := HJ15.out; have := HK3.out; omega⟩, ⟨by (try simp only [hl8_3]); (with_reducible repeat (first | apply Kd.R_alloc | apply Kd.R_drewN | apply Kd.R_drew)); exact HO_8.out⟩, ⟨by (try simp only [hl8_3]); (with_reducible repeat (first | apply Kd.R_alloc | apply Kd.R_drewN | apply Kd.R_drew)); exact Kd.R_mono HO133.out (fun _ hk => trivial)⟩, ⟨by repeat (first | (with_reducible first | exact HB.out | apply below_alloc | apply pw_below_drewN | apply below_drew1 | refine below_set ?_ GE126.out) | exact HB.out)⟩⟩
                        ·
                         rw [if_neg c114] at H
                         exact absurd H (by simp)
                   ·
                    rw [if_neg c41] at H
                    exact absurd H (by simp)
                  ·
                   rw [if_neg c40] at H
                   exact absurd H (by simp)
                 ·
                  rw [if_neg c39] at H
                  exact absurd H (by simp)
                ·
                 rw [if_neg c38] at H
                 exact absurd H (by simp)
               ·
                rw [if_neg c36] at H
                exact absurd H (by simp)
              ·
               rw [if_neg c35] at H
               exact absurd H (by simp)
         ·
          rw [if_neg c15] at H
          have c15b0 : decide (x10_1 < (wrap64 ((l0.length : Int) * ((rd_L1 l0 0).length : Int)))) = false := decide_eq_false c15
          (try have c15b0_ji8 : decide (x10_1 < ji8) = false := (by rw [← hji8]; exact c15b0))
          clear c15
          by_cases c118 : (x9_1.length : Int) > 64
          ·
           rw [if_pos c118] at H
           have c118b0 : decide (64 < (x9_1.length : Int)) = true := decide_eq_true c118
           have c118b1 : decide (64 < x9_1.length) = true := decide_eq_true (by omega)
           clear c118
           simp only [Option.some.injEq, Prod.mk.injEq] at H
           obtain ⟨rfl, rfl⟩ := H
           obtain ⟨Ao119, co119, eo119⟩ := Kd.R_slice HO_9.out
           subst eo119
           go_wp2
           go_ret2
           exact ⟨_, by first | rfl | (simp [errW_none, errW_some] <;> rfl) | (simp only [← hji8]; first | rfl | (simp [errW_none, errW_some] <;> rfl)) | (simp [*, errW_none, errW_some] <;> rfl), by first | exact Kd.R_nil _ _ _ _ _ | exact Kd.N_nil _ _ _ _ _ | exact Kd.V_nil _ _ _ _ _ | exact Kd.Q_nil _ _ _ _ _ | exact Kd.S_nil _ _ _ _ _, by repeat (first | (with_reducible first | exact HB.out | apply below_alloc | apply pw_below_drewN | apply below_drew1) | exact HB.out)⟩
          ·
           rw [if_neg c118] at H
           have c118b0 : decide (64 < (x9_1.length : Int)) = false := decide_eq_false c118
           have c118b1 : decide (64 < x9_1.length) = false := decide_eq_false (by omega)
           clear c118
           simp only [Option.some.injEq, Prod.mk.injEq] at H
           obtain ⟨rfl, rfl⟩ := H
           obtain ⟨Ao120, co120, eo120⟩ := Kd.R_slice HO_9.out
           subst eo120
           go_wp2
           go_ret2
           exact ⟨_, by first | rfl | (simp [errW_none, errW_some] <;> rfl) | (simp only [← hji8]; first | rfl | (simp [errW_none, errW_some] <;> rfl)) | (simp [*, errW_none, errW_some] <;> rfl), by (with_reducible repeat (first | apply Kd.R_alloc | apply Kd.R_drewN | apply Kd.R_drew)); exact HO_9.out, by repeat (first | (with_reducible first | exact HB.out | apply below_alloc | apply pw_below_drewN | apply below_drew1) | exact HB.out)⟩
     ·
      rw [if_neg c10] at H
      exact absurd H (by simp)
    ·
     rw [if_neg c9] at H
     exact absurd H (by simp)
   ·
    rw [if_neg c7] at H
    exact absurd H (by simp)
  ·
   replace c6 := Bool.eq_false_iff.mpr c6
   subst c6
   have H1 : (some (([] : List (S116)), 2)) = some (r1, r2) := by rw [if_neg (show ¬ (false = true) by decide)] at H; exact H
   clear H
   have H := H1
   clear H1
   simp only [Option.some.injEq, Prod.mk.injEq] at H
   obtain ⟨rfl, rfl⟩ := H
   go_enter Try.func15, Try.ntmps15
   go_wp2_with (first | ((with_reducible refine gate_callee (f := 85) rfl ?_); refine goesL_ (some 21) rfl rfl Try.func85 (by kernel_rfl) rfl #[.slice A0 l0.length c0] rfl (by (try simp only [List.map_toArray, List.map_cons, List.map_nil]); first | done | rfl | (simp only [List.length_drop, List.length_take]; rfl)) ?_; (with_reducible refine (spec_l28Ok.calls k _ _ l0 true _ ?side1 ?side2 A3.out).mono ?_); (case side1 => repeat (first | exact HR0.out | (with_reducible refine Kd.C_alloc ?_ _) | (with_reducible refine Kd.C_drewN ?_ _) | (with_reducible refine Kd.C_drew ?_))); (case side2 => exact HC0.out); rintro e w' ⟨rfl, ⟨nd, rfl⟩⟩; refine ⟨_, rfl, ?_⟩) | ((with_reducible refine gate_callee (f := 86) rfl ?_); refine goesL_ (some 24) rfl rfl Try.func86 (by kernel_rfl) rfl #[.int .i64 a1] rfl (by (try simp only [List.map_toArray, List.map_cons, List.map_nil]); first | done | rfl | (simp only [List.length_drop, List.length_take]; rfl)) ?_; (with_reducible refine (spec_l28Cell.calls a1 false _ A5.out).mono ?_); rintro e w' ⟨rfl, ⟨nd, rfl⟩⟩; refine ⟨_, rfl, ?_⟩))
   go_ret2
   exact ⟨_, by first | rfl | (simp [errW_none, errW_some] <;> rfl) | (simp [*, errW_none, errW_some] <;> rfl), by first | exact Kd.R_nil _ _ _ _ _ | exact Kd.N_nil _ _ _ _ _ | exact Kd.V_nil _ _ _ _ _ | exact Kd.Q_nil _ _ _ _ _ | exact Kd.S_nil _ _ _ _ _, by repeat (first | (with_reducible first | exact HB.out | apply below_alloc | apply pw_below_drewN | apply below_drew1) | exact HB.out)⟩
 ·
  replace c4 := Bool.eq_false_iff.mpr c4
  subst c4
  have H1 : (some (([] : List (S116)), 1)) = some (r1, r2) := by rw [if_neg (show ¬ (false = true) by decide)] at H; exact H
  clear H
  have H := H1
  clear H1
  simp only [Option.some.injEq, Prod.mk.injEq] at H
  obtain ⟨rfl, rfl⟩ := H
  go_enter Try.func15, Try.ntmps15
  go_wp2_with (first | ((with_reducible refine gate_callee (f := 85) rfl ?_); refine goesL_ (some 21) rfl rfl Try.func85 (by kernel_rfl) rfl #[.slice A0 l0.length c0] rfl (by (try simp only [List.map_toArray, List.map_cons, List.map_nil]); first | done | rfl | (simp only [List.length_drop, List.length_take]; rfl)) ?_; (with_reducible refine (spec_l28Ok.calls k _ _ l0 false _ ?side1 ?side2 A3.out).mono ?_); (case side1 => repeat (first | exact HR0.out | (with_reducible refine Kd.C_alloc ?_ _) | (with_reducible refine Kd.C_drewN ?_ _) | (with_reducible refine Kd.C_drew ?_))); (case side2 => exact HC0.out); rintro e w' ⟨rfl, ⟨nd, rfl⟩⟩; refine ⟨_, rfl, ?_⟩))
  go_ret2
  exact ⟨_, by first | rfl | (simp [errW_none, errW_some] <;> rfl) | (simp [*, errW_none, errW_some] <;> rfl), by first | exact Kd.R_nil _ _ _ _ _ | exact Kd.N_nil _ _ _ _ _ | exact Kd.V_nil _ _ _ _ _ | exact Kd.Q_nil _ _ _ _ _ | exact Kd.S_nil _ _ _ _ _, by repeat (first | (with_reducible first | exact HB.out | apply below_alloc | apply pw_below_drewN | apply below_drew1) | exact HB.out)⟩

end Go.Proofs.Ytobhjkpegcfdfaa.PFnExactHotSpots
