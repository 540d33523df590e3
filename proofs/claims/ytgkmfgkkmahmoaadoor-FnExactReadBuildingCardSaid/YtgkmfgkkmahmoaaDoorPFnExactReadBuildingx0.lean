-- PRINTED by print.py (a twelfth state) out of the translation. Not trusted: Lean checks it.
import Derived.Test.YtgkmfgkkmahmoaaDoorProg
import Derived.Below
import Derived.Deep.Draws
import Derived.Deep.AppendLies
import Derived.Maps.AppendAt
import Derived.OwnWalk
import Derived.Laws.BytesArg
import Derived.Laws.MakeOwn
import Derived.Laws.OwnMore
import Derived.Deep.OwnRows
import Derived.Tactics
import Derived.Lib.ConvBytes
import Derived.Laws.Slices
import Derived.WalkKit
import Derived.KernelRfl
import Derived.RowKit3
import Derived.Deep.LoopGhost
import Derived.Deep.QuietTactic
import Derived.BigQuiet
import Derived.WideLaws
import Derived.Deep.DeepCutAuto
import Derived.Deep.CutBlock
import Derived.Deep.RegionHeld3
import Derived.Laws.Rows
import Derived.Lib.AppendStr
import Derived.ArgAppend
import Derived.Laws.IdiomCopy
import Derived.OrdersHeld
import Derived.Laws.BitsLemmas
import Derived.RowKit
import Derived.Shelf.Abstract
import Derived.WalkSpells
import Derived.StillTailTactics
import Derived.Test.YtgkmfgkkmahmoaaDoorShelf
import Derived.Lib.OwnBridge
import Derived.Sort.OwnSorted
import Derived.Lib.ItoaLen
import Derived.Test.YtgkmfgkkmahmoaaDoorWWords
import Derived.Test.YtgkmfgkkmahmoaaDoorWLast
import Derived.Test.YtgkmfgkkmahmoaaDoorWTab
import Derived.Test.YtgkmfgkkmahmoaaDoorWQPut
import Derived.Test.YtgkmfgkkmahmoaaDoorWApart
import Derived.Test.YtgkmfgkkmahmoaaDoorWArr
import Derived.Test.YtgkmfgkkmahmoaaDoorWZeros
import Derived.Test.YtgkmfgkkmahmoaaDoorWFoot
import Derived.Test.YtgkmfgkkmahmoaaDoorWKept
import Derived.Test.YtgkmfgkkmahmoaaDoorWShare
import Derived.Test.YtgkmfgkkmahmoaaDoorWN
import Derived.Test.YtgkmfgkkmahmoaaDoorWRepsOne
import Derived.Test.YtgkmfgkkmahmoaaDoorWGuard
import Derived.Test.YtgkmfgkkmahmoaaDoorWNEv
import Derived.Test.YtgkmfgkkmahmoaaDoorWMore
namespace Go.Proofs.YtgkmfgkkmahmoaaDoor.PFnExactReadBuilding
open Go.RowKit Go.Proofs.YtgkmfgkkmahmoaaDoorW.PrintWords Go.Proofs.YtgkmfgkkmahmoaaDoorW.PrintLast Go.Proofs.YtgkmfgkkmahmoaaDoorW.PrintMore
attribute [local go_sem] max2_int min2_int max_two min_two max_three min_three max_four min_four   -- for this text's walks alone
set_option linter.unusedVariables false
set_option linter.unusedSimpArgs false



def errW : Option Int → Value
 | none => .nilIface
 | some c => .iface 0 (.int .i64 c)
theorem errW_none : errW none = .nilIface := rfl
theorem errW_some (c : Int) : errW (some c) = .iface 0 (.int .i64 c) := rfl

theorem info2 : (Tryd.prog.info? 2).map (fun i => (i.zero, i.size, i.bytes)) = some (some (.int .i64 0), 1, 8) := by kernel_rfl
theorem info9 : (Tryd.prog.info? 9).map (fun i => (i.zero, i.size, i.bytes)) = some (some (.string ⟨#[]⟩), 1, 16) := by kernel_rfl
-- the values' own types
def rd_L2 (xs : List (List Int)) (i : Int) : (List Int) := xs.getD i.toNat ([] : List Int)
theorem at_L2 {w : World} {A : Option Addr} {n : Nat} {xs : List (List Int)} (h : Kd.C (Kd.slice 2 (Kd.int .i64)) w A n xs) (i : Int) (h0 : 0 ≤ i) (h1 : i < n) : ∃ ad A0 c0, A = some ad ∧ w.cell? (ad.add i.toNat) = some (.slice A0 (rd_L2 xs i).length c0) ∧ (rd_L2 xs i).length ≤ c0 ∧ (Kd.int .i64).C w A0 (rd_L2 xs i).length (rd_L2 xs i) := by
 obtain ⟨ad, c, e, _, hK, hc0⟩ := Kd.C_get h ([] : List Int) i h0 h1
 have hc : ∀ j u, c[j]? = some u → w.cell? (ad.add (i.toNat * 1 + j)) = some u := hc0
 obtain ⟨A0, c0, rfl, l0, g0⟩ := hK
 exact ⟨ad, A0, c0, e, by have hq := hc 0 _ rfl; rwa [Nat.mul_one, Nat.add_zero] at hq, l0, g0⟩

/-! #### struct type 51 -/
structure S51 where
 f0 : ByteArray
 f1 : Int
 f2 : Int
 f3 : Int
 f4 : Int
 f5 : (List Int)
def z51 : S51 := ⟨(⟨#[]⟩ : ByteArray), (0 : Int), (0 : Int), (0 : Int), (0 : Int), ([] : List Int)⟩
def k51 : Kd S51 := Kd.iso (Kd.pair Kd.string (Kd.pair (Kd.int .i64) (Kd.pair (Kd.int .i64) (Kd.pair (Kd.int .i64) (Kd.pair (Kd.int .i64) (Kd.slice 2 (Kd.int .i64))))))) (fun x : S51 => (x.f0, x.f1, x.f2, x.f3, x.f4, x.f5))
theorem k51_open {w : World} {x : S51} {cs : List Value} (h : k51.K w x cs) : ∃ A5 c5, cs = [.string x.f0, .int .i64 x.f1, .int .i64 x.f2, .int .i64 x.f3, .int .i64 x.f4, .slice A5 x.f5.length c5] ∧ x.f5.length ≤ c5 ∧ (Kd.int .i64).C w A5 x.f5.length x.f5 := by
 obtain ⟨_, _, rfl, rfl, ⟨_, _, rfl, rfl, ⟨_, _, rfl, rfl, ⟨_, _, rfl, rfl, ⟨_, _, rfl, rfl, ⟨A5, c5, rfl, l5, g5⟩⟩⟩⟩⟩⟩ := h
 exact ⟨A5, c5, rfl, l5, g5⟩
theorem k51_openM {w : World} {base : Nat} {ok : Nat → Prop} {x : S51} {cs : List Value} (h : k51.M w base ok x cs) : ∃ v5, cs = [.string x.f0, .int .i64 x.f1, .int .i64 x.f2, .int .i64 x.f3, .int .i64 x.f4, v5] ∧ (Kd.int .i64).R 2 w base ok v5 x.f5 := by
 obtain ⟨_, _, rfl, rfl, ⟨_, _, rfl, rfl, ⟨_, _, rfl, rfl, ⟨_, _, rfl, rfl, ⟨_, _, rfl, rfl, ⟨v5, rfl, g5⟩⟩⟩⟩⟩⟩ := h
 exact ⟨v5, rfl, g5⟩
theorem k51_mk (w : World) (x : S51) {A5 : Option Addr} {c5 : Nat} (l5 : x.f5.length ≤ c5) (g5 : (Kd.int .i64).C w A5 x.f5.length x.f5) : k51.K w x [.string x.f0, .int .i64 x.f1, .int .i64 x.f2, .int .i64 x.f3, .int .i64 x.f4, .slice A5 x.f5.length c5] := ⟨[.string x.f0], [.int .i64 x.f1, .int .i64 x.f2, .int .i64 x.f3, .int .i64 x.f4, .slice A5 x.f5.length c5], rfl, rfl, ⟨[.int .i64 x.f1], [.int .i64 x.f2, .int .i64 x.f3, .int .i64 x.f4, .slice A5 x.f5.length c5], rfl, rfl, ⟨[.int .i64 x.f2], [.int .i64 x.f3, .int .i64 x.f4, .slice A5 x.f5.length c5], rfl, rfl, ⟨[.int .i64 x.f3], [.int .i64 x.f4, .slice A5 x.f5.length c5], rfl, rfl, ⟨[.int .i64 x.f4], [.slice A5 x.f5.length c5], rfl, rfl, ⟨A5, c5, rfl, l5, g5⟩⟩⟩⟩⟩⟩
theorem k51_mkM (w : World) (base : Nat) (ok : Nat → Prop) (x : S51) {v5 : Value} (g5 : (Kd.int .i64).R 2 w base ok v5 x.f5) : k51.M w base ok x [.string x.f0, .int .i64 x.f1, .int .i64 x.f2, .int .i64 x.f3, .int .i64 x.f4, v5] := ⟨[.string x.f0], [.int .i64 x.f1, .int .i64 x.f2, .int .i64 x.f3, .int .i64 x.f4, v5], rfl, rfl, ⟨[.int .i64 x.f1], [.int .i64 x.f2, .int .i64 x.f3, .int .i64 x.f4, v5], rfl, rfl, ⟨[.int .i64 x.f2], [.int .i64 x.f3, .int .i64 x.f4, v5], rfl, rfl, ⟨[.int .i64 x.f3], [.int .i64 x.f4, v5], rfl, rfl, ⟨[.int .i64 x.f4], [v5], rfl, rfl, ⟨v5, rfl, g5⟩⟩⟩⟩⟩⟩
def rd_T51 (xs : List S51) (i : Int) : S51 := xs.getD i.toNat z51
theorem at_T51 {w : World} {A : Option Addr} {n : Nat} {xs : List S51} (h : Kd.C k51 w A n xs) (i : Int) (h0 : 0 ≤ i) (h1 : i < n) : ∃ ad A5 c5, A = some ad ∧ w.cell? (ad.add (i.toNat * 6)) = some (.string (rd_T51 xs i).f0) ∧ w.cell? ⟨(ad.add (i.toNat * 6)).block, (ad.add (i.toNat * 6)).off + 1, none⟩ = some (.int .i64 (rd_T51 xs i).f1) ∧ w.cell? ⟨(ad.add (i.toNat * 6)).block, (ad.add (i.toNat * 6)).off + 2, none⟩ = some (.int .i64 (rd_T51 xs i).f2) ∧ w.cell? ⟨(ad.add (i.toNat * 6)).block, (ad.add (i.toNat * 6)).off + 3, none⟩ = some (.int .i64 (rd_T51 xs i).f3) ∧ w.cell? ⟨(ad.add (i.toNat * 6)).block, (ad.add (i.toNat * 6)).off + 4, none⟩ = some (.int .i64 (rd_T51 xs i).f4) ∧ w.cell? ⟨(ad.add (i.toNat * 6)).block, (ad.add (i.toNat * 6)).off + 5, none⟩ = some (.slice A5 (rd_T51 xs i).f5.length c5) ∧ (rd_T51 xs i).f5.length ≤ c5 ∧ (Kd.int .i64).C w A5 (rd_T51 xs i).f5.length (rd_T51 xs i).f5 := by
 obtain ⟨ad, c, e, _, hK, hc0⟩ := Kd.C_get h z51 i h0 h1
 have hc : ∀ j u, c[j]? = some u → w.cell? (ad.add (i.toNat * 6 + j)) = some u := hc0
 obtain ⟨A5, c5, rfl, l5, g5⟩ := k51_open hK
 exact ⟨ad, A5, c5, e, hc 0 _ rfl, by rw [← add_field _ _ 1 (by omega)]; exact hc 1 _ rfl, by rw [← add_field _ _ 2 (by omega)]; exact hc 2 _ rfl, by rw [← add_field _ _ 3 (by omega)]; exact hc 3 _ rfl, by rw [← add_field _ _ 4 (by omega)]; exact hc 4 _ rfl, by rw [← add_field _ _ 5 (by omega)]; exact hc 5 _ rfl, l5, g5⟩

def rd_L4 (xs : List (List ByteArray)) (i : Int) : (List ByteArray) := xs.getD i.toNat ([] : List ByteArray)
theorem at_L4 {w : World} {A : Option Addr} {n : Nat} {xs : List (List ByteArray)} (h : Kd.C (Kd.slice 9 Kd.string) w A n xs) (i : Int) (h0 : 0 ≤ i) (h1 : i < n) : ∃ ad A0 c0, A = some ad ∧ w.cell? (ad.add i.toNat) = some (.slice A0 (rd_L4 xs i).length c0) ∧ (rd_L4 xs i).length ≤ c0 ∧ Kd.string.C w A0 (rd_L4 xs i).length (rd_L4 xs i) := by
 obtain ⟨ad, c, e, _, hK, hc0⟩ := Kd.C_get h ([] : List ByteArray) i h0 h1
 have hc : ∀ j u, c[j]? = some u → w.cell? (ad.add (i.toNat * 1 + j)) = some u := hc0
 obtain ⟨A0, c0, rfl, l0, g0⟩ := hK
 exact ⟨ad, A0, c0, e, by have hq := hc 0 _ rfl; rwa [Nat.mul_one, Nat.add_zero] at hq, l0, g0⟩

/-- A struct in a block of its own, read as a row of one element. -/
theorem box_C {α : Type} {d : Kd α} {W : World} {g t : Nat} {cs : List Value} (x : α) (hk : d.K W x cs) (h : W.heap[g]? = some (.cells cs.toArray t (0, 0))) : Kd.C d W (some ⟨g, 0, none⟩) 1 [x] := by
 refine ⟨rfl, by decide, fun _ => ⟨_, rfl, fun j p hj => ?_⟩⟩
 match j, hj with
 | 0, hj =>
  injection hj with hj
  subst hj
  refine ⟨cs, d.K_len hk, hk, fun i u hu => ?_⟩
  have h3 := (blk_cell h i).trans (show cs.toArray[i]? = some u by simpa using hu)
  have e : (⟨g, 0, none⟩ : Addr).add (0 * d.sz + i) = ⟨g, i, none⟩ := by
   rw [Nat.zero_mul, Nat.zero_add]
   cases i with
   | zero => simp [Addr.add]
   | succ i => simp [Addr.add]
  rw [e]
  exact h3
 | j + 1, hj => simp at hj
theorem ep_elem {α : Type} {d : Kd α} {w : World} {n : Nat} {xs : List α} {ad : Addr} (h : Kd.C d w (some ad) n xs) (z : α) (i : Int) (h0 : 0 ≤ i) (h1 : i < n) : Kd.C d w (some (ad.add (i.toNat * d.sz))) 1 [xs.getD i.toNat z] := by
 refine ⟨rfl, by omega, fun _ => ⟨_, rfl, fun j p hj => ?_⟩⟩
 obtain ⟨ad', c, he, hl, hk, hc⟩ := Kd.C_get h z i h0 h1
 injection he with he
 subst he
 match j, hj with
 | 0, hj =>
  injection hj with hj
  subst hj
  refine ⟨c, hl, hk, fun i' u hu => ?_⟩
  have h3 := hc i' u hu
  have e : (ad.add (i.toNat * d.sz)).add (0 * d.sz + i') = ad.add (i.toNat * d.sz + i') := by
   rw [Nat.zero_mul, Nat.zero_add]
   exact Addr.add_add _ _ _
  rw [e]
  exact h3
 | j + 1, hj => simp at hj
theorem far_cells4 {w : World} {g : Nat} {p : Addr} {o0_ o1_ o2_ o3_ : Nat} {v0_ v1_ v2_ v3_ : Value} (h : p.block ≠ g) : ((((w.setCell ⟨g, o0_, none⟩ v0_).setCell ⟨g, o1_, none⟩ v1_).setCell ⟨g, o2_, none⟩ v2_).setCell ⟨g, o3_, none⟩ v3_).cell? p = w.cell? p := ((cell_far (p := ⟨g, o3_, none⟩) h v3_).trans ((cell_far (p := ⟨g, o2_, none⟩) h v2_).trans ((cell_far (p := ⟨g, o1_, none⟩) h v1_).trans (cell_far (p := ⟨g, o0_, none⟩) h v0_))))
theorem far_cells5 {w : World} {g : Nat} {p : Addr} {o0_ o1_ o2_ o3_ o4_ : Nat} {v0_ v1_ v2_ v3_ v4_ : Value} (h : p.block ≠ g) : (((((w.setCell ⟨g, o0_, none⟩ v0_).setCell ⟨g, o1_, none⟩ v1_).setCell ⟨g, o2_, none⟩ v2_).setCell ⟨g, o3_, none⟩ v3_).setCell ⟨g, o4_, none⟩ v4_).cell? p = w.cell? p := ((cell_far (p := ⟨g, o4_, none⟩) h v4_).trans ((cell_far (p := ⟨g, o3_, none⟩) h v3_).trans ((cell_far (p := ⟨g, o2_, none⟩) h v2_).trans ((cell_far (p := ⟨g, o1_, none⟩) h v1_).trans (cell_far (p := ⟨g, o0_, none⟩) h v0_)))))
theorem far_cells6 {w : World} {g : Nat} {p : Addr} {o0_ o1_ o2_ o3_ o4_ o5_ : Nat} {v0_ v1_ v2_ v3_ v4_ v5_ : Value} (h : p.block ≠ g) : ((((((w.setCell ⟨g, o0_, none⟩ v0_).setCell ⟨g, o1_, none⟩ v1_).setCell ⟨g, o2_, none⟩ v2_).setCell ⟨g, o3_, none⟩ v3_).setCell ⟨g, o4_, none⟩ v4_).setCell ⟨g, o5_, none⟩ v5_).cell? p = w.cell? p := ((cell_far (p := ⟨g, o5_, none⟩) h v5_).trans ((cell_far (p := ⟨g, o4_, none⟩) h v4_).trans ((cell_far (p := ⟨g, o3_, none⟩) h v3_).trans ((cell_far (p := ⟨g, o2_, none⟩) h v2_).trans ((cell_far (p := ⟨g, o1_, none⟩) h v1_).trans (cell_far (p := ⟨g, o0_, none⟩) h v0_))))))
theorem far_cells7 {w : World} {g : Nat} {p : Addr} {o0_ o1_ o2_ o3_ o4_ o5_ o6_ : Nat} {v0_ v1_ v2_ v3_ v4_ v5_ v6_ : Value} (h : p.block ≠ g) : (((((((w.setCell ⟨g, o0_, none⟩ v0_).setCell ⟨g, o1_, none⟩ v1_).setCell ⟨g, o2_, none⟩ v2_).setCell ⟨g, o3_, none⟩ v3_).setCell ⟨g, o4_, none⟩ v4_).setCell ⟨g, o5_, none⟩ v5_).setCell ⟨g, o6_, none⟩ v6_).cell? p = w.cell? p := ((cell_far (p := ⟨g, o6_, none⟩) h v6_).trans ((cell_far (p := ⟨g, o5_, none⟩) h v5_).trans ((cell_far (p := ⟨g, o4_, none⟩) h v4_).trans ((cell_far (p := ⟨g, o3_, none⟩) h v3_).trans ((cell_far (p := ⟨g, o2_, none⟩) h v2_).trans ((cell_far (p := ⟨g, o1_, none⟩) h v1_).trans (cell_far (p := ⟨g, o0_, none⟩) h v0_)))))))
theorem far_cells8 {w : World} {g : Nat} {p : Addr} {o0_ o1_ o2_ o3_ o4_ o5_ o6_ o7_ : Nat} {v0_ v1_ v2_ v3_ v4_ v5_ v6_ v7_ : Value} (h : p.block ≠ g) : ((((((((w.setCell ⟨g, o0_, none⟩ v0_).setCell ⟨g, o1_, none⟩ v1_).setCell ⟨g, o2_, none⟩ v2_).setCell ⟨g, o3_, none⟩ v3_).setCell ⟨g, o4_, none⟩ v4_).setCell ⟨g, o5_, none⟩ v5_).setCell ⟨g, o6_, none⟩ v6_).setCell ⟨g, o7_, none⟩ v7_).cell? p = w.cell? p := ((cell_far (p := ⟨g, o7_, none⟩) h v7_).trans ((cell_far (p := ⟨g, o6_, none⟩) h v6_).trans ((cell_far (p := ⟨g, o5_, none⟩) h v5_).trans ((cell_far (p := ⟨g, o4_, none⟩) h v4_).trans ((cell_far (p := ⟨g, o3_, none⟩) h v3_).trans ((cell_far (p := ⟨g, o2_, none⟩) h v2_).trans ((cell_far (p := ⟨g, o1_, none⟩) h v1_).trans (cell_far (p := ⟨g, o0_, none⟩) h v0_))))))))
theorem far_held4 {w : World} {g : Nat} {p : Addr} {u : Option Value} {o0_ o1_ o2_ o3_ : Nat} {v0_ v1_ v2_ v3_ : Value} (h : p.block ≠ g) (hx : w.cell? p = u) : ((((w.setCell ⟨g, o0_, none⟩ v0_).setCell ⟨g, o1_, none⟩ v1_).setCell ⟨g, o2_, none⟩ v2_).setCell ⟨g, o3_, none⟩ v3_).cell? p = u := (far_cells4 h).trans hx
theorem far_held5 {w : World} {g : Nat} {p : Addr} {u : Option Value} {o0_ o1_ o2_ o3_ o4_ : Nat} {v0_ v1_ v2_ v3_ v4_ : Value} (h : p.block ≠ g) (hx : w.cell? p = u) : (((((w.setCell ⟨g, o0_, none⟩ v0_).setCell ⟨g, o1_, none⟩ v1_).setCell ⟨g, o2_, none⟩ v2_).setCell ⟨g, o3_, none⟩ v3_).setCell ⟨g, o4_, none⟩ v4_).cell? p = u := (far_cells5 h).trans hx
theorem far_held6 {w : World} {g : Nat} {p : Addr} {u : Option Value} {o0_ o1_ o2_ o3_ o4_ o5_ : Nat} {v0_ v1_ v2_ v3_ v4_ v5_ : Value} (h : p.block ≠ g) (hx : w.cell? p = u) : ((((((w.setCell ⟨g, o0_, none⟩ v0_).setCell ⟨g, o1_, none⟩ v1_).setCell ⟨g, o2_, none⟩ v2_).setCell ⟨g, o3_, none⟩ v3_).setCell ⟨g, o4_, none⟩ v4_).setCell ⟨g, o5_, none⟩ v5_).cell? p = u := (far_cells6 h).trans hx
theorem far_held7 {w : World} {g : Nat} {p : Addr} {u : Option Value} {o0_ o1_ o2_ o3_ o4_ o5_ o6_ : Nat} {v0_ v1_ v2_ v3_ v4_ v5_ v6_ : Value} (h : p.block ≠ g) (hx : w.cell? p = u) : (((((((w.setCell ⟨g, o0_, none⟩ v0_).setCell ⟨g, o1_, none⟩ v1_).setCell ⟨g, o2_, none⟩ v2_).setCell ⟨g, o3_, none⟩ v3_).setCell ⟨g, o4_, none⟩ v4_).setCell ⟨g, o5_, none⟩ v5_).setCell ⟨g, o6_, none⟩ v6_).cell? p = u := (far_cells7 h).trans hx
theorem far_held8 {w : World} {g : Nat} {p : Addr} {u : Option Value} {o0_ o1_ o2_ o3_ o4_ o5_ o6_ o7_ : Nat} {v0_ v1_ v2_ v3_ v4_ v5_ v6_ v7_ : Value} (h : p.block ≠ g) (hx : w.cell? p = u) : ((((((((w.setCell ⟨g, o0_, none⟩ v0_).setCell ⟨g, o1_, none⟩ v1_).setCell ⟨g, o2_, none⟩ v2_).setCell ⟨g, o3_, none⟩ v3_).setCell ⟨g, o4_, none⟩ v4_).setCell ⟨g, o5_, none⟩ v5_).setCell ⟨g, o6_, none⟩ v6_).setCell ⟨g, o7_, none⟩ v7_).cell? p = u := (far_cells8 h).trans hx
theorem bytesLess_total : ∀ (a b : List UInt8), (Op.bytesLess a b || a == b) = !(Op.bytesLess b a)
 | [], [] => rfl
 | [], y :: ys => by simp [Op.bytesLess]
 | x :: xs, [] => by simp [Op.bytesLess]
 | x :: xs, y :: ys => by
  have ih := bytesLess_total xs ys
  simp only [Op.bytesLess]
  by_cases h : x = y
  ·
   subst h
   simpa using ih
  ·
   have h2 : y ≠ x := fun e => h e.symm
   by_cases h3 : x < y
   ·
    have h4 : ¬ y < x := fun h5 => absurd (UInt8.lt_trans h3 h5) (UInt8.lt_irrefl x)
    simp [h, h2, h3, h4]
   ·
    have h4 : y < x := by
     rcases Nat.lt_trichotomy x.toNat y.toNat with h5 | h5 | h5
     ·
      exact absurd h5 h3
     ·
      exact absurd (UInt8.toNat_inj.1 h5) h
     ·
      exact h5
    simp [h, h2, h3, h4]
@[go_sem] theorem str_geq (t : TypeId) (a b : ByteArray) : binOp .geq t (.string a) (.string b) = pure (.bool !(Op.bytesLess a.toList b.toList)) := by simp [binOp, Op.stringOp]
@[go_sem] theorem str_leq (t : TypeId) (a b : ByteArray) : binOp .leq t (.string a) (.string b) = pure (.bool !(Op.bytesLess b.toList a.toList)) := by
 have h := bytesLess_total a.toList b.toList
 simp [binOp, Op.stringOp]
 exact congrArg (fun z => pure (Value.bool z)) h
@[go_sem] theorem str_gtr (t : TypeId) (a b : ByteArray) : binOp .gtr t (.string a) (.string b) = pure (.bool (Op.bytesLess b.toList a.toList)) := by
 have h := bytesLess_total a.toList b.toList
 have h2 : (!(Op.bytesLess a.toList b.toList || a.toList == b.toList)) = Op.bytesLess b.toList a.toList := by rw [h, Bool.not_not]
 simp [binOp, Op.stringOp]
 exact congrArg (fun z => pure (Value.bool z)) (by simpa using h2)
end Go.Proofs.YtgkmfgkkmahmoaaDoor.PFnExactReadBuilding
