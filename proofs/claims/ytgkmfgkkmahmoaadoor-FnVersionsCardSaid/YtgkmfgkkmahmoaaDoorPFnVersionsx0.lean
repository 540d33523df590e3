-- PRINTED by print.py (a twelfth state) out of the translation. Not trusted: Lean checks it.
import Derived.Test.YtgkmfgkkmahmoaaDoorProg
import Derived.Below
import Derived.Deep.Draws
import Derived.Deep.AppendLies
import Derived.Maps.AppendAt
import Derived.OwnWalk
import Derived.Laws.BytesArg
import Derived.Laws.MakeOwn
import Derived.Laws.OwnMore
import Derived.Deep.OwnRows
import Derived.Tactics
import Derived.Lib.ConvBytes
import Derived.Laws.Slices
import Derived.WalkKit
import Derived.KernelRfl
import Derived.RowKit3
import Derived.Deep.LoopGhost
import Derived.Deep.QuietTactic
import Derived.BigQuiet
import Derived.WideLaws
import Derived.Deep.DeepCutAuto
import Derived.Deep.CutBlock
import Derived.Deep.RegionHeld3
import Derived.Laws.Rows
import Derived.Lib.AppendStr
import Derived.ArgAppend
import Derived.Laws.IdiomCopy
import Derived.OrdersHeld
import Derived.Laws.BitsLemmas
import Derived.RowKit
import Derived.Shelf.Abstract
import Derived.WalkSpells
import Derived.StillTailTactics
import Derived.Test.YtgkmfgkkmahmoaaDoorShelf
import Derived.Lib.OwnBridge
import Derived.Sort.OwnSorted
import Derived.Lib.ItoaLen
import Derived.Laws.CopyOwn
import Derived.Lib.AppendZerosOnto
import Derived.Lib.Overlaps
import Derived.Shelf.RegionOpenPlain
import Derived.Test.YtgkmfgkkmahmoaaDoorVWords
import Derived.Test.YtgkmfgkkmahmoaaDoorVLast
import Derived.Test.YtgkmfgkkmahmoaaDoorVTab
import Derived.Test.YtgkmfgkkmahmoaaDoorVQPut
import Derived.Test.YtgkmfgkkmahmoaaDoorVApart
import Derived.Test.YtgkmfgkkmahmoaaDoorVArr
import Derived.Test.YtgkmfgkkmahmoaaDoorVZeros
import Derived.Test.YtgkmfgkkmahmoaaDoorVFoot
import Derived.Test.YtgkmfgkkmahmoaaDoorVKept
import Derived.Test.YtgkmfgkkmahmoaaDoorVShare
import Derived.Test.YtgkmfgkkmahmoaaDoorVN
import Derived.Test.YtgkmfgkkmahmoaaDoorVEqStruct
import Derived.Test.YtgkmfgkkmahmoaaDoorVRepsOne
import Derived.Test.YtgkmfgkkmahmoaaDoorVGuard
import Derived.Test.YtgkmfgkkmahmoaaDoorVNEv
import Derived.Test.YtgkmfgkkmahmoaaDoorVMore
namespace Go.Proofs.YtgkmfgkkmahmoaaDoor.PFnVersions
open Go.RowKit Go.Proofs.YtgkmfgkkmahmoaaDoorW.PrintWords Go.Proofs.YtgkmfgkkmahmoaaDoorW.PrintLast Go.Proofs.YtgkmfgkkmahmoaaDoorW.PrintMore
attribute [local go_sem] max2_int min2_int max_two min_two max_three min_three max_four min_four   -- for this text's walks alone
set_option linter.unusedVariables false
set_option linter.unusedSimpArgs false



def errW : Option Int → Value
 | none => .nilIface
 | some c => .iface 0 (.int .i64 c)
theorem errW_none : errW none = .nilIface := rfl
theorem errW_some (c : Int) : errW (some c) = .iface 0 (.int .i64 c) := rfl
theorem bB_ {p : Prop} (h : p := by repeat (first | (with_reducible first | exact HB.out | apply below_alloc | apply pw_below_drewN | apply below_drew1) | exact HB.out)) : p := h
theorem bC_ {p q : Prop} (g : q) (h : q → p := by intro h_; repeat (first | (with_reducible first | exact HB.out | apply below_alloc | apply pw_below_drewN | apply below_drew1 | refine below_set ?_ h_) | exact HB.out)) : p := h g
theorem bD_ {p q q' : Prop} (g : q) (g' : q') (h : q → q' → p := by intro h_ h'_; repeat (first | (with_reducible first | exact HB.out | apply below_alloc | apply pw_below_drewN | apply below_drew1 | refine below_set ?_ h_ | refine below_set ?_ h'_) | exact HB.out)) : p := h g g'
theorem bK_ {p q : Prop} (g : q) (h : q → p := by intro h_; (with_reducible repeat (first | refine blk_drewN ?_ _ | refine blk_drew ?_ | refine blk_alloc ?_ _)); exact h_) : p := h g
theorem rA_ {p q : Prop} (g : q) (h : q → p := by intro h_; (with_reducible repeat (first | apply Kd.R_alloc | apply Kd.R_drewN | apply Kd.R_drew)); exact h_) : p := h g
theorem vA_ {p q : Prop} (g : q) (h : q → p := by intro h_; (with_reducible repeat (first | apply Kd.V_alloc | apply Kd.V_drewN | apply Kd.V_drew)); exact h_) : p := h g
theorem sA_ {p q : Prop} (g : q) (h : q → p := by intro h_; (with_reducible repeat (first | apply Kd.S_alloc | apply Kd.S_drewN | apply Kd.S_drew)); exact h_) : p := h g
theorem nA_ {p q : Prop} (g : q) (h : q → p := by intro h_; (with_reducible repeat (first | apply Kd.N_alloc | apply Kd.N_drewN | apply Kd.N_drew)); exact h_) : p := h g
theorem qA_ {p q : Prop} (g : q) (h : q → p := by intro h_; (with_reducible repeat (first | apply Kd.Q_alloc | apply Kd.Q_drewN | apply Kd.Q_drew)); exact h_) : p := h g
theorem mT_ {p : Prop} (h : p := by (try simp only [List.map_toArray, List.map_cons, List.map_nil]); first | done | rfl | (simp only [List.length_drop, List.length_take]; rfl)) : p := h
theorem as_ {p : Prop} (h : p := by first | (with_reducible assumption) | assumption) : p := h
theorem rs_ {p : Prop} (h : p := by first | rfl | (simp; done) | (simp [*]; done)) : p := h
theorem er_ {p : Prop} (h : p := by first | rfl | (simp [errW_none, errW_some] <;> rfl) | (simp [*, errW_none, errW_some] <;> rfl)) : p := h
theorem dr_ {p : Prop} (h : p := by repeat (first | exact Drawn0.refl _ | apply Drawn0.step)) : p := h
theorem cA_ {p q : Prop} (g : q) (h : q → p := by intro h_; repeat (first | exact h_ | (with_reducible refine Kd.C_alloc ?_ _) | (with_reducible refine Kd.C_drewN ?_ _) | (with_reducible refine Kd.C_drew ?_))) : p := h g
theorem cl_ {w w' : World} {a : Addr} {v : Value} (hb : Aside0 (Below w.heap.size w w')) (h : w.cell? a = some v) : w'.cell? a = some v := (hb.out.cell (World.block_lt_of_cell? w _ h)).trans h
theorem q1_ {α : Type} (l : List α) (i : Nat) (a : α) : l.toArray.setIfInBounds i a = (l.set i a).toArray := by simp
theorem q2_ {α : Type} (l : List α) (a b : α) : (a :: l).set 0 b = b :: l := rfl
theorem q3_ {α : Type} (l : List α) (i : Nat) (a b : α) : (a :: l).set (i + 1) b = a :: l.set i b := rfl

theorem info2 : (Tryd.prog.info? 2).map (fun i => (i.zero, i.size, i.bytes)) = some (some (.int .i64 0), 1, 8) := by kernel_rfl
theorem info9 : (Tryd.prog.info? 9).map (fun i => (i.zero, i.size, i.bytes)) = some (some (.string ⟨#[]⟩), 1, 16) := by kernel_rfl
theorem info48 : (Tryd.prog.info? 48).map (fun i => (i.zero, i.size, i.bytes)) = some (some (.agg #[(.int .i64 0), (.int .i64 0), (.string ⟨#[]⟩), (.slice none 0 0)]), 4, 56) := by kernel_rfl
theorem info96 : (Tryd.prog.info? 96).map (fun i => (i.zero, i.size, i.bytes)) = some (some (.agg #[(.string ⟨#[]⟩), (.int .i64 0)]), 2, 24) := by kernel_rfl
theorem info100 : (Tryd.prog.info? 100).map (fun i => (i.zero, i.size, i.bytes)) = some (some (.agg #[(.int .i64 0), (.string ⟨#[]⟩), (.int .i64 0)]), 3, 32) := by kernel_rfl
-- the values' own types
/-! #### struct type 96 -/
structure S96 where
 f0 : ByteArray
 f1 : Int
def z96 : S96 := ⟨(⟨#[]⟩ : ByteArray), (0 : Int)⟩
def k96 : Kd S96 := Kd.iso (Kd.pair Kd.string (Kd.int .i64)) (fun x : S96 => (x.f0, x.f1))
theorem k96_heap : Kd.Heap k96 := Kd.heap_iso _ (Kd.heap_pair Kd.heap_string (Kd.heap_int .i64))
theorem k96_open {w : World} {x : S96} {cs : List Value} (h : k96.K w x cs) : cs = [.string x.f0, .int .i64 x.f1] := by
 obtain ⟨_, _, rfl, rfl, rfl⟩ := h
 exact rfl
theorem k96_openM {w : World} {base : Nat} {ok : Nat → Prop} {x : S96} {cs : List Value} (h : k96.M w base ok x cs) : cs = [.string x.f0, .int .i64 x.f1] := by
 obtain ⟨_, _, rfl, rfl, rfl⟩ := h
 exact rfl
theorem k96_mk (w : World) (x : S96)  : k96.K w x [.string x.f0, .int .i64 x.f1] := ⟨[.string x.f0], [.int .i64 x.f1], rfl, rfl, rfl⟩
theorem k96_mkM (w : World) (base : Nat) (ok : Nat → Prop) (x : S96)  : k96.M w base ok x [.string x.f0, .int .i64 x.f1] := ⟨[.string x.f0], [.int .i64 x.f1], rfl, rfl, rfl⟩
theorem k96_mkF (W : World) (ok : Nat → Prop) (x : S96) : Kd.FK k96 W ok x [.string x.f0, .int .i64 x.f1] := fun W2 _ => k96_mk W2 x
def rd_T96 (xs : List S96) (i : Int) : S96 := xs.getD i.toNat z96
theorem at_T96 {w : World} {A : Option Addr} {n : Nat} {xs : List S96} (h : Kd.C k96 w A n xs) (i : Int) (h0 : 0 ≤ i) (h1 : i < n) : ∃ ad , A = some ad ∧ w.cell? (ad.add (i.toNat * 2)) = some (.string (rd_T96 xs i).f0) ∧ w.cell? ⟨(ad.add (i.toNat * 2)).block, (ad.add (i.toNat * 2)).off + 1, none⟩ = some (.int .i64 (rd_T96 xs i).f1) := by
 obtain ⟨ad, c, e, _, hK, hc0⟩ := Kd.C_get h z96 i h0 h1
 have hc : ∀ j u, c[j]? = some u → w.cell? (ad.add (i.toNat * 2 + j)) = some u := hc0
 obtain rfl := k96_open hK
 exact ⟨ad, e, hc 0 _ rfl, by rw [← add_field _ _ 1 (by omega)]; exact hc 1 _ rfl⟩

def rd_L4 (xs : List (List S96)) (i : Int) : (List S96) := xs.getD i.toNat ([] : List S96)
theorem at_L4 {w : World} {A : Option Addr} {n : Nat} {xs : List (List S96)} (h : Kd.C (Kd.slice 96 k96) w A n xs) (i : Int) (h0 : 0 ≤ i) (h1 : i < n) : ∃ ad A0 c0, A = some ad ∧ w.cell? (ad.add i.toNat) = some (.slice A0 (rd_L4 xs i).length c0) ∧ (rd_L4 xs i).length ≤ c0 ∧ k96.C w A0 (rd_L4 xs i).length (rd_L4 xs i) := by
 obtain ⟨ad, c, e, _, hK, hc0⟩ := Kd.C_get h ([] : List S96) i h0 h1
 have hc : ∀ j u, c[j]? = some u → w.cell? (ad.add (i.toNat * 1 + j)) = some u := hc0
 obtain ⟨A0, c0, rfl, l0, g0⟩ := hK
 exact ⟨ad, A0, c0, e, by have hq := hc 0 _ rfl; rwa [Nat.mul_one, Nat.add_zero] at hq, l0, g0⟩

/-! #### struct type 48 -/
structure S48 where
 f0 : Int
 f1 : Int
 f2 : ByteArray
 f3 : (List S96)
def z48 : S48 := ⟨(0 : Int), (0 : Int), (⟨#[]⟩ : ByteArray), ([] : List S96)⟩
def k48 : Kd S48 := Kd.iso (Kd.pair (Kd.int .i64) (Kd.pair (Kd.int .i64) (Kd.pair Kd.string (Kd.slice 96 k96)))) (fun x : S48 => (x.f0, x.f1, x.f2, x.f3))
theorem k48_heap : Kd.Heap k48 := Kd.heap_iso _ (Kd.heap_pair (Kd.heap_int .i64) (Kd.heap_pair (Kd.heap_int .i64) (Kd.heap_pair Kd.heap_string (Kd.heap_slice 96 k96_heap))))
theorem k48_open {w : World} {x : S48} {cs : List Value} (h : k48.K w x cs) : ∃ A3 c3, cs = [.int .i64 x.f0, .int .i64 x.f1, .string x.f2, .slice A3 x.f3.length c3] ∧ x.f3.length ≤ c3 ∧ k96.C w A3 x.f3.length x.f3 := by
 obtain ⟨_, _, rfl, rfl, ⟨_, _, rfl, rfl, ⟨_, _, rfl, rfl, ⟨A3, c3, rfl, l3, g3⟩⟩⟩⟩ := h
 exact ⟨A3, c3, rfl, l3, g3⟩
theorem k48_openM {w : World} {base : Nat} {ok : Nat → Prop} {x : S48} {cs : List Value} (h : k48.M w base ok x cs) : ∃ v3, cs = [.int .i64 x.f0, .int .i64 x.f1, .string x.f2, v3] ∧ k96.R 96 w base ok v3 x.f3 := by
 obtain ⟨_, _, rfl, rfl, ⟨_, _, rfl, rfl, ⟨_, _, rfl, rfl, ⟨v3, rfl, g3⟩⟩⟩⟩ := h
 exact ⟨v3, rfl, g3⟩
theorem k48_mk (w : World) (x : S48) {A3 : Option Addr} {c3 : Nat} (l3 : x.f3.length ≤ c3) (g3 : k96.C w A3 x.f3.length x.f3) : k48.K w x [.int .i64 x.f0, .int .i64 x.f1, .string x.f2, .slice A3 x.f3.length c3] := ⟨[.int .i64 x.f0], [.int .i64 x.f1, .string x.f2, .slice A3 x.f3.length c3], rfl, rfl, ⟨[.int .i64 x.f1], [.string x.f2, .slice A3 x.f3.length c3], rfl, rfl, ⟨[.string x.f2], [.slice A3 x.f3.length c3], rfl, rfl, ⟨A3, c3, rfl, l3, g3⟩⟩⟩⟩
theorem k48_mkM (w : World) (base : Nat) (ok : Nat → Prop) (x : S48) {v3 : Value} (g3 : k96.R 96 w base ok v3 x.f3) : k48.M w base ok x [.int .i64 x.f0, .int .i64 x.f1, .string x.f2, v3] := ⟨[.int .i64 x.f0], [.int .i64 x.f1, .string x.f2, v3], rfl, rfl, ⟨[.int .i64 x.f1], [.string x.f2, v3], rfl, rfl, ⟨[.string x.f2], [v3], rfl, rfl, ⟨v3, rfl, g3⟩⟩⟩⟩
theorem k48_openF {W : World} {ok : Nat → Prop} {x : S48} {cs : List Value} (h : Kd.FK k48 W ok x cs) : ∃ A3 c3, cs = [.int .i64 x.f0, .int .i64 x.f1, .string x.f2, .slice A3 x.f3.length c3] ∧ x.f3.length ≤ c3 ∧ Kd.F k96 W ok A3 x.f3.length x.f3 := by
 obtain ⟨A3, c3, rfl, l3, _⟩ := k48_open (Kd.FK_now h)
 exact ⟨A3, c3, rfl, l3, (fun W' hW => by obtain ⟨A3_, c3_, he, l3_, g3_⟩ := k48_open (h W' hW); injection (Option.some.inj (show some (Value.slice A3 x.f3.length c3) = some (Value.slice A3_ x.f3.length c3_) from congrArg (fun l => l[3]?) he)) with ha_ _ _; rw [ha_]; exact g3_)⟩
theorem k48_mkF (W : World) (ok : Nat → Prop) (x : S48) {A3 : Option Addr} {c3 : Nat} (l3 : x.f3.length ≤ c3) (g3 : Kd.F k96 W ok A3 x.f3.length x.f3) : Kd.FK k48 W ok x [.int .i64 x.f0, .int .i64 x.f1, .string x.f2, .slice A3 x.f3.length c3] := fun W2 hW => k48_mk W2 x l3 (g3 W2 hW)
def rd_T48 (xs : List S48) (i : Int) : S48 := xs.getD i.toNat z48
theorem at_T48 {w : World} {A : Option Addr} {n : Nat} {xs : List S48} (h : Kd.C k48 w A n xs) (i : Int) (h0 : 0 ≤ i) (h1 : i < n) : ∃ ad A3 c3, A = some ad ∧ w.cell? (ad.add (i.toNat * 4)) = some (.int .i64 (rd_T48 xs i).f0) ∧ w.cell? ⟨(ad.add (i.toNat * 4)).block, (ad.add (i.toNat * 4)).off + 1, none⟩ = some (.int .i64 (rd_T48 xs i).f1) ∧ w.cell? ⟨(ad.add (i.toNat * 4)).block, (ad.add (i.toNat * 4)).off + 2, none⟩ = some (.string (rd_T48 xs i).f2) ∧ w.cell? ⟨(ad.add (i.toNat * 4)).block, (ad.add (i.toNat * 4)).off + 3, none⟩ = some (.slice A3 (rd_T48 xs i).f3.length c3) ∧ (rd_T48 xs i).f3.length ≤ c3 ∧ k96.C w A3 (rd_T48 xs i).f3.length (rd_T48 xs i).f3 := by
 obtain ⟨ad, c, e, _, hK, hc0⟩ := Kd.C_get h z48 i h0 h1
 have hc : ∀ j u, c[j]? = some u → w.cell? (ad.add (i.toNat * 4 + j)) = some u := hc0
 obtain ⟨A3, c3, rfl, l3, g3⟩ := k48_open hK
 exact ⟨ad, A3, c3, e, hc 0 _ rfl, by rw [← add_field _ _ 1 (by omega)]; exact hc 1 _ rfl, by rw [← add_field _ _ 2 (by omega)]; exact hc 2 _ rfl, by rw [← add_field _ _ 3 (by omega)]; exact hc 3 _ rfl, l3, g3⟩

/-! #### struct type 100 -/
structure S100 where
 f0 : Int
 f1 : S96
def z100 : S100 := ⟨(0 : Int), z96⟩
def k100 : Kd S100 := Kd.iso (Kd.pair (Kd.int .i64) k96) (fun x : S100 => (x.f0, x.f1))
theorem k100_heap : Kd.Heap k100 := Kd.heap_iso _ (Kd.heap_pair (Kd.heap_int .i64) k96_heap)
theorem k100_open {w : World} {x : S100} {cs : List Value} (h : k100.K w x cs) : cs = [.int .i64 x.f0, .string x.f1.f0, .int .i64 x.f1.f1] := by
 obtain ⟨_, _, rfl, rfl, s1⟩ := h
 obtain rfl := k96_open s1
 exact rfl
theorem k100_openM {w : World} {base : Nat} {ok : Nat → Prop} {x : S100} {cs : List Value} (h : k100.M w base ok x cs) : cs = [.int .i64 x.f0, .string x.f1.f0, .int .i64 x.f1.f1] := by
 obtain ⟨_, _, rfl, rfl, s1⟩ := h
 obtain rfl := k96_openM s1
 exact rfl
theorem k100_mk (w : World) (x : S100)  : k100.K w x [.int .i64 x.f0, .string x.f1.f0, .int .i64 x.f1.f1] := ⟨[.int .i64 x.f0], [.string x.f1.f0, .int .i64 x.f1.f1], rfl, rfl, (k96_mk w x.f1 )⟩
theorem k100_mkM (w : World) (base : Nat) (ok : Nat → Prop) (x : S100)  : k100.M w base ok x [.int .i64 x.f0, .string x.f1.f0, .int .i64 x.f1.f1] := ⟨[.int .i64 x.f0], [.string x.f1.f0, .int .i64 x.f1.f1], rfl, rfl, (k96_mkM w base ok x.f1 )⟩
theorem k100_mkF (W : World) (ok : Nat → Prop) (x : S100) : Kd.FK k100 W ok x [.int .i64 x.f0, .string x.f1.f0, .int .i64 x.f1.f1] := fun W2 _ => k100_mk W2 x
def rd_T100 (xs : List S100) (i : Int) : S100 := xs.getD i.toNat z100
theorem at_T100 {w : World} {A : Option Addr} {n : Nat} {xs : List S100} (h : Kd.C k100 w A n xs) (i : Int) (h0 : 0 ≤ i) (h1 : i < n) : ∃ ad , A = some ad ∧ w.cell? (ad.add (i.toNat * 3)) = some (.int .i64 (rd_T100 xs i).f0) ∧ w.cell? ⟨(ad.add (i.toNat * 3)).block, (ad.add (i.toNat * 3)).off + 1, none⟩ = some (.string (rd_T100 xs i).f1.f0) ∧ w.cell? ⟨(ad.add (i.toNat * 3)).block, (ad.add (i.toNat * 3)).off + 2, none⟩ = some (.int .i64 (rd_T100 xs i).f1.f1) := by
 obtain ⟨ad, c, e, _, hK, hc0⟩ := Kd.C_get h z100 i h0 h1
 have hc : ∀ j u, c[j]? = some u → w.cell? (ad.add (i.toNat * 3 + j)) = some u := hc0
 obtain rfl := k100_open hK
 exact ⟨ad, e, hc 0 _ rfl, by rw [← add_field _ _ 1 (by omega)]; exact hc 1 _ rfl, by rw [← add_field _ _ 2 (by omega)]; exact hc 2 _ rfl⟩

def rd_L8 (xs : List (List S100)) (i : Int) : (List S100) := xs.getD i.toNat ([] : List S100)
theorem at_L8 {w : World} {A : Option Addr} {n : Nat} {xs : List (List S100)} (h : Kd.C (Kd.slice 100 k100) w A n xs) (i : Int) (h0 : 0 ≤ i) (h1 : i < n) : ∃ ad A0 c0, A = some ad ∧ w.cell? (ad.add i.toNat) = some (.slice A0 (rd_L8 xs i).length c0) ∧ (rd_L8 xs i).length ≤ c0 ∧ k100.C w A0 (rd_L8 xs i).length (rd_L8 xs i) := by
 obtain ⟨ad, c, e, _, hK, hc0⟩ := Kd.C_get h ([] : List S100) i h0 h1
 have hc : ∀ j u, c[j]? = some u → w.cell? (ad.add (i.toNat * 1 + j)) = some u := hc0
 obtain ⟨A0, c0, rfl, l0, g0⟩ := hK
 exact ⟨ad, A0, c0, e, by have hq := hc 0 _ rfl; rwa [Nat.mul_one, Nat.add_zero] at hq, l0, g0⟩

def rd_L9 (xs : List (List S48)) (i : Int) : (List S48) := xs.getD i.toNat ([] : List S48)
theorem at_L9 {w : World} {A : Option Addr} {n : Nat} {xs : List (List S48)} (h : Kd.C (Kd.slice 48 k48) w A n xs) (i : Int) (h0 : 0 ≤ i) (h1 : i < n) : ∃ ad A0 c0, A = some ad ∧ w.cell? (ad.add i.toNat) = some (.slice A0 (rd_L9 xs i).length c0) ∧ (rd_L9 xs i).length ≤ c0 ∧ k48.C w A0 (rd_L9 xs i).length (rd_L9 xs i) := by
 obtain ⟨ad, c, e, _, hK, hc0⟩ := Kd.C_get h ([] : List S48) i h0 h1
 have hc : ∀ j u, c[j]? = some u → w.cell? (ad.add (i.toNat * 1 + j)) = some u := hc0
 obtain ⟨A0, c0, rfl, l0, g0⟩ := hK
 exact ⟨ad, A0, c0, e, by have hq := hc 0 _ rfl; rwa [Nat.mul_one, Nat.add_zero] at hq, l0, g0⟩

def rd_L10 (xs : List (List Int)) (i : Int) : (List Int) := xs.getD i.toNat ([] : List Int)
theorem at_L10 {w : World} {A : Option Addr} {n : Nat} {xs : List (List Int)} (h : Kd.C (Kd.slice 2 (Kd.int .i64)) w A n xs) (i : Int) (h0 : 0 ≤ i) (h1 : i < n) : ∃ ad A0 c0, A = some ad ∧ w.cell? (ad.add i.toNat) = some (.slice A0 (rd_L10 xs i).length c0) ∧ (rd_L10 xs i).length ≤ c0 ∧ (Kd.int .i64).C w A0 (rd_L10 xs i).length (rd_L10 xs i) := by
 obtain ⟨ad, c, e, _, hK, hc0⟩ := Kd.C_get h ([] : List Int) i h0 h1
 have hc : ∀ j u, c[j]? = some u → w.cell? (ad.add (i.toNat * 1 + j)) = some u := hc0
 obtain ⟨A0, c0, rfl, l0, g0⟩ := hK
 exact ⟨ad, A0, c0, e, by have hq := hc 0 _ rfl; rwa [Nat.mul_one, Nat.add_zero] at hq, l0, g0⟩

/-- A struct in a block of its own, read as a row of one element. -/
theorem box_C {α : Type} {d : Kd α} {W : World} {g t : Nat} {cs : List Value} (x : α) (hk : d.K W x cs) (h : W.heap[g]? = some (.cells cs.toArray t (0, 0))) : Kd.C d W (some ⟨g, 0, none⟩) 1 [x] := by
 refine ⟨rfl, by decide, fun _ => ⟨_, rfl, fun j p hj => ?_⟩⟩
 match j, hj with
 | 0, hj =>
  injection hj with hj
  subst hj
  refine ⟨cs, d.K_len hk, hk, fun i u hu => ?_⟩
  have h3 := (blk_cell h i).trans (show cs.toArray[i]? = some u by simpa using hu)
  have e : (⟨g, 0, none⟩ : Addr).add (0 * d.sz + i) = ⟨g, i, none⟩ := by
   rw [Nat.zero_mul, Nat.zero_add]
   cases i with
   | zero => simp [Addr.add]
   | succ i => simp [Addr.add]
  rw [e]
  exact h3
 | j + 1, hj => simp at hj
theorem ep_elem {α : Type} {d : Kd α} {w : World} {n : Nat} {xs : List α} {ad : Addr} (h : Kd.C d w (some ad) n xs) (z : α) (i : Int) (h0 : 0 ≤ i) (h1 : i < n) : Kd.C d w (some (ad.add (i.toNat * d.sz))) 1 [xs.getD i.toNat z] := by
 refine ⟨rfl, by omega, fun _ => ⟨_, rfl, fun j p hj => ?_⟩⟩
 obtain ⟨ad', c, he, hl, hk, hc⟩ := Kd.C_get h z i h0 h1
 injection he with he
 subst he
 match j, hj with
 | 0, hj =>
  injection hj with hj
  subst hj
  refine ⟨c, hl, hk, fun i' u hu => ?_⟩
  have h3 := hc i' u hu
  have e : (ad.add (i.toNat * d.sz)).add (0 * d.sz + i') = ad.add (i.toNat * d.sz + i') := by
   rw [Nat.zero_mul, Nat.zero_add]
   exact Addr.add_add _ _ _
  rw [e]
  exact h3
 | j + 1, hj => simp at hj
theorem far_cells4 {w : World} {g : Nat} {p : Addr} {o0_ o1_ o2_ o3_ : Nat} {v0_ v1_ v2_ v3_ : Value} (h : p.block ≠ g) : ((((w.setCell ⟨g, o0_, none⟩ v0_).setCell ⟨g, o1_, none⟩ v1_).setCell ⟨g, o2_, none⟩ v2_).setCell ⟨g, o3_, none⟩ v3_).cell? p = w.cell? p := ((cell_far (p := ⟨g, o3_, none⟩) h v3_).trans ((cell_far (p := ⟨g, o2_, none⟩) h v2_).trans ((cell_far (p := ⟨g, o1_, none⟩) h v1_).trans (cell_far (p := ⟨g, o0_, none⟩) h v0_))))
theorem far_cells5 {w : World} {g : Nat} {p : Addr} {o0_ o1_ o2_ o3_ o4_ : Nat} {v0_ v1_ v2_ v3_ v4_ : Value} (h : p.block ≠ g) : (((((w.setCell ⟨g, o0_, none⟩ v0_).setCell ⟨g, o1_, none⟩ v1_).setCell ⟨g, o2_, none⟩ v2_).setCell ⟨g, o3_, none⟩ v3_).setCell ⟨g, o4_, none⟩ v4_).cell? p = w.cell? p := ((cell_far (p := ⟨g, o4_, none⟩) h v4_).trans ((cell_far (p := ⟨g, o3_, none⟩) h v3_).trans ((cell_far (p := ⟨g, o2_, none⟩) h v2_).trans ((cell_far (p := ⟨g, o1_, none⟩) h v1_).trans (cell_far (p := ⟨g, o0_, none⟩) h v0_)))))
theorem far_cells6 {w : World} {g : Nat} {p : Addr} {o0_ o1_ o2_ o3_ o4_ o5_ : Nat} {v0_ v1_ v2_ v3_ v4_ v5_ : Value} (h : p.block ≠ g) : ((((((w.setCell ⟨g, o0_, none⟩ v0_).setCell ⟨g, o1_, none⟩ v1_).setCell ⟨g, o2_, none⟩ v2_).setCell ⟨g, o3_, none⟩ v3_).setCell ⟨g, o4_, none⟩ v4_).setCell ⟨g, o5_, none⟩ v5_).cell? p = w.cell? p := ((cell_far (p := ⟨g, o5_, none⟩) h v5_).trans ((cell_far (p := ⟨g, o4_, none⟩) h v4_).trans ((cell_far (p := ⟨g, o3_, none⟩) h v3_).trans ((cell_far (p := ⟨g, o2_, none⟩) h v2_).trans ((cell_far (p := ⟨g, o1_, none⟩) h v1_).trans (cell_far (p := ⟨g, o0_, none⟩) h v0_))))))
theorem far_cells7 {w : World} {g : Nat} {p : Addr} {o0_ o1_ o2_ o3_ o4_ o5_ o6_ : Nat} {v0_ v1_ v2_ v3_ v4_ v5_ v6_ : Value} (h : p.block ≠ g) : (((((((w.setCell ⟨g, o0_, none⟩ v0_).setCell ⟨g, o1_, none⟩ v1_).setCell ⟨g, o2_, none⟩ v2_).setCell ⟨g, o3_, none⟩ v3_).setCell ⟨g, o4_, none⟩ v4_).setCell ⟨g, o5_, none⟩ v5_).setCell ⟨g, o6_, none⟩ v6_).cell? p = w.cell? p := ((cell_far (p := ⟨g, o6_, none⟩) h v6_).trans ((cell_far (p := ⟨g, o5_, none⟩) h v5_).trans ((cell_far (p := ⟨g, o4_, none⟩) h v4_).trans ((cell_far (p := ⟨g, o3_, none⟩) h v3_).trans ((cell_far (p := ⟨g, o2_, none⟩) h v2_).trans ((cell_far (p := ⟨g, o1_, none⟩) h v1_).trans (cell_far (p := ⟨g, o0_, none⟩) h v0_)))))))
theorem far_cells8 {w : World} {g : Nat} {p : Addr} {o0_ o1_ o2_ o3_ o4_ o5_ o6_ o7_ : Nat} {v0_ v1_ v2_ v3_ v4_ v5_ v6_ v7_ : Value} (h : p.block ≠ g) : ((((((((w.setCell ⟨g, o0_, none⟩ v0_).setCell ⟨g, o1_, none⟩ v1_).setCell ⟨g, o2_, none⟩ v2_).setCell ⟨g, o3_, none⟩ v3_).setCell ⟨g, o4_, none⟩ v4_).setCell ⟨g, o5_, none⟩ v5_).setCell ⟨g, o6_, none⟩ v6_).setCell ⟨g, o7_, none⟩ v7_).cell? p = w.cell? p := ((cell_far (p := ⟨g, o7_, none⟩) h v7_).trans ((cell_far (p := ⟨g, o6_, none⟩) h v6_).trans ((cell_far (p := ⟨g, o5_, none⟩) h v5_).trans ((cell_far (p := ⟨g, o4_, none⟩) h v4_).trans ((cell_far (p := ⟨g, o3_, none⟩) h v3_).trans ((cell_far (p := ⟨g, o2_, none⟩) h v2_).trans ((cell_far (p := ⟨g, o1_, none⟩) h v1_).trans (cell_far (p := ⟨g, o0_, none⟩) h v0_))))))))
theorem far_held4 {w : World} {g : Nat} {p : Addr} {u : Option Value} {o0_ o1_ o2_ o3_ : Nat} {v0_ v1_ v2_ v3_ : Value} (h : p.block ≠ g) (hx : w.cell? p = u) : ((((w.setCell ⟨g, o0_, none⟩ v0_).setCell ⟨g, o1_, none⟩ v1_).setCell ⟨g, o2_, none⟩ v2_).setCell ⟨g, o3_, none⟩ v3_).cell? p = u := (far_cells4 h).trans hx
theorem far_held5 {w : World} {g : Nat} {p : Addr} {u : Option Value} {o0_ o1_ o2_ o3_ o4_ : Nat} {v0_ v1_ v2_ v3_ v4_ : Value} (h : p.block ≠ g) (hx : w.cell? p = u) : (((((w.setCell ⟨g, o0_, none⟩ v0_).setCell ⟨g, o1_, none⟩ v1_).setCell ⟨g, o2_, none⟩ v2_).setCell ⟨g, o3_, none⟩ v3_).setCell ⟨g, o4_, none⟩ v4_).cell? p = u := (far_cells5 h).trans hx
theorem far_held6 {w : World} {g : Nat} {p : Addr} {u : Option Value} {o0_ o1_ o2_ o3_ o4_ o5_ : Nat} {v0_ v1_ v2_ v3_ v4_ v5_ : Value} (h : p.block ≠ g) (hx : w.cell? p = u) : ((((((w.setCell ⟨g, o0_, none⟩ v0_).setCell ⟨g, o1_, none⟩ v1_).setCell ⟨g, o2_, none⟩ v2_).setCell ⟨g, o3_, none⟩ v3_).setCell ⟨g, o4_, none⟩ v4_).setCell ⟨g, o5_, none⟩ v5_).cell? p = u := (far_cells6 h).trans hx
theorem far_held7 {w : World} {g : Nat} {p : Addr} {u : Option Value} {o0_ o1_ o2_ o3_ o4_ o5_ o6_ : Nat} {v0_ v1_ v2_ v3_ v4_ v5_ v6_ : Value} (h : p.block ≠ g) (hx : w.cell? p = u) : (((((((w.setCell ⟨g, o0_, none⟩ v0_).setCell ⟨g, o1_, none⟩ v1_).setCell ⟨g, o2_, none⟩ v2_).setCell ⟨g, o3_, none⟩ v3_).setCell ⟨g, o4_, none⟩ v4_).setCell ⟨g, o5_, none⟩ v5_).setCell ⟨g, o6_, none⟩ v6_).cell? p = u := (far_cells7 h).trans hx
theorem far_held8 {w : World} {g : Nat} {p : Addr} {u : Option Value} {o0_ o1_ o2_ o3_ o4_ o5_ o6_ o7_ : Nat} {v0_ v1_ v2_ v3_ v4_ v5_ v6_ v7_ : Value} (h : p.block ≠ g) (hx : w.cell? p = u) : ((((((((w.setCell ⟨g, o0_, none⟩ v0_).setCell ⟨g, o1_, none⟩ v1_).setCell ⟨g, o2_, none⟩ v2_).setCell ⟨g, o3_, none⟩ v3_).setCell ⟨g, o4_, none⟩ v4_).setCell ⟨g, o5_, none⟩ v5_).setCell ⟨g, o6_, none⟩ v6_).setCell ⟨g, o7_, none⟩ v7_).cell? p = u := (far_cells8 h).trans hx
theorem bytesLess_total : ∀ (a b : List UInt8), (Op.bytesLess a b || a == b) = !(Op.bytesLess b a)
 | [], [] => rfl
 | [], y :: ys => by simp [Op.bytesLess]
 | x :: xs, [] => by simp [Op.bytesLess]
 | x :: xs, y :: ys => by
  have ih := bytesLess_total xs ys
  simp only [Op.bytesLess]
  by_cases h : x = y
  ·
   subst h
   simpa using ih
  ·
   have h2 : y ≠ x := fun e => h e.symm
   by_cases h3 : x < y
   ·
    have h4 : ¬ y < x := fun h5 => absurd (UInt8.lt_trans h3 h5) (UInt8.lt_irrefl x)
    simp [h, h2, h3, h4]
   ·
    have h4 : y < x := by
     rcases Nat.lt_trichotomy x.toNat y.toNat with h5 | h5 | h5
     ·
      exact absurd h5 h3
     ·
      exact absurd (UInt8.toNat_inj.1 h5) h
     ·
      exact h5
    simp [h, h2, h3, h4]
@[go_sem] theorem str_geq (t : TypeId) (a b : ByteArray) : binOp .geq t (.string a) (.string b) = pure (.bool !(Op.bytesLess a.toList b.toList)) := by simp [binOp, Op.stringOp]
@[go_sem] theorem str_leq (t : TypeId) (a b : ByteArray) : binOp .leq t (.string a) (.string b) = pure (.bool !(Op.bytesLess b.toList a.toList)) := by
 have h := bytesLess_total a.toList b.toList
 simp [binOp, Op.stringOp]
 exact congrArg (fun z => pure (Value.bool z)) h
@[go_sem] theorem str_gtr (t : TypeId) (a b : ByteArray) : binOp .gtr t (.string a) (.string b) = pure (.bool (Op.bytesLess b.toList a.toList)) := by
 have h := bytesLess_total a.toList b.toList
 have h2 : (!(Op.bytesLess a.toList b.toList || a.toList == b.toList)) = Op.bytesLess b.toList a.toList := by rw [h, Bool.not_not]
 simp [binOp, Op.stringOp]
 exact congrArg (fun z => pure (Value.bool z)) (by simpa using h2)
end Go.Proofs.YtgkmfgkkmahmoaaDoor.PFnVersions
