-- PRINTED by print.py (a twelfth state) out of the translation. Not trusted: Lean checks it.
import Derived.Test.YtdbocilpcknlhaaDoorPFnExactReadUnitx0
import Derived.Test.YtdbocilpcknlhaaDoorPFnExactReadUnitx4
import Derived.Test.YtdbocilpcknlhaaDoorPFnExactReadUnitx5
namespace Go.Proofs.YtdbocilpcknlhaaDoor.PFnExactReadUnit
open Go.RowKit Go.Proofs.YtdbocilpcknlhaaDoorW.PrintWords Go.Proofs.YtdbocilpcknlhaaDoorW.PrintLast Go.Proofs.YtdbocilpcknlhaaDoorW.PrintMore
attribute [local go_sem] max2_int min2_int max_two min_two max_three min_three max_four min_four   -- for this text's walks alone
set_option linter.unusedVariables false
set_option linter.unusedSimpArgs false

/-! ### impl_ReadUnit: function 45 -/
def impl_ReadUnit.f (k : Nat) (a0 : ByteArray) : Option (ByteArray × Int × Int × Int × Int × Int × Int × Bool) := (impl_readWithId.f k a0 6).bind fun bt189 => (if 0 < (bt189.2.1.length : Int) then (if 1 < (bt189.2.1.length : Int) then (if 2 < (bt189.2.1.length : Int) then (if 3 < (bt189.2.1.length : Int) then (if 4 < (bt189.2.1.length : Int) then (if 5 < (bt189.2.1.length : Int) then (if bt189.2.2 = true then ((impl_UnitText.f k bt189.1 (rd bt189.2.1 0) (rd bt189.2.1 1) (rd bt189.2.1 2) (rd bt189.2.1 3) (rd bt189.2.1 4) (rd bt189.2.1 5)).bind fun t201 => (if t201.toList = a0.toList then (some (bt189.1, rd bt189.2.1 0, rd bt189.2.1 1, rd bt189.2.1 2, rd bt189.2.1 3, rd bt189.2.1 4, rd bt189.2.1 5, true)) else (some ((⟨#[]⟩ : ByteArray), 0, 0, 0, 0, 0, 0, false)))) else (some ((⟨#[]⟩ : ByteArray), 0, 0, 0, 0, 0, 0, false))) else (none)) else (none)) else (none)) else (none)) else (none)) else (none))
theorem impl_ReadUnit.mono : ∀ a0 k, LeO (impl_ReadUnit.f k a0) (impl_ReadUnit.f (k + 1) a0) := by
 intro a0 k
 unfold impl_ReadUnit.f
 repeat' first
   | (with_reducible exact impl_UnitText.mono _ _ _ _ _ _ _ _)
   | (with_reducible exact impl_readWithId.mono _ _ _)
   | (with_reducible exact LeO.refl _)
   | (with_reducible exact LeO.none _)
   | (with_reducible refine LeO.ite ?_ ?_)
   | (with_reducible refine LeO.bind ?_ (fun _ => ?_))
   | exact impl_UnitText.mono _ _ _ _ _ _ _ _
   | exact impl_readWithId.mono _ _ _
   | exact LeO.none _
   | refine LeO.ite ?_ ?_
   | refine LeO.bind ?_ (fun _ => ?_)
def impl_ReadUnit.T2 : Bool × List (List Nat × List Nat) := (true, [([], []), ([], []), ([1], [1]), ([2], [2]), ([], []), ([4], [4]), ([5], [5]), ([], []), ([7], [7]), ([8], [8]), ([], []), ([10], [10]), ([11], [11]), ([], []), ([13], [13]), ([14], [14]), ([], []), ([16], [16]), ([17], [17]), ([0, 3, 6, 9, 12, 15, 18], [0, 3, 6, 9, 12, 15, 18]), ([], []), ([20, 19, 0, 1, 2, 3, 4, 5, 6, 7, 8, 9, 10, 11, 12, 13, 14, 15, 16, 17, 18, 19, 20], [19, 20])])
def impl_ReadUnit.B2 : List Nat := [0, 0, 2, 6, 0, 16, 48, 0, 128, 384, 0, 1024, 3072, 0, 8192, 24576, 0, 65536, 196608, 524287, 0, 2097151]
theorem impl_ReadUnit.tab2 : rtab .any (opsOf Tryd.f45 2) = impl_ReadUnit.T2 := by kernel_rfl
theorem impl_ReadUnit.bits2 : waitsOk impl_ReadUnit.T2.2 impl_ReadUnit.B2 = true := by kernel_rfl
set_option maxHeartbeats 8000000 in
set_option maxRecDepth 100000 in
theorem impl_ReadUnit.calls (k : Nat) (a0 : ByteArray) (r1 : ByteArray) (r2 : Int) (r3 : Int) (r4 : Int) (r5 : Int) (r6 : Int) (r7 : Int) (r8 : Bool) (w : World) (ht_ : WOK w) (h : impl_ReadUnit.f k a0 = some (r1, r2, r3, r4, r5, r6, r7, r8)) :
  Calls Tryd.prog 45 #[.string a0] w fun e w' => e = .returned (.tuple #[.agg #[.string r1, .int .i64 r2, .int .i64 r3, .int .i64 r4, .int .i64 r5, .int .i64 r6, .int .i64 r7], .bool r8]) ∧ Below w.heap.size w w' := by
 have HWOK_ := Aside0.mk ht_
 clear ht_
 have hu69 := Tryd.underlying69
 have HB := Aside0.mk (Below.refl w.heap.size w)
 have H : ((impl_readWithId.f k a0 6).bind fun bt189 => (if 0 < (bt189.2.1.length : Int) then (if 1 < (bt189.2.1.length : Int) then (if 2 < (bt189.2.1.length : Int) then (if 3 < (bt189.2.1.length : Int) then (if 4 < (bt189.2.1.length : Int) then (if 5 < (bt189.2.1.length : Int) then (if bt189.2.2 = true then ((impl_UnitText.f k bt189.1 (rd bt189.2.1 0) (rd bt189.2.1 1) (rd bt189.2.1 2) (rd bt189.2.1 3) (rd bt189.2.1 4) (rd bt189.2.1 5)).bind fun t201 => (if t201.toList = a0.toList then (some (bt189.1, rd bt189.2.1 0, rd bt189.2.1 1, rd bt189.2.1 2, rd bt189.2.1 3, rd bt189.2.1 4, rd bt189.2.1 5, true)) else (some ((⟨#[]⟩ : ByteArray), 0, 0, 0, 0, 0, 0, false)))) else (some ((⟨#[]⟩ : ByteArray), 0, 0, 0, 0, 0, 0, false))) else (none)) else (none)) else (none)) else (none)) else (none)) else (none))) = some (r1, r2, r3, r4, r5, r6, r7, r8) := h
 clear h
 replace H := Option.bind_eq_some_iff.mp H
 obtain ⟨⟨t189, t190, t191⟩, A20, H⟩ := H
 replace H : (if 0 < (t190.length : Int) then (if 1 < (t190.length : Int) then (if 2 < (t190.length : Int) then (if 3 < (t190.length : Int) then (if 4 < (t190.length : Int) then (if 5 < (t190.length : Int) then (if t191 = true then ((impl_UnitText.f k t189 (rd t190 0) (rd t190 1) (rd t190 2) (rd t190 3) (rd t190 4) (rd t190 5)).bind fun t201 => (if t201.toList = a0.toList then (some (t189, rd t190 0, rd t190 1, rd t190 2, rd t190 3, rd t190 4, rd t190 5, true)) else (some ((⟨#[]⟩ : ByteArray), 0, 0, 0, 0, 0, 0, false)))) else (some ((⟨#[]⟩ : ByteArray), 0, 0, 0, 0, 0, 0, false))) else (none)) else (none)) else (none)) else (none)) else (none)) else (none)) = some (r1, r2, r3, r4, r5, r6, r7, r8) := H
 have A2 := Aside0.mk A20
 clear A20
 by_cases c3 : 0 < (t190.length : Int)
 ·
  rw [if_pos c3] at H
  have c3b0 : decide (0 < (t190.length : Int)) = true := decide_eq_true c3
  have c3b1 : decide (0 < t190.length) = true := decide_eq_true (by omega)
  clear c3
  by_cases c4 : 1 < (t190.length : Int)
  ·
   rw [if_pos c4] at H
   have c4b0 : decide (1 < (t190.length : Int)) = true := decide_eq_true c4
   have c4b1 : decide (1 < t190.length) = true := decide_eq_true (by omega)
   clear c4
   by_cases c5 : 2 < (t190.length : Int)
   ·
    rw [if_pos c5] at H
    have c5b0 : decide (2 < (t190.length : Int)) = true := decide_eq_true c5
    have c5b1 : decide (2 < t190.length) = true := decide_eq_true (by omega)
    clear c5
    by_cases c6 : 3 < (t190.length : Int)
    ·
     rw [if_pos c6] at H
     have c6b0 : decide (3 < (t190.length : Int)) = true := decide_eq_true c6
     have c6b1 : decide (3 < t190.length) = true := decide_eq_true (by omega)
     clear c6
     by_cases c7 : 4 < (t190.length : Int)
     ·
      rw [if_pos c7] at H
      have c7b0 : decide (4 < (t190.length : Int)) = true := decide_eq_true c7
      have c7b1 : decide (4 < t190.length) = true := decide_eq_true (by omega)
      clear c7
      by_cases c8 : 5 < (t190.length : Int)
      ·
       rw [if_pos c8] at H
       have c8b0 : decide (5 < (t190.length : Int)) = true := decide_eq_true c8
       have c8b1 : decide (5 < t190.length) = true := decide_eq_true (by omega)
       clear c8
       by_cases c9 : t191 = true
       ·
        subst c9
        have H1 : ((impl_UnitText.f k t189 (rd t190 0) (rd t190 1) (rd t190 2) (rd t190 3) (rd t190 4) (rd t190 5)).bind fun t201 => (if t201.toList = a0.toList then (some (t189, rd t190 0, rd t190 1, rd t190 2, rd t190 3, rd t190 4, rd t190 5, true)) else (some ((⟨#[]⟩ : ByteArray), 0, 0, 0, 0, 0, 0, false)))) = some (r1, r2, r3, r4, r5, r6, r7, r8) := by rw [if_pos rfl] at H; exact H
        clear H
        have H := H1
        clear H1
        replace H := Option.bind_eq_some_iff.mp H
        obtain ⟨t201, A100, H⟩ := H
        replace H : (if t201.toList = a0.toList then (some (t189, rd t190 0, rd t190 1, rd t190 2, rd t190 3, rd t190 4, rd t190 5, true)) else (some ((⟨#[]⟩ : ByteArray), 0, 0, 0, 0, 0, 0, false))) = some (r1, r2, r3, r4, r5, r6, r7, r8) := H
        have A10 := Aside0.mk A100
        clear A100
        by_cases c11 : t201.toList = a0.toList
        ·
         rw [if_pos c11] at H
         have c11b0 : (t201.toList == a0.toList) = true := beq_iff_eq.mpr c11
         have c11b1 : (t201.toList != a0.toList) = false := bne_eq_false_iff_eq.mpr c11
         clear c11
         simp only [Option.some.injEq, Prod.mk.injEq] at H
         obtain ⟨rfl, rfl, rfl, rfl, rfl, rfl, rfl, rfl⟩ := H
         go_enter Tryd.func45, Tryd.ntmps45
         try go_wp2_with (first | ((with_reducible refine gate_dst (N := 2) rfl ?_); refine box_event ?hg (N := 2) ?hd (cs := #[.string (⟨#[]⟩ : ByteArray), .int .i64 0, .int .i64 0, .int .i64 0, .int .i64 0, .int .i64 0, .int .i64 0]) (t := 69) ?hr ?_; (case hd => rfl); (case hg => rfl); (case hr => first | (go_simp; done) | (go_simp; rfl)); intro gb188 hg w12 hbox hb; have n0_ := Aside0.mk (below_step (by repeat (first | (with_reducible first | exact HB.out | apply below_alloc | apply pw_below_drewN | apply below_drew1) | exact HB.out)) hb); have n1_ := Aside0.mk (hbox); have n2_ := Aside0.mk ((by rw [hg]; exact (below_size (by repeat (first | (with_reducible first | exact HB.out | apply below_alloc | apply pw_below_drewN | apply below_drew1) | exact HB.out))) : w.heap.size ≤ gb188)); have n3_ := Aside0.mk ((by rw [hg]; exact (below_size (by repeat (first | (with_reducible first | exact HB.out | apply below_alloc | apply pw_below_drewN | apply below_drew1) | exact HB.out))) : w.heap.size ≤ gb188)); clear HB; have HB := n0_; have BK188 := n1_; have GW188 := n2_; have GE188 := n3_; clear n0_ n1_ n2_ n3_; clear hb hbox hg) | ((with_reducible refine gate_callee (f := 79) rfl ?_); refine goesL_ (some 10) rfl rfl Tryd.func79 (by kernel_rfl) rfl #[.string a0, .int .i64 6] rfl (by (try simp only [List.map_toArray, List.map_cons, List.map_nil]); first | done | rfl | (simp only [List.length_drop, List.length_take]; rfl)) ?_; (with_reducible refine (impl_readWithId.calls k a0 6 t189 t190 true _ ?side1 A2.out).mono ?_); (case side1 => exact wok_ HWOK_.out (by repeat (first | (with_reducible first | exact HB.out | apply below_alloc | apply pw_below_drewN | apply below_drew1 | refine below_set ?_ GE188.out) | exact HB.out))); rintro e w13 ⟨v192, rfl, ho0, hb⟩; refine ⟨_, rfl, ?_⟩; have n0_ := Aside0.mk (Kd.R_lower ho0 (below_size (by repeat (first | (with_reducible first | exact HB.out | apply below_alloc | apply pw_below_drewN | apply below_drew1 | refine below_set ?_ GE188.out) | exact HB.out)))); have n1_ := Aside0.mk (blk_below (g := gb188) (o := .cells #[.string (⟨#[]⟩ : ByteArray), .int .i64 0, .int .i64 0, .int .i64 0, .int .i64 0, .int .i64 0, .int .i64 0] 69 (0, 0)) (by (with_reducible repeat (first | refine blk_drewN ?_ _ | refine blk_drew ?_ | refine blk_alloc ?_ _)); exact BK188.out) hb); have n2_ := Aside0.mk (below_step (by repeat (first | (with_reducible first | exact HB.out | apply below_alloc | apply pw_below_drewN | apply below_drew1 | refine below_set ?_ GE188.out) | exact HB.out)) hb); clear BK188; clear HB; have HO193 := n0_; have BK188 := n1_; have HB := n2_; clear n0_ n1_ n2_; (try clear hb); (try clear hb2); (try clear hk); (try clear hi); (try clear ho0)))
         have n0_ := Aside0.mk (Kd.R_drew HO193.out)
         have n1_ := Aside0.mk (blk_drew BK188.out)
         have n2_ := Aside0.mk (below_drew1 HB.out)
         clear HO193
         clear BK188
         clear HB
         have HO193 := n0_
         have BK188 := n1_
         have HB := n2_
         clear n0_ n1_ n2_
         obtain ⟨Ao15, co15, eo15⟩ := Kd.R_slice HO193.out
         (first | subst eo15 | (injection eo15 with f1_ f2_ f3_; have f4_ := f1_.symm; have f5_ := f3_.symm; clear f1_ f2_ f3_; subst f4_; subst f5_))
         have p194 : 0 ≤ (0 : Int) := (by omega)
         have q194 : 0 < (t190.length : Int) := of_decide_eq_true (by first | (with_reducible assumption) | assumption)
         obtain ⟨ad194, e194, hx194_0⟩ := Kd.at_int (Kd.R_reads' HO193.out).2.2 0 p194 q194
         cases e194
         have qi194 : (0 < t190.length) = True := eq_true (by omega)
         (try rw [show ((0 : Int)).toNat = 0 from rfl] at hx194_0)
         (try rw [Addr.add_zero'] at hx194_0)
         replace p194 := eq_true p194
         replace q194 := eq_true q194
         have p195 : 0 ≤ (1 : Int) := (by omega)
         have q195 : 1 < (t190.length : Int) := of_decide_eq_true (by first | (with_reducible assumption) | assumption)
         obtain ⟨ad195, e195, hx195_0⟩ := Kd.at_int (Kd.R_reads' HO193.out).2.2 1 p195 q195
         obtain rfl : ad194 = ad195 := (by injection e195)
         (try simp only [show (1 : Int).toNat = 1 from rfl, Nat.reduceMul, Nat.reduceEqDiff, Go.Addr.add, ↓reduceIte] at hx195_0)
         have qi195 : (1 < t190.length) = True := eq_true (by omega)
         (try rw [show ((1 : Int)).toNat = 1 from rfl] at hx195_0)
         replace p195 := eq_true p195
         replace q195 := eq_true q195
         have p196 : 0 ≤ (2 : Int) := (by omega)
         have q196 : 2 < (t190.length : Int) := of_decide_eq_true (by first | (with_reducible assumption) | assumption)
         obtain ⟨ad196, e196, hx196_0⟩ := Kd.at_int (Kd.R_reads' HO193.out).2.2 2 p196 q196
         obtain rfl : ad194 = ad196 := (by injection e196)
         (try simp only [show (2 : Int).toNat = 2 from rfl, Nat.reduceMul, Nat.reduceEqDiff, Go.Addr.add, ↓reduceIte] at hx196_0)
         have qi196 : (2 < t190.length) = True := eq_true (by omega)
         (try rw [show ((2 : Int)).toNat = 2 from rfl] at hx196_0)
         replace p196 := eq_true p196
         replace q196 := eq_true q196
         have p197 : 0 ≤ (3 : Int) := (by omega)
         have q197 : 3 < (t190.length : Int) := of_decide_eq_true (by first | (with_reducible assumption) | assumption)
         obtain ⟨ad197, e197, hx197_0⟩ := Kd.at_int (Kd.R_reads' HO193.out).2.2 3 p197 q197
         obtain rfl : ad194 = ad197 := (by injection e197)
         (try simp only [show (3 : Int).toNat = 3 from rfl, Nat.reduceMul, Nat.reduceEqDiff, Go.Addr.add, ↓reduceIte] at hx197_0)
         have qi197 : (3 < t190.length) = True := eq_true (by omega)
         (try rw [show ((3 : Int)).toNat = 3 from rfl] at hx197_0)
         replace p197 := eq_true p197
         replace q197 := eq_true q197
         have p198 : 0 ≤ (4 : Int) := (by omega)
         have q198 : 4 < (t190.length : Int) := of_decide_eq_true (by first | (with_reducible assumption) | assumption)
         obtain ⟨ad198, e198, hx198_0⟩ := Kd.at_int (Kd.R_reads' HO193.out).2.2 4 p198 q198
         obtain rfl : ad194 = ad198 := (by injection e198)
         (try simp only [show (4 : Int).toNat = 4 from rfl, Nat.reduceMul, Nat.reduceEqDiff, Go.Addr.add, ↓reduceIte] at hx198_0)
         have qi198 : (4 < t190.length) = True := eq_true (by omega)
         (try rw [show ((4 : Int)).toNat = 4 from rfl] at hx198_0)
         replace p198 := eq_true p198
         replace q198 := eq_true q198
         have p199 : 0 ≤ (5 : Int) := (by omega)
         have q199 : 5 < (t190.length : Int) := of_decide_eq_true (by first | (with_reducible assumption) | assumption)
         obtain ⟨ad199, e199, hx199_0⟩ := Kd.at_int (Kd.R_reads' HO193.out).2.2 5 p199 q199
         obtain rfl : ad194 = ad199 := (by injection e199)
         (try simp only [show (5 : Int).toNat = 5 from rfl, Nat.reduceMul, Nat.reduceEqDiff, Go.Addr.add, ↓reduceIte] at hx199_0)
         have qi199 : (5 < t190.length) = True := eq_true (by omega)
         (try rw [show ((5 : Int)).toNat = 5 from rfl] at hx199_0)
         replace p199 := eq_true p199
         replace q199 := eq_true q199
         refine start_ (n := 22) (S := fun w' => w'.cell? ad194 = some (.int .i64 (rd t190 0)) ∧ w'.cell? ⟨ad194.block, ad194.off + 1, none⟩ = some (.int .i64 (rd t190 1)) ∧ w'.cell? ⟨ad194.block, ad194.off + 2, none⟩ = some (.int .i64 (rd t190 2)) ∧ w'.cell? ⟨ad194.block, ad194.off + 3, none⟩ = some (.int .i64 (rd t190 3)) ∧ w'.cell? ⟨ad194.block, ad194.off + 4, none⟩ = some (.int .i64 (rd t190 4)) ∧ w'.cell? ⟨ad194.block, ad194.off + 5, none⟩ = some (.int .i64 (rd t190 5))) (ds := []) #[false, false, false, false, false, false, false, false, false, false, false, false, false, false, false, false, false, false, false, false, false, false] (by kernel_rfl) rfl rfl ⟨hx194_0, hx195_0, hx196_0, hx197_0, hx198_0, hx199_0⟩ (fun hHeld => ?_); refine with_tabW impl_ReadUnit.tab2 impl_ReadUnit.bits2 (fun HT_ HW_ => ?_)
         generalize w13.drew = w14 at HO193 BK188 HB hx194_0 hx195_0 hx196_0 hx197_0 hx198_0 hx199_0 hHeld ⊢
         refine pure_ (i := 0) (N := some 14) (v := ?_) (a' := ?_) #[true, false, false, false, false, false, false, false, false, false, false, false, false, false, false, false, false, false, false, false, false, false] rfl rfl (any_of HT_.out (by kernel_rfl)) (fun _ _ _ h => h) (Or.inl ⟨by rfl, ?_⟩) ?_ ?_
         rotate_left
         ·
          intro w'
          go_simp
          with_reducible rfl
         rotate_left
         ·
          simp only [Act.put, List.setIfInBounds_toArray, List.set_cons_zero, List.set_cons_succ, i64_w, i32_w]
          rfl
         refine pure_ (i := 1) (N := some 15) (v := ?_) (a' := ?_) #[true, true, false, false, false, false, false, false, false, false, false, false, false, false, false, false, false, false, false, false, false, false] rfl rfl (any_of HT_.out (by kernel_rfl)) (fun _ _ _ h => h) (Or.inl ⟨by rfl, ?_⟩) ?_ ?_
         rotate_left
         ·
          intro w'
          go_simp
          with_reducible rfl
         rotate_left
         ·
          simp only [Act.put, List.setIfInBounds_toArray, List.set_cons_zero, List.set_cons_succ, i64_w, i32_w]
          rfl
         refine pure_ (i := 2) (N := some 16) (v := ?_) (a' := ?_) #[true, true, true, false, false, false, false, false, false, false, false, false, false, false, false, false, false, false, false, false, false, false] rfl rfl (any_of HT_.out (by kernel_rfl)) (fun _ _ _ h => h) (Or.inl ⟨by rfl, ?_⟩) ?_ ?_
         rotate_left
         ·
          intro w'
          go_simp
          with_reducible rfl
         rotate_left
         ·
          simp only [Act.put, List.setIfInBounds_toArray, List.set_cons_zero, List.set_cons_succ, i64_w, i32_w]
          rfl
         refine pure_ (i := 4) (N := some 18) (v := ?_) (a' := ?_) #[true, true, true, false, true, false, false, false, false, false, false, false, false, false, false, false, false, false, false, false, false, false] rfl rfl (any_of HT_.out (by kernel_rfl)) (fun _ _ _ h => h) (Or.inl ⟨by rfl, ?_⟩) ?_ ?_
         rotate_left
         ·
          intro w'
          go_simp
          with_reducible rfl
         rotate_left
         ·
          simp only [Act.put, List.setIfInBounds_toArray, List.set_cons_zero, List.set_cons_succ, i64_w, i32_w]
          rfl
         refine pure_ (i := 5) (N := some 19) (v := ?_) (a' := ?_) #[true, true, true, false, true, true, false, false, false, false, false, false, false, false, false, false, false, false, false, false, false, false] rfl rfl (any_of HT_.out (by kernel_rfl)) (fun _ _ _ h => h) (Or.inl ⟨by rfl, ?_⟩) ?_ ?_
         rotate_left
         ·
          intro w'
          go_simp
          with_reducible rfl
         rotate_left
         ·
          simp only [Act.put, List.setIfInBounds_toArray, List.set_cons_zero, List.set_cons_succ, i64_w, i32_w]
          rfl
         refine pure_ (i := 7) (N := some 21) (v := ?_) (a' := ?_) #[true, true, true, false, true, true, false, true, false, false, false, false, false, false, false, false, false, false, false, false, false, false] rfl rfl (any_of HT_.out (by kernel_rfl)) (fun _ _ _ h => h) (Or.inl ⟨by rfl, ?_⟩) ?_ ?_
         rotate_left
         ·
          intro w'
          go_simp
          with_reducible rfl
         rotate_left
         ·
          simp only [Act.put, List.setIfInBounds_toArray, List.set_cons_zero, List.set_cons_succ, i64_w, i32_w]
          rfl
         refine pure_ (i := 8) (N := some 22) (v := ?_) (a' := ?_) #[true, true, true, false, true, true, false, true, true, false, false, false, false, false, false, false, false, false, false, false, false, false] rfl rfl (any_of HT_.out (by kernel_rfl)) (fun _ _ _ h => h) (Or.inl ⟨by rfl, ?_⟩) ?_ ?_
         rotate_left
         ·
          intro w'
          go_simp
          with_reducible rfl
         rotate_left
         ·
          simp only [Act.put, List.setIfInBounds_toArray, List.set_cons_zero, List.set_cons_succ, i64_w, i32_w]
          rfl
         refine pure_ (i := 10) (N := some 24) (v := ?_) (a' := ?_) #[true, true, true, false, true, true, false, true, true, false, true, false, false, false, false, false, false, false, false, false, false, false] rfl rfl (any_of HT_.out (by kernel_rfl)) (fun _ _ _ h => h) (Or.inl ⟨by rfl, ?_⟩) ?_ ?_
         rotate_left
         ·
          intro w'
          go_simp
          with_reducible rfl
         rotate_left
         ·
          simp only [Act.put, List.setIfInBounds_toArray, List.set_cons_zero, List.set_cons_succ, i64_w, i32_w]
          rfl
         refine pure_ (i := 11) (N := some 25) (v := ?_) (a' := ?_) #[true, true, true, false, true, true, false, true, true, false, true, true, false, false, false, false, false, false, false, false, false, false] rfl rfl (any_of HT_.out (by kernel_rfl)) (fun _ _ _ h => h) (Or.inl ⟨by rfl, ?_⟩) ?_ ?_
         rotate_left
         ·
          intro w'
          go_simp
          with_reducible rfl
         rotate_left
         ·
          simp only [Act.put, List.setIfInBounds_toArray, List.set_cons_zero, List.set_cons_succ, i64_w, i32_w]
          rfl
         refine pure_ (i := 13) (N := some 27) (v := ?_) (a' := ?_) #[true, true, true, false, true, true, false, true, true, false, true, true, false, true, false, false, false, false, false, false, false, false] rfl rfl (any_of HT_.out (by kernel_rfl)) (fun _ _ _ h => h) (Or.inl ⟨by rfl, ?_⟩) ?_ ?_
         rotate_left
         ·
          intro w'
          go_simp
          with_reducible rfl
         rotate_left
         ·
          simp only [Act.put, List.setIfInBounds_toArray, List.set_cons_zero, List.set_cons_succ, i64_w, i32_w]
          rfl
         refine pure_ (i := 14) (N := some 28) (v := ?_) (a' := ?_) #[true, true, true, false, true, true, false, true, true, false, true, true, false, true, true, false, false, false, false, false, false, false] rfl rfl (any_of HT_.out (by kernel_rfl)) (fun _ _ _ h => h) (Or.inl ⟨by rfl, ?_⟩) ?_ ?_
         rotate_left
         ·
          intro w'
          go_simp
          with_reducible rfl
         rotate_left
         ·
          simp only [Act.put, List.setIfInBounds_toArray, List.set_cons_zero, List.set_cons_succ, i64_w, i32_w]
          rfl
         refine pure_ (i := 16) (N := some 30) (v := ?_) (a' := ?_) #[true, true, true, false, true, true, false, true, true, false, true, true, false, true, true, false, true, false, false, false, false, false] rfl rfl (any_of HT_.out (by kernel_rfl)) (fun _ _ _ h => h) (Or.inl ⟨by rfl, ?_⟩) ?_ ?_
         rotate_left
         ·
          intro w'
          go_simp
          with_reducible rfl
         rotate_left
         ·
          simp only [Act.put, List.setIfInBounds_toArray, List.set_cons_zero, List.set_cons_succ, i64_w, i32_w]
          rfl
         refine pure_ (i := 17) (N := some 31) (v := ?_) (a' := ?_) #[true, true, true, false, true, true, false, true, true, false, true, true, false, true, true, false, true, true, false, false, false, false] rfl rfl (any_of HT_.out (by kernel_rfl)) (fun _ _ _ h => h) (Or.inl ⟨by rfl, ?_⟩) ?_ ?_
         rotate_left
         ·
          intro w'
          go_simp
          with_reducible rfl
         rotate_left
         ·
          simp only [Act.put, List.setIfInBounds_toArray, List.set_cons_zero, List.set_cons_succ, i64_w, i32_w]
          rfl
         refine take_ (i := 3) (N := some 17) (v := ?_) (a' := ?_) #[true, true, true, true, true, true, false, true, true, false, true, true, false, true, true, false, true, true, false, false, false, false] rfl rfl (take_ofW HT_.out HW_.out (by kernel_rfl)) (fun _ _ _ h => h) (Or.inl ⟨by rfl, ?_⟩) hHeld ?_ ?_
         rotate_left
         ·
          rintro w' ⟨s0, s1, s2, s3, s4, s5⟩
          go_simp
          with_reducible rfl
         rotate_left
         ·
          simp only [Act.put, List.setIfInBounds_toArray, List.set_cons_zero, List.set_cons_succ, i64_w, i32_w]
          rfl
         refine take_ (i := 6) (N := some 20) (v := ?_) (a' := ?_) #[true, true, true, true, true, true, true, true, true, false, true, true, false, true, true, false, true, true, false, false, false, false] rfl rfl (take_ofW HT_.out HW_.out (by kernel_rfl)) (fun _ _ _ h => h) (Or.inl ⟨by rfl, ?_⟩) hHeld ?_ ?_
         rotate_left
         ·
          rintro w' ⟨s0, s1, s2, s3, s4, s5⟩
          go_simp
          with_reducible rfl
         rotate_left
         ·
          simp only [Act.put, List.setIfInBounds_toArray, List.set_cons_zero, List.set_cons_succ, i64_w, i32_w]
          rfl
         refine take_ (i := 9) (N := some 23) (v := ?_) (a' := ?_) #[true, true, true, true, true, true, true, true, true, true, true, true, false, true, true, false, true, true, false, false, false, false] rfl rfl (take_ofW HT_.out HW_.out (by kernel_rfl)) (fun _ _ _ h => h) (Or.inl ⟨by rfl, ?_⟩) hHeld ?_ ?_
         rotate_left
         ·
          rintro w' ⟨s0, s1, s2, s3, s4, s5⟩
          go_simp
          with_reducible rfl
         rotate_left
         ·
          simp only [Act.put, List.setIfInBounds_toArray, List.set_cons_zero, List.set_cons_succ, i64_w, i32_w]
          rfl
         refine take_ (i := 12) (N := some 26) (v := ?_) (a' := ?_) #[true, true, true, true, true, true, true, true, true, true, true, true, true, true, true, false, true, true, false, false, false, false] rfl rfl (take_ofW HT_.out HW_.out (by kernel_rfl)) (fun _ _ _ h => h) (Or.inl ⟨by rfl, ?_⟩) hHeld ?_ ?_
         rotate_left
         ·
          rintro w' ⟨s0, s1, s2, s3, s4, s5⟩
          go_simp
          with_reducible rfl
         rotate_left
         ·
          simp only [Act.put, List.setIfInBounds_toArray, List.set_cons_zero, List.set_cons_succ, i64_w, i32_w]
          rfl
         refine take_ (i := 15) (N := some 29) (v := ?_) (a' := ?_) #[true, true, true, true, true, true, true, true, true, true, true, true, true, true, true, true, true, true, false, false, false, false] rfl rfl (take_ofW HT_.out HW_.out (by kernel_rfl)) (fun _ _ _ h => h) (Or.inl ⟨by rfl, ?_⟩) hHeld ?_ ?_
         rotate_left
         ·
          rintro w' ⟨s0, s1, s2, s3, s4, s5⟩
          go_simp
          with_reducible rfl
         rotate_left
         ·
          simp only [Act.put, List.setIfInBounds_toArray, List.set_cons_zero, List.set_cons_succ, i64_w, i32_w]
          rfl
         refine take_ (i := 18) (N := some 32) (v := ?_) (a' := ?_) #[true, true, true, true, true, true, true, true, true, true, true, true, true, true, true, true, true, true, true, false, false, false] rfl rfl (take_ofW HT_.out HW_.out (by kernel_rfl)) (fun _ _ _ h => h) (Or.inl ⟨by rfl, ?_⟩) hHeld ?_ ?_
         rotate_left
         ·
          rintro w' ⟨s0, s1, s2, s3, s4, s5⟩
          go_simp
          with_reducible rfl
         rotate_left
         ·
          simp only [Act.put, List.setIfInBounds_toArray, List.set_cons_zero, List.set_cons_succ, i64_w, i32_w]
          rfl
         refine pure_ (i := 19) (N := some 33) (v := ?_) (a' := ?_) #[true, true, true, true, true, true, true, true, true, true, true, true, true, true, true, true, true, true, true, true, false, false] rfl rfl (any_of HT_.out (by kernel_rfl)) (fun _ _ _ h => h) (Or.inl ⟨by rfl, ?_⟩) ?_ ?_
         rotate_left
         ·
          intro w'
          go_simp
          with_reducible rfl
         rotate_left
         ·
          simp only [Act.put, List.setIfInBounds_toArray, List.set_cons_zero, List.set_cons_succ, i64_w, i32_w]
          rfl
         refine one_ (i := 20) (N := some 7) #[true, true, true, true, true, true, true, true, true, true, true, true, true, true, true, true, true, true, true, true, true, false] rfl rfl (one_of HT_.out (by kernel_rfl)) (by decide) (fun K hK => ?_)
         refine box_step ?hg (N := 7) ?hd (cs := #[.string (⟨#[]⟩ : ByteArray), .int .i64 0, .int .i64 0, .int .i64 0, .int .i64 0, .int .i64 0, .int .i64 0]) (t := 69) ?hr ?_; (case hd => rfl); (case hg => rfl); (case hr => first | (go_simp; done) | (go_simp; rfl))
         intro gb200 hg w16 hbox hb
         have HS0_ := (hb.cell (World.block_lt_of_cell? _ _ (hHeld.1))).trans (hHeld.1)
         have HS1_ := (hb.cell (World.block_lt_of_cell? _ _ (hHeld.2.1))).trans (hHeld.2.1)
         have HS2_ := (hb.cell (World.block_lt_of_cell? _ _ (hHeld.2.2.1))).trans (hHeld.2.2.1)
         have HS3_ := (hb.cell (World.block_lt_of_cell? _ _ (hHeld.2.2.2.1))).trans (hHeld.2.2.2.1)
         have HS4_ := (hb.cell (World.block_lt_of_cell? _ _ (hHeld.2.2.2.2.1))).trans (hHeld.2.2.2.2.1)
         have HS5_ := (hb.cell (World.block_lt_of_cell? _ _ (hHeld.2.2.2.2.2))).trans (hHeld.2.2.2.2.2)
         have n0_ := Aside0.mk (Kd.R_below (by (with_reducible repeat (first | apply Kd.R_alloc | apply Kd.R_drewN | apply Kd.R_drew)); exact HO193.out) hb)
         have n1_ := Aside0.mk (blk_below (g := gb188) (o := .cells #[.string (⟨#[]⟩ : ByteArray), .int .i64 0, .int .i64 0, .int .i64 0, .int .i64 0, .int .i64 0, .int .i64 0] 69 (0, 0)) (by (with_reducible repeat (first | refine blk_drewN ?_ _ | refine blk_drew ?_ | refine blk_alloc ?_ _)); exact BK188.out) hb)
         have n2_ := Aside0.mk (below_step (by repeat (first | (with_reducible first | exact HB.out | apply below_alloc | apply pw_below_drewN | apply below_drew1 | refine below_set ?_ GE188.out) | exact HB.out)) hb)
         have n3_ := Aside0.mk (hbox)
         have n4_ := Aside0.mk ((by rw [hg]; exact (below_size (by repeat (first | (with_reducible first | exact HB.out | apply below_alloc | apply pw_below_drewN | apply below_drew1 | refine below_set ?_ GE188.out) | exact HB.out))) : w.heap.size ≤ gb200))
         have n5_ := Aside0.mk ((by rw [hg]; exact (below_size (by repeat (first | (with_reducible first | exact HB.out | apply below_alloc | apply pw_below_drewN | apply below_drew1 | refine below_set ?_ GE188.out) | exact HB.out))) : w.heap.size ≤ gb200))
         have n6_ := Aside0.mk ((by rw [hg]; exact Nat.ne_of_lt (blk_lt (g := gb188) (o := .cells #[.string (⟨#[]⟩ : ByteArray), .int .i64 0, .int .i64 0, .int .i64 0, .int .i64 0, .int .i64 0, .int .i64 0] 69 (0, 0)) (by (with_reducible repeat (first | refine blk_drewN ?_ _ | refine blk_drew ?_ | refine blk_alloc ?_ _)); exact BK188.out)) : gb188 ≠ gb200))
         have n7_ := Aside0.mk ((by rw [hg]; exact Nat.ne_of_gt (blk_lt (g := gb188) (o := .cells #[.string (⟨#[]⟩ : ByteArray), .int .i64 0, .int .i64 0, .int .i64 0, .int .i64 0, .int .i64 0, .int .i64 0] 69 (0, 0)) (by (with_reducible repeat (first | refine blk_drewN ?_ _ | refine blk_drew ?_ | refine blk_alloc ?_ _)); exact BK188.out)) : gb200 ≠ gb188))
         clear HO193
         clear BK188
         clear HB
         have HO193 := n0_
         have BK188 := n1_
         have HB := n2_
         have BK200 := n3_
         have GW200 := n4_
         have GE200 := n5_
         have NB188_200 := n6_
         have NB200_188 := n7_
         clear n0_ n1_ n2_ n3_ n4_ n5_ n6_ n7_
         clear hb hbox hg
         refine hK.out _ _ ⟨HS0_, HS1_, HS2_, HS3_, HS4_, HS5_⟩ (fun hHeld => ?_)
         clear hK K
         refine norm_ (a' := ?_) ?_ ?_
         rotate_left
         ·
          show Act.put _ (some 7) _ = _
          simp only [Act.put, List.setIfInBounds_toArray, List.set_cons_zero, List.set_cons_succ, i64_w, i32_w]
          rfl
         refine one_ (i := 21) (N := none) #[true, true, true, true, true, true, true, true, true, true, true, true, true, true, true, true, true, true, true, true, true, true] rfl rfl (one_of HT_.out (by kernel_rfl)) (by decide) (fun K hK => ?_)
         have hs17 : w16.cell? ⟨gb200, 0, none⟩ = some (.string (⟨#[]⟩ : ByteArray)) := (blk_cell BK200.out 0).trans rfl
         have hfs17 := blk_frozen BK200.out 0
         have hns17_0 := NB188_200.out
         have hms17_0 := NB200_188.out
         have hs18 : w16.cell? ⟨gb200, 1, none⟩ = some (.int .i64 0) := (blk_cell BK200.out 1).trans rfl
         have hfs18 := blk_frozen BK200.out 1
         have hns18_0 := NB188_200.out
         have hms18_0 := NB200_188.out
         have hs19 : w16.cell? ⟨gb200, 2, none⟩ = some (.int .i64 0) := (blk_cell BK200.out 2).trans rfl
         have hfs19 := blk_frozen BK200.out 2
         have hns19_0 := NB188_200.out
         have hms19_0 := NB200_188.out
         have hs20 : w16.cell? ⟨gb200, 3, none⟩ = some (.int .i64 0) := (blk_cell BK200.out 3).trans rfl
         have hfs20 := blk_frozen BK200.out 3
         have hns20_0 := NB188_200.out
         have hms20_0 := NB200_188.out
         have hs21 : w16.cell? ⟨gb200, 4, none⟩ = some (.int .i64 0) := (blk_cell BK200.out 4).trans rfl
         have hfs21 := blk_frozen BK200.out 4
         have hns21_0 := NB188_200.out
         have hms21_0 := NB200_188.out
         have hs22 : w16.cell? ⟨gb200, 5, none⟩ = some (.int .i64 0) := (blk_cell BK200.out 5).trans rfl
         have hfs22 := blk_frozen BK200.out 5
         have hns22_0 := NB188_200.out
         have hms22_0 := NB200_188.out
         have hs23 : w16.cell? ⟨gb200, 6, none⟩ = some (.int .i64 0) := (blk_cell BK200.out 6).trans rfl
         have hfs23 := blk_frozen BK200.out 6
         have hns23_0 := NB188_200.out
         have hms23_0 := NB200_188.out
         refine skip_ (w1 := ?_) (by rfl) rfl ?_ ?_
         rotate_left
         ·
          go_simp
          rfl
         refine hK.out _ _ ⟨((cell_far (p := ⟨gb200, _, none⟩) (by first | exact Kd.own_blk (Kd.R_ne HO193.out BK200.out (by decide)) | (rw [add_block]; exact Kd.own_blk (Kd.R_ne HO193.out BK200.out (by decide))) | (show (Addr.add _ _).block ≠ _; rw [add_block]; exact Kd.own_blk (Kd.R_ne HO193.out BK200.out (by decide))) | (dsimp only; exact Kd.own_blk (Kd.R_ne HO193.out BK200.out (by decide)))) _).trans (((cell_far (p := ⟨gb200, _, none⟩) (by first | exact Kd.own_blk (Kd.R_ne HO193.out BK200.out (by decide)) | (rw [add_block]; exact Kd.own_blk (Kd.R_ne HO193.out BK200.out (by decide))) | (show (Addr.add _ _).block ≠ _; rw [add_block]; exact Kd.own_blk (Kd.R_ne HO193.out BK200.out (by decide))) | (dsimp only; exact Kd.own_blk (Kd.R_ne HO193.out BK200.out (by decide)))) _).trans (((cell_far (p := ⟨gb200, _, none⟩) (by first | exact Kd.own_blk (Kd.R_ne HO193.out BK200.out (by decide)) | (rw [add_block]; exact Kd.own_blk (Kd.R_ne HO193.out BK200.out (by decide))) | (show (Addr.add _ _).block ≠ _; rw [add_block]; exact Kd.own_blk (Kd.R_ne HO193.out BK200.out (by decide))) | (dsimp only; exact Kd.own_blk (Kd.R_ne HO193.out BK200.out (by decide)))) _).trans (((cell_far (p := ⟨gb200, _, none⟩) (by first | exact Kd.own_blk (Kd.R_ne HO193.out BK200.out (by decide)) | (rw [add_block]; exact Kd.own_blk (Kd.R_ne HO193.out BK200.out (by decide))) | (show (Addr.add _ _).block ≠ _; rw [add_block]; exact Kd.own_blk (Kd.R_ne HO193.out BK200.out (by decide))) | (dsimp only; exact Kd.own_blk (Kd.R_ne HO193.out BK200.out (by decide)))) _).trans (((cell_far (p := ⟨gb200, _, none⟩) (by first | exact Kd.own_blk (Kd.R_ne HO193.out BK200.out (by decide)) | (rw [add_block]; exact Kd.own_blk (Kd.R_ne HO193.out BK200.out (by decide))) | (show (Addr.add _ _).block ≠ _; rw [add_block]; exact Kd.own_blk (Kd.R_ne HO193.out BK200.out (by decide))) | (dsimp only; exact Kd.own_blk (Kd.R_ne HO193.out BK200.out (by decide)))) _).trans (((cell_far (p := ⟨gb200, _, none⟩) (by first | exact Kd.own_blk (Kd.R_ne HO193.out BK200.out (by decide)) | (rw [add_block]; exact Kd.own_blk (Kd.R_ne HO193.out BK200.out (by decide))) | (show (Addr.add _ _).block ≠ _; rw [add_block]; exact Kd.own_blk (Kd.R_ne HO193.out BK200.out (by decide))) | (dsimp only; exact Kd.own_blk (Kd.R_ne HO193.out BK200.out (by decide)))) _).trans (((cell_far (p := ⟨gb200, _, none⟩) (by first | exact Kd.own_blk (Kd.R_ne HO193.out BK200.out (by decide)) | (rw [add_block]; exact Kd.own_blk (Kd.R_ne HO193.out BK200.out (by decide))) | (show (Addr.add _ _).block ≠ _; rw [add_block]; exact Kd.own_blk (Kd.R_ne HO193.out BK200.out (by decide))) | (dsimp only; exact Kd.own_blk (Kd.R_ne HO193.out BK200.out (by decide)))) _).trans (hHeld.1)))))))))))))), ((cell_far (p := ⟨gb200, _, none⟩) (by first | exact Kd.own_blk (Kd.R_ne HO193.out BK200.out (by decide)) | (rw [add_block]; exact Kd.own_blk (Kd.R_ne HO193.out BK200.out (by decide))) | (show (Addr.add _ _).block ≠ _; rw [add_block]; exact Kd.own_blk (Kd.R_ne HO193.out BK200.out (by decide))) | (dsimp only; exact Kd.own_blk (Kd.R_ne HO193.out BK200.out (by decide)))) _).trans (((cell_far (p := ⟨gb200, _, none⟩) (by first | exact Kd.own_blk (Kd.R_ne HO193.out BK200.out (by decide)) | (rw [add_block]; exact Kd.own_blk (Kd.R_ne HO193.out BK200.out (by decide))) | (show (Addr.add _ _).block ≠ _; rw [add_block]; exact Kd.own_blk (Kd.R_ne HO193.out BK200.out (by decide))) | (dsimp only; exact Kd.own_blk (Kd.R_ne HO193.out BK200.out (by decide)))) _).trans (((cell_far (p := ⟨gb200, _, none⟩) (by first | exact Kd.own_blk (Kd.R_ne HO193.out BK200.out (by decide)) | (rw [add_block]; exact Kd.own_blk (Kd.R_ne HO193.out BK200.out (by decide))) | (show (Addr.add _ _).block ≠ _; rw [add_block]; exact Kd.own_blk (Kd.R_ne HO193.out BK200.out (by decide))) | (dsimp only; exact Kd.own_blk (Kd.R_ne HO193.out BK200.out (by decide)))) _).trans (((cell_far (p := ⟨gb200, _, none⟩) (by first | exact Kd.own_blk (Kd.R_ne HO193.out BK200.out (by decide)) | (rw [add_block]; exact Kd.own_blk (Kd.R_ne HO193.out BK200.out (by decide))) | (show (Addr.add _ _).block ≠ _; rw [add_block]; exact Kd.own_blk (Kd.R_ne HO193.out BK200.out (by decide))) | (dsimp only; exact Kd.own_blk (Kd.R_ne HO193.out BK200.out (by decide)))) _).trans (((cell_far (p := ⟨gb200, _, none⟩) (by first | exact Kd.own_blk (Kd.R_ne HO193.out BK200.out (by decide)) | (rw [add_block]; exact Kd.own_blk (Kd.R_ne HO193.out BK200.out (by decide))) | (show (Addr.add _ _).block ≠ _; rw [add_block]; exact Kd.own_blk (Kd.R_ne HO193.out BK200.out (by decide))) | (dsimp only; exact Kd.own_blk (Kd.R_ne HO193.out BK200.out (by decide)))) _).trans (((cell_far (p := ⟨gb200, _, none⟩) (by first | exact Kd.own_blk (Kd.R_ne HO193.out BK200.out (by decide)) | (rw [add_block]; exact Kd.own_blk (Kd.R_ne HO193.out BK200.out (by decide))) | (show (Addr.add _ _).block ≠ _; rw [add_block]; exact Kd.own_blk (Kd.R_ne HO193.out BK200.out (by decide))) | (dsimp only; exact Kd.own_blk (Kd.R_ne HO193.out BK200.out (by decide)))) _).trans (((cell_far (p := ⟨gb200, _, none⟩) (by first | exact Kd.own_blk (Kd.R_ne HO193.out BK200.out (by decide)) | (rw [add_block]; exact Kd.own_blk (Kd.R_ne HO193.out BK200.out (by decide))) | (show (Addr.add _ _).block ≠ _; rw [add_block]; exact Kd.own_blk (Kd.R_ne HO193.out BK200.out (by decide))) | (dsimp only; exact Kd.own_blk (Kd.R_ne HO193.out BK200.out (by decide)))) _).trans (hHeld.2.1)))))))))))))), ((cell_far (p := ⟨gb200, _, none⟩) (by first | exact Kd.own_blk (Kd.R_ne HO193.out BK200.out (by decide)) | (rw [add_block]; exact Kd.own_blk (Kd.R_ne HO193.out BK200.out (by decide))) | (show (Addr.add _ _).block ≠ _; rw [add_block]; exact Kd.own_blk (Kd.R_ne HO193.out BK200.out (by decide))) | (dsimp only; exact Kd.own_blk (Kd.R_ne HO193.out BK200.out (by decide)))) _).trans (((cell_far (p := ⟨gb200, _, none⟩) (by first | exact Kd.own_blk (Kd.R_ne HO193.out BK200.out (by decide)) | (rw [add_block]; exact Kd.own_blk (Kd.R_ne HO193.out BK200.out (by decide))) | (show (Addr.add _ _).block ≠ _; rw [add_block]; exact Kd.own_blk (Kd.R_ne HO193.out BK200.out (by decide))) | (dsimp only; exact Kd.own_blk (Kd.R_ne HO193.out BK200.out (by decide)))) _).trans (((cell_far (p := ⟨gb200, _, none⟩) (by first | exact Kd.own_blk (Kd.R_ne HO193.out BK200.out (by decide)) | (rw [add_block]; exact Kd.own_blk (Kd.R_ne HO193.out BK200.out (by decide))) | (show (Addr.add _ _).block ≠ _; rw [add_block]; exact Kd.own_blk (Kd.R_ne HO193.out BK200.out (by decide))) | (dsimp only; exact Kd.own_blk (Kd.R_ne HO193.out BK200.out (by decide)))) _).trans (((cell_far (p := ⟨gb200, _, none⟩) (by first | exact Kd.own_blk (Kd.R_ne HO193.out BK200.out (by decide)) | (rw [add_block]; exact Kd.own_blk (Kd.R_ne HO193.out BK200.out (by decide))) | (show (Addr.add _ _).block ≠ _; rw [add_block]; exact Kd.own_blk (Kd.R_ne HO193.out BK200.out (by decide))) | (dsimp only; exact Kd.own_blk (Kd.R_ne HO193.out BK200.out (by decide)))) _).trans (((cell_far (p := ⟨gb200, _, none⟩) (by first | exact Kd.own_blk (Kd.R_ne HO193.out BK200.out (by decide)) | (rw [add_block]; exact Kd.own_blk (Kd.R_ne HO193.out BK200.out (by decide))) | (show (Addr.add _ _).block ≠ _; rw [add_block]; exact Kd.own_blk (Kd.R_ne HO193.out BK200.out (by decide))) | (dsimp only; exact Kd.own_blk (Kd.R_ne HO193.out BK200.out (by decide)))) _).trans (((cell_far (p := ⟨gb200, _, none⟩) (by first | exact Kd.own_blk (Kd.R_ne HO193.out BK200.out (by decide)) | (rw [add_block]; exact Kd.own_blk (Kd.R_ne HO193.out BK200.out (by decide))) | (show (Addr.add _ _).block ≠ _; rw [add_block]; exact Kd.own_blk (Kd.R_ne HO193.out BK200.out (by decide))) | (dsimp only; exact Kd.own_blk (Kd.R_ne HO193.out BK200.out (by decide)))) _).trans (((cell_far (p := ⟨gb200, _, none⟩) (by first | exact Kd.own_blk (Kd.R_ne HO193.out BK200.out (by decide)) | (rw [add_block]; exact Kd.own_blk (Kd.R_ne HO193.out BK200.out (by decide))) | (show (Addr.add _ _).block ≠ _; rw [add_block]; exact Kd.own_blk (Kd.R_ne HO193.out BK200.out (by decide))) | (dsimp only; exact Kd.own_blk (Kd.R_ne HO193.out BK200.out (by decide)))) _).trans (hHeld.2.2.1)))))))))))))), ((cell_far (p := ⟨gb200, _, none⟩) (by first | exact Kd.own_blk (Kd.R_ne HO193.out BK200.out (by decide)) | (rw [add_block]; exact Kd.own_blk (Kd.R_ne HO193.out BK200.out (by decide))) | (show (Addr.add _ _).block ≠ _; rw [add_block]; exact Kd.own_blk (Kd.R_ne HO193.out BK200.out (by decide))) | (dsimp only; exact Kd.own_blk (Kd.R_ne HO193.out BK200.out (by decide)))) _).trans (((cell_far (p := ⟨gb200, _, none⟩) (by first | exact Kd.own_blk (Kd.R_ne HO193.out BK200.out (by decide)) | (rw [add_block]; exact Kd.own_blk (Kd.R_ne HO193.out BK200.out (by decide))) | (show (Addr.add _ _).block ≠ _; rw [add_block]; exact Kd.own_blk (Kd.R_ne HO193.out BK200.out (by decide))) | (dsimp only; exact Kd.own_blk (Kd.R_ne HO193.out BK200.out (by decide)))) _).trans (((cell_far (p := ⟨gb200, _, none⟩) (by first | exact Kd.own_blk (Kd.R_ne HO193.out BK200.out (by decide)) | (rw [add_block]; exact Kd.own_blk (Kd.R_ne HO193.out BK200.out (by decide))) | (show (Addr.add _ _).block ≠ _; rw [add_block]; exact Kd.own_blk (Kd.R_ne HO193.out BK200.out (by decide))) | (dsimp only; exact Kd.own_blk (Kd.R_ne HO193.out BK200.out (by decide)))) _).trans (((cell_far (p := ⟨gb200, _, none⟩) (by first | exact Kd.own_blk (Kd.R_ne HO193.out BK200.out (by decide)) | (rw [add_block]; exact Kd.own_blk (Kd.R_ne HO193.out BK200.out (by decide))) | (show (Addr.add _ _).block ≠ _; rw [add_block]; exact Kd.own_blk (Kd.R_ne HO193.out BK200.out (by decide))) | (dsimp only; exact Kd.own_blk (Kd.R_ne HO193.out BK200.out (by decide)))) _).trans (((cell_far (p := ⟨gb200, _, none⟩) (by first | exact Kd.own_blk (Kd.R_ne HO193.out BK200.out (by decide)) | (rw [add_block]; exact Kd.own_blk (Kd.R_ne HO193.out BK200.out (by decide))) | (show (Addr.add _ _).block ≠ _; rw [add_block]; exact Kd.own_blk (Kd.R_ne HO193.out BK200.out (by decide))) | (dsimp only; exact Kd.own_blk (Kd.R_ne HO193.out BK200.out (by decide)))) _).trans (((cell_far (p := ⟨gb200, _, none⟩) (by first | exact Kd.own_blk (Kd.R_ne HO193.out BK200.out (by decide)) | (rw [add_block]; exact Kd.own_blk (Kd.R_ne HO193.out BK200.out (by decide))) | (show (Addr.add _ _).block ≠ _; rw [add_block]; exact Kd.own_blk (Kd.R_ne HO193.out BK200.out (by decide))) | (dsimp only; exact Kd.own_blk (Kd.R_ne HO193.out BK200.out (by decide)))) _).trans (((cell_far (p := ⟨gb200, _, none⟩) (by first | exact Kd.own_blk (Kd.R_ne HO193.out BK200.out (by decide)) | (rw [add_block]; exact Kd.own_blk (Kd.R_ne HO193.out BK200.out (by decide))) | (show (Addr.add _ _).block ≠ _; rw [add_block]; exact Kd.own_blk (Kd.R_ne HO193.out BK200.out (by decide))) | (dsimp only; exact Kd.own_blk (Kd.R_ne HO193.out BK200.out (by decide)))) _).trans (hHeld.2.2.2.1)))))))))))))), ((cell_far (p := ⟨gb200, _, none⟩) (by first | exact Kd.own_blk (Kd.R_ne HO193.out BK200.out (by decide)) | (rw [add_block]; exact Kd.own_blk (Kd.R_ne HO193.out BK200.out (by decide))) | (show (Addr.add _ _).block ≠ _; rw [add_block]; exact Kd.own_blk (Kd.R_ne HO193.out BK200.out (by decide))) | (dsimp only; exact Kd.own_blk (Kd.R_ne HO193.out BK200.out (by decide)))) _).trans (((cell_far (p := ⟨gb200, _, none⟩) (by first | exact Kd.own_blk (Kd.R_ne HO193.out BK200.out (by decide)) | (rw [add_block]; exact Kd.own_blk (Kd.R_ne HO193.out BK200.out (by decide))) | (show (Addr.add _ _).block ≠ _; rw [add_block]; exact Kd.own_blk (Kd.R_ne HO193.out BK200.out (by decide))) | (dsimp only; exact Kd.own_blk (Kd.R_ne HO193.out BK200.out (by decide)))) _).trans (((cell_far (p := ⟨gb200, _, none⟩) (by first | exact Kd.own_blk (Kd.R_ne HO193.out BK200.out (by decide)) | (rw [add_block]; exact Kd.own_blk (Kd.R_ne HO193.out BK200.out (by decide))) | (show (Addr.add _ _).block ≠ _; rw [add_block]; exact Kd.own_blk (Kd.R_ne HO193.out BK200.out (by decide))) | (dsimp only; exact Kd.own_blk (Kd.R_ne HO193.out BK200.out (by decide)))) _).trans (((cell_far (p := ⟨gb200, _, none⟩) (by first | exact Kd.own_blk (Kd.R_ne HO193.out BK200.out (by decide)) | (rw [add_block]; exact Kd.own_blk (Kd.R_ne HO193.out BK200.out (by decide))) | (show (Addr.add _ _).block ≠ _; rw [add_block]; exact Kd.own_blk (Kd.R_ne HO193.out BK200.out (by decide))) | (dsimp only; exact Kd.own_blk (Kd.R_ne HO193.out BK200.out (by decide)))) _).trans (((cell_far (p := ⟨gb200, _, none⟩) (by first | exact Kd.own_blk (Kd.R_ne HO193.out BK200.out (by decide)) | (rw [add_block]; exact Kd.own_blk (Kd.R_ne HO193.out BK200.out (by decide))) | (show (Addr.add _ _).block ≠ _; rw [add_block]; exact Kd.own_blk (Kd.R_ne HO193.out BK200.out (by decide))) | (dsimp only; exact Kd.own_blk (Kd.R_ne HO193.out BK200.out (by decide)))) _).trans (((cell_far (p := ⟨gb200, _, none⟩) (by first | exact Kd.own_blk (Kd.R_ne HO193.out BK200.out (by decide)) | (rw [add_block]; exact Kd.own_blk (Kd.R_ne HO193.out BK200.out (by decide))) | (show (Addr.add _ _).block ≠ _; rw [add_block]; exact Kd.own_blk (Kd.R_ne HO193.out BK200.out (by decide))) | (dsimp only; exact Kd.own_blk (Kd.R_ne HO193.out BK200.out (by decide)))) _).trans (((cell_far (p := ⟨gb200, _, none⟩) (by first | exact Kd.own_blk (Kd.R_ne HO193.out BK200.out (by decide)) | (rw [add_block]; exact Kd.own_blk (Kd.R_ne HO193.out BK200.out (by decide))) | (show (Addr.add _ _).block ≠ _; rw [add_block]; exact Kd.own_blk (Kd.R_ne HO193.out BK200.out (by decide))) | (dsimp only; exact Kd.own_blk (Kd.R_ne HO193.out BK200.out (by decide)))) _).trans (hHeld.2.2.2.2.1)))))))))))))), ((cell_far (p := ⟨gb200, _, none⟩) (by first | exact Kd.own_blk (Kd.R_ne HO193.out BK200.out (by decide)) | (rw [add_block]; exact Kd.own_blk (Kd.R_ne HO193.out BK200.out (by decide))) | (show (Addr.add _ _).block ≠ _; rw [add_block]; exact Kd.own_blk (Kd.R_ne HO193.out BK200.out (by decide))) | (dsimp only; exact Kd.own_blk (Kd.R_ne HO193.out BK200.out (by decide)))) _).trans (((cell_far (p := ⟨gb200, _, none⟩) (by first | exact Kd.own_blk (Kd.R_ne HO193.out BK200.out (by decide)) | (rw [add_block]; exact Kd.own_blk (Kd.R_ne HO193.out BK200.out (by decide))) | (show (Addr.add _ _).block ≠ _; rw [add_block]; exact Kd.own_blk (Kd.R_ne HO193.out BK200.out (by decide))) | (dsimp only; exact Kd.own_blk (Kd.R_ne HO193.out BK200.out (by decide)))) _).trans (((cell_far (p := ⟨gb200, _, none⟩) (by first | exact Kd.own_blk (Kd.R_ne HO193.out BK200.out (by decide)) | (rw [add_block]; exact Kd.own_blk (Kd.R_ne HO193.out BK200.out (by decide))) | (show (Addr.add _ _).block ≠ _; rw [add_block]; exact Kd.own_blk (Kd.R_ne HO193.out BK200.out (by decide))) | (dsimp only; exact Kd.own_blk (Kd.R_ne HO193.out BK200.out (by decide)))) _).trans (((cell_far (p := ⟨gb200, _, none⟩) (by first | exact Kd.own_blk (Kd.R_ne HO193.out BK200.out (by decide)) | (rw [add_block]; exact Kd.own_blk (Kd.R_ne HO193.out BK200.out (by decide))) | (show (Addr.add _ _).block ≠ _; rw [add_block]; exact Kd.own_blk (Kd.R_ne HO193.out BK200.out (by decide))) | (dsimp only; exact Kd.own_blk (Kd.R_ne HO193.out BK200.out (by decide)))) _).trans (((cell_far (p := ⟨gb200, _, none⟩) (by first | exact Kd.own_blk (Kd.R_ne HO193.out BK200.out (by decide)) | (rw [add_block]; exact Kd.own_blk (Kd.R_ne HO193.out BK200.out (by decide))) | (show (Addr.add _ _).block ≠ _; rw [add_block]; exact Kd.own_blk (Kd.R_ne HO193.out BK200.out (by decide))) | (dsimp only; exact Kd.own_blk (Kd.R_ne HO193.out BK200.out (by decide)))) _).trans (((cell_far (p := ⟨gb200, _, none⟩) (by first | exact Kd.own_blk (Kd.R_ne HO193.out BK200.out (by decide)) | (rw [add_block]; exact Kd.own_blk (Kd.R_ne HO193.out BK200.out (by decide))) | (show (Addr.add _ _).block ≠ _; rw [add_block]; exact Kd.own_blk (Kd.R_ne HO193.out BK200.out (by decide))) | (dsimp only; exact Kd.own_blk (Kd.R_ne HO193.out BK200.out (by decide)))) _).trans (((cell_far (p := ⟨gb200, _, none⟩) (by first | exact Kd.own_blk (Kd.R_ne HO193.out BK200.out (by decide)) | (rw [add_block]; exact Kd.own_blk (Kd.R_ne HO193.out BK200.out (by decide))) | (show (Addr.add _ _).block ≠ _; rw [add_block]; exact Kd.own_blk (Kd.R_ne HO193.out BK200.out (by decide))) | (dsimp only; exact Kd.own_blk (Kd.R_ne HO193.out BK200.out (by decide)))) _).trans (hHeld.2.2.2.2.2))))))))))))))⟩ (fun hHeld => ?_)
         clear hK K
         refine done_ (done_of HT_.out (by kernel_rfl)) ?_
         have hnb24 := NB200_188.out
         have hnc24 := NB188_200.out
         have hcz25_0 : w16.cell? ⟨gb200, 0, none⟩ = some (.string (⟨#[]⟩ : ByteArray)) := (blk_cell BK200.out 0).trans rfl
         have hcz25_1 : w16.cell? ⟨gb200, 1, none⟩ = some (.int .i64 0) := (blk_cell BK200.out 1).trans rfl
         have hcz25_2 : w16.cell? ⟨gb200, 2, none⟩ = some (.int .i64 0) := (blk_cell BK200.out 2).trans rfl
         have hcz25_3 : w16.cell? ⟨gb200, 3, none⟩ = some (.int .i64 0) := (blk_cell BK200.out 3).trans rfl
         have hcz25_4 : w16.cell? ⟨gb200, 4, none⟩ = some (.int .i64 0) := (blk_cell BK200.out 4).trans rfl
         have hcz25_5 : w16.cell? ⟨gb200, 5, none⟩ = some (.int .i64 0) := (blk_cell BK200.out 5).trans rfl
         have hcz25_6 : w16.cell? ⟨gb200, 6, none⟩ = some (.int .i64 0) := (blk_cell BK200.out 6).trans rfl
         have hfz25_0 := blk_frozen BK200.out 0
         have hfz25_1 := blk_frozen BK200.out 1
         have hfz25_2 := blk_frozen BK200.out 2
         have hfz25_3 := blk_frozen BK200.out 3
         have hfz25_4 := blk_frozen BK200.out 4
         have hfz25_5 := blk_frozen BK200.out 5
         have hfz25_6 := blk_frozen BK200.out 6
         try go_wp2_with (first | (go_at_call 90; (with_reducible refine (impl_UnitText.calls k t189 (rd t190 0) (rd t190 1) (rd t190 2) (rd t190 3) (rd t190 4) (rd t190 5) t201 _ ?side1 A10.out).mono ?_); (case side1 => exact wok_ HWOK_.out (by repeat (first | (with_reducible first | exact HB.out | apply below_alloc | apply pw_below_drewN | apply below_drew1 | refine below_set ?_ GE188.out | refine below_set ?_ GE200.out) | exact HB.out))); rintro e w26 ⟨rfl, hb⟩; have n0_ := Aside0.mk (Kd.R_below (by (with_reducible repeat (first | apply Kd.R_alloc | apply Kd.R_drewN | apply Kd.R_drew)); exact (Kd.R_mono (Kd.R_far (p := ⟨gb200, 6, none⟩) (Kd.R_far (p := ⟨gb200, 5, none⟩) (Kd.R_far (p := ⟨gb200, 4, none⟩) (Kd.R_far (p := ⟨gb200, 3, none⟩) (Kd.R_far (p := ⟨gb200, 2, none⟩) (Kd.R_far (p := ⟨gb200, 1, none⟩) (Kd.R_far (p := ⟨gb200, 0, none⟩) (Kd.R_types HO193.out BK200.out (by decide)) (fun _ hk => hk.2) (.string t189)) (fun _ hk => hk.2) (.int .i64 (rd t190 0))) (fun _ hk => hk.2) (.int .i64 (rd t190 1))) (fun _ hk => hk.2) (.int .i64 (rd t190 2))) (fun _ hk => hk.2) (.int .i64 (rd t190 3))) (fun _ hk => hk.2) (.int .i64 (rd t190 4))) (fun _ hk => hk.2) (.int .i64 (rd t190 5))) (fun _ h_ => h_.1))) hb); have n1_ := Aside0.mk (blk_below (g := gb188) (o := .cells #[.string (⟨#[]⟩ : ByteArray), .int .i64 0, .int .i64 0, .int .i64 0, .int .i64 0, .int .i64 0, .int .i64 0] 69 (0, 0)) (by (with_reducible repeat (first | refine blk_drewN ?_ _ | refine blk_drew ?_ | refine blk_alloc ?_ _)); refine blk_far ?_ NB188_200.out _; (with_reducible repeat (first | refine blk_drewN ?_ _ | refine blk_drew ?_ | refine blk_alloc ?_ _)); refine blk_far ?_ NB188_200.out _; (with_reducible repeat (first | refine blk_drewN ?_ _ | refine blk_drew ?_ | refine blk_alloc ?_ _)); refine blk_far ?_ NB188_200.out _; (with_reducible repeat (first | refine blk_drewN ?_ _ | refine blk_drew ?_ | refine blk_alloc ?_ _)); refine blk_far ?_ NB188_200.out _; (with_reducible repeat (first | refine blk_drewN ?_ _ | refine blk_drew ?_ | refine blk_alloc ?_ _)); refine blk_far ?_ NB188_200.out _; (with_reducible repeat (first | refine blk_drewN ?_ _ | refine blk_drew ?_ | refine blk_alloc ?_ _)); refine blk_far ?_ NB188_200.out _; (with_reducible repeat (first | refine blk_drewN ?_ _ | refine blk_drew ?_ | refine blk_alloc ?_ _)); refine blk_far ?_ NB188_200.out _; (with_reducible repeat (first | refine blk_drewN ?_ _ | refine blk_drew ?_ | refine blk_alloc ?_ _)); exact BK188.out) hb); have n2_ := Aside0.mk (blk_below (g := gb200) (o := .cells #[.string t189, .int .i64 (rd t190 0), .int .i64 (rd t190 1), .int .i64 (rd t190 2), .int .i64 (rd t190 3), .int .i64 (rd t190 4), .int .i64 (rd t190 5)] 69 (0, 0)) (by (with_reducible repeat (first | refine blk_drewN ?_ _ | refine blk_drew ?_ | refine blk_alloc ?_ _)); refine blk_put (cs := #[.string t189, .int .i64 (rd t190 0), .int .i64 (rd t190 1), .int .i64 (rd t190 2), .int .i64 (rd t190 3), .int .i64 (rd t190 4), .int .i64 0]) ?_ 6 _ rfl; (with_reducible repeat (first | refine blk_drewN ?_ _ | refine blk_drew ?_ | refine blk_alloc ?_ _)); refine blk_put (cs := #[.string t189, .int .i64 (rd t190 0), .int .i64 (rd t190 1), .int .i64 (rd t190 2), .int .i64 (rd t190 3), .int .i64 0, .int .i64 0]) ?_ 5 _ rfl; (with_reducible repeat (first | refine blk_drewN ?_ _ | refine blk_drew ?_ | refine blk_alloc ?_ _)); refine blk_put (cs := #[.string t189, .int .i64 (rd t190 0), .int .i64 (rd t190 1), .int .i64 (rd t190 2), .int .i64 0, .int .i64 0, .int .i64 0]) ?_ 4 _ rfl; (with_reducible repeat (first | refine blk_drewN ?_ _ | refine blk_drew ?_ | refine blk_alloc ?_ _)); refine blk_put (cs := #[.string t189, .int .i64 (rd t190 0), .int .i64 (rd t190 1), .int .i64 0, .int .i64 0, .int .i64 0, .int .i64 0]) ?_ 3 _ rfl; (with_reducible repeat (first | refine blk_drewN ?_ _ | refine blk_drew ?_ | refine blk_alloc ?_ _)); refine blk_put (cs := #[.string t189, .int .i64 (rd t190 0), .int .i64 0, .int .i64 0, .int .i64 0, .int .i64 0, .int .i64 0]) ?_ 2 _ rfl; (with_reducible repeat (first | refine blk_drewN ?_ _ | refine blk_drew ?_ | refine blk_alloc ?_ _)); refine blk_put (cs := #[.string t189, .int .i64 0, .int .i64 0, .int .i64 0, .int .i64 0, .int .i64 0, .int .i64 0]) ?_ 1 _ rfl; (with_reducible repeat (first | refine blk_drewN ?_ _ | refine blk_drew ?_ | refine blk_alloc ?_ _)); refine blk_put (cs := #[.string (⟨#[]⟩ : ByteArray), .int .i64 0, .int .i64 0, .int .i64 0, .int .i64 0, .int .i64 0, .int .i64 0]) ?_ 0 _ rfl; (with_reducible repeat (first | refine blk_drewN ?_ _ | refine blk_drew ?_ | refine blk_alloc ?_ _)); exact BK200.out) hb); have n3_ := Aside0.mk (below_step (by repeat (first | (with_reducible first | exact HB.out | apply below_alloc | apply pw_below_drewN | apply below_drew1 | refine below_set ?_ GE188.out | refine below_set ?_ GE200.out) | exact HB.out)) hb); clear HO193; clear BK188; clear BK200; clear HB; have HO193 := n0_; have BK188 := n1_; have BK200 := n2_; have HB := n3_; clear n0_ n1_ n2_ n3_; (try clear hb); (try clear hb2); (try clear hk); (try clear hi); have hcz27_0 : w26.cell? ⟨gb200, 0, none⟩ = some (.string t189) := (blk_cell BK200.out 0).trans rfl; have hcz27_1 : w26.cell? ⟨gb200, 1, none⟩ = some (.int .i64 (rd t190 0)) := (blk_cell BK200.out 1).trans rfl; have hcz27_2 : w26.cell? ⟨gb200, 2, none⟩ = some (.int .i64 (rd t190 1)) := (blk_cell BK200.out 2).trans rfl; have hcz27_3 : w26.cell? ⟨gb200, 3, none⟩ = some (.int .i64 (rd t190 2)) := (blk_cell BK200.out 3).trans rfl; have hcz27_4 : w26.cell? ⟨gb200, 4, none⟩ = some (.int .i64 (rd t190 3)) := (blk_cell BK200.out 4).trans rfl; have hcz27_5 : w26.cell? ⟨gb200, 5, none⟩ = some (.int .i64 (rd t190 4)) := (blk_cell BK200.out 5).trans rfl; have hcz27_6 : w26.cell? ⟨gb200, 6, none⟩ = some (.int .i64 (rd t190 5)) := (blk_cell BK200.out 6).trans rfl; have hfz27_0 := blk_frozen BK200.out 0; have hfz27_1 := blk_frozen BK200.out 1; have hfz27_2 := blk_frozen BK200.out 2; have hfz27_3 := blk_frozen BK200.out 3; have hfz27_4 := blk_frozen BK200.out 4; have hfz27_5 := blk_frozen BK200.out 5; have hfz27_6 := blk_frozen BK200.out 6; have hcz28_0 : w26.cell? ⟨gb188, 0, none⟩ = some (.string (⟨#[]⟩ : ByteArray)) := (blk_cell BK188.out 0).trans rfl; have hcz28_1 : w26.cell? ⟨gb188, 1, none⟩ = some (.int .i64 0) := (blk_cell BK188.out 1).trans rfl; have hcz28_2 : w26.cell? ⟨gb188, 2, none⟩ = some (.int .i64 0) := (blk_cell BK188.out 2).trans rfl; have hcz28_3 : w26.cell? ⟨gb188, 3, none⟩ = some (.int .i64 0) := (blk_cell BK188.out 3).trans rfl; have hcz28_4 : w26.cell? ⟨gb188, 4, none⟩ = some (.int .i64 0) := (blk_cell BK188.out 4).trans rfl; have hcz28_5 : w26.cell? ⟨gb188, 5, none⟩ = some (.int .i64 0) := (blk_cell BK188.out 5).trans rfl; have hcz28_6 : w26.cell? ⟨gb188, 6, none⟩ = some (.int .i64 0) := (blk_cell BK188.out 6).trans rfl; have hfz28_0 := blk_frozen BK188.out 0; have hfz28_1 := blk_frozen BK188.out 1; have hfz28_2 := blk_frozen BK188.out 2; have hfz28_3 := blk_frozen BK188.out 3; have hfz28_4 := blk_frozen BK188.out 4; have hfz28_5 := blk_frozen BK188.out 5; have hfz28_6 := blk_frozen BK188.out 6))
         refine bodyPost_ret (results_ct rfl _ _ gb188 69 #[.string t189, .int .i64 (rd t190 0), .int .i64 (rd t190 1), .int .i64 (rd t190 2), .int .i64 (rd t190 3), .int .i64 (rd t190 4), .int .i64 (rd t190 5)] (0, 0) _ rfl (by (with_reducible repeat (first | refine blk_drewN ?_ _ | refine blk_drew ?_ | refine blk_alloc ?_ _)); refine blk_put (cs := #[.string t189, .int .i64 (rd t190 0), .int .i64 (rd t190 1), .int .i64 (rd t190 2), .int .i64 (rd t190 3), .int .i64 (rd t190 4), .int .i64 0]) ?_ 6 _ rfl; (with_reducible repeat (first | refine blk_drewN ?_ _ | refine blk_drew ?_ | refine blk_alloc ?_ _)); refine blk_put (cs := #[.string t189, .int .i64 (rd t190 0), .int .i64 (rd t190 1), .int .i64 (rd t190 2), .int .i64 (rd t190 3), .int .i64 0, .int .i64 0]) ?_ 5 _ rfl; (with_reducible repeat (first | refine blk_drewN ?_ _ | refine blk_drew ?_ | refine blk_alloc ?_ _)); refine blk_put (cs := #[.string t189, .int .i64 (rd t190 0), .int .i64 (rd t190 1), .int .i64 (rd t190 2), .int .i64 0, .int .i64 0, .int .i64 0]) ?_ 4 _ rfl; (with_reducible repeat (first | refine blk_drewN ?_ _ | refine blk_drew ?_ | refine blk_alloc ?_ _)); refine blk_put (cs := #[.string t189, .int .i64 (rd t190 0), .int .i64 (rd t190 1), .int .i64 0, .int .i64 0, .int .i64 0, .int .i64 0]) ?_ 3 _ rfl; (with_reducible repeat (first | refine blk_drewN ?_ _ | refine blk_drew ?_ | refine blk_alloc ?_ _)); refine blk_put (cs := #[.string t189, .int .i64 (rd t190 0), .int .i64 0, .int .i64 0, .int .i64 0, .int .i64 0, .int .i64 0]) ?_ 2 _ rfl; (with_reducible repeat (first | refine blk_drewN ?_ _ | refine blk_drew ?_ | refine blk_alloc ?_ _)); refine blk_put (cs := #[.string t189, .int .i64 0, .int .i64 0, .int .i64 0, .int .i64 0, .int .i64 0, .int .i64 0]) ?_ 1 _ rfl; (with_reducible repeat (first | refine blk_drewN ?_ _ | refine blk_drew ?_ | refine blk_alloc ?_ _)); refine blk_put (cs := #[.string (⟨#[]⟩ : ByteArray), .int .i64 0, .int .i64 0, .int .i64 0, .int .i64 0, .int .i64 0, .int .i64 0]) ?_ 0 _ rfl; (with_reducible repeat (first | refine blk_drewN ?_ _ | refine blk_drew ?_ | refine blk_alloc ?_ _)); exact BK188.out) Tryd.underlying69 rfl (by kernel_rfl)) rfl ?_
         exact ⟨by first | rfl | (simp [errW_none, errW_some] <;> rfl) | (simp [*, errW_none, errW_some] <;> rfl), by repeat (first | (with_reducible first | exact HB.out | apply below_alloc | apply pw_below_drewN | apply below_drew1 | refine below_set ?_ GE188.out | refine below_set ?_ GE200.out) | exact HB.out)⟩
        ·
         rw [if_neg c11] at H
         have c11b0 : (t201.toList == a0.toList) = false := beq_eq_false_iff_ne.mpr c11
         have c11b1 : (t201.toList != a0.toList) = true := bne_iff_ne.mpr c11
         simp only [Option.some.injEq, Prod.mk.injEq] at H
         obtain ⟨rfl, rfl, rfl, rfl, rfl, rfl, rfl, rfl⟩ := H
         go_enter Tryd.func45, Tryd.ntmps45
         try go_wp2_with (first | ((with_reducible refine gate_dst (N := 2) rfl ?_); refine box_event ?hg (N := 2) ?hd (cs := #[.string (⟨#[]⟩ : ByteArray), .int .i64 0, .int .i64 0, .int .i64 0, .int .i64 0, .int .i64 0, .int .i64 0]) (t := 69) ?hr ?_; (case hd => rfl); (case hg => rfl); (case hr => first | (go_simp; done) | (go_simp; rfl)); intro gb188 hg w29 hbox hb; have n0_ := Aside0.mk (below_step (by repeat (first | (with_reducible first | exact HB.out | apply below_alloc | apply pw_below_drewN | apply below_drew1) | exact HB.out)) hb); have n1_ := Aside0.mk (hbox); have n2_ := Aside0.mk ((by rw [hg]; exact (below_size (by repeat (first | (with_reducible first | exact HB.out | apply below_alloc | apply pw_below_drewN | apply below_drew1) | exact HB.out))) : w.heap.size ≤ gb188)); have n3_ := Aside0.mk ((by rw [hg]; exact (below_size (by repeat (first | (with_reducible first | exact HB.out | apply below_alloc | apply pw_below_drewN | apply below_drew1) | exact HB.out))) : w.heap.size ≤ gb188)); clear HB; have HB := n0_; have BK188 := n1_; have GW188 := n2_; have GE188 := n3_; clear n0_ n1_ n2_ n3_; clear hb hbox hg) | ((with_reducible refine gate_callee (f := 79) rfl ?_); refine goesL_ (some 10) rfl rfl Tryd.func79 (by kernel_rfl) rfl #[.string a0, .int .i64 6] rfl (by (try simp only [List.map_toArray, List.map_cons, List.map_nil]); first | done | rfl | (simp only [List.length_drop, List.length_take]; rfl)) ?_; (with_reducible refine (impl_readWithId.calls k a0 6 t189 t190 true _ ?side1 A2.out).mono ?_); (case side1 => exact wok_ HWOK_.out (by repeat (first | (with_reducible first | exact HB.out | apply below_alloc | apply pw_below_drewN | apply below_drew1 | refine below_set ?_ GE188.out) | exact HB.out))); rintro e w30 ⟨v192, rfl, ho0, hb⟩; refine ⟨_, rfl, ?_⟩; have n0_ := Aside0.mk (Kd.R_lower ho0 (below_size (by repeat (first | (with_reducible first | exact HB.out | apply below_alloc | apply pw_below_drewN | apply below_drew1 | refine below_set ?_ GE188.out) | exact HB.out)))); have n1_ := Aside0.mk (blk_below (g := gb188) (o := .cells #[.string (⟨#[]⟩ : ByteArray), .int .i64 0, .int .i64 0, .int .i64 0, .int .i64 0, .int .i64 0, .int .i64 0] 69 (0, 0)) (by (with_reducible repeat (first | refine blk_drewN ?_ _ | refine blk_drew ?_ | refine blk_alloc ?_ _)); exact BK188.out) hb); have n2_ := Aside0.mk (below_step (by repeat (first | (with_reducible first | exact HB.out | apply below_alloc | apply pw_below_drewN | apply below_drew1 | refine below_set ?_ GE188.out) | exact HB.out)) hb); clear BK188; clear HB; have HO193 := n0_; have BK188 := n1_; have HB := n2_; clear n0_ n1_ n2_; (try clear hb); (try clear hb2); (try clear hk); (try clear hi); (try clear ho0)))
         have n0_ := Aside0.mk (Kd.R_drew HO193.out)
         have n1_ := Aside0.mk (blk_drew BK188.out)
         have n2_ := Aside0.mk (below_drew1 HB.out)
         clear HO193
         clear BK188
         clear HB
         have HO193 := n0_
         have BK188 := n1_
         have HB := n2_
         clear n0_ n1_ n2_
         obtain ⟨Ao32, co32, eo32⟩ := Kd.R_slice HO193.out
         (first | subst eo32 | (injection eo32 with f1_ f2_ f3_; have f4_ := f1_.symm; have f5_ := f3_.symm; clear f1_ f2_ f3_; subst f4_; subst f5_))
         have p194 : 0 ≤ (0 : Int) := (by omega)
         have q194 : 0 < (t190.length : Int) := of_decide_eq_true (by first | (with_reducible assumption) | assumption)
         obtain ⟨ad194, e194, hx194_0⟩ := Kd.at_int (Kd.R_reads' HO193.out).2.2 0 p194 q194
         cases e194
         have qi194 : (0 < t190.length) = True := eq_true (by omega)
         (try rw [show ((0 : Int)).toNat = 0 from rfl] at hx194_0)
         (try rw [Addr.add_zero'] at hx194_0)
         replace p194 := eq_true p194
         replace q194 := eq_true q194
         have p195 : 0 ≤ (1 : Int) := (by omega)
         have q195 : 1 < (t190.length : Int) := of_decide_eq_true (by first | (with_reducible assumption) | assumption)
         obtain ⟨ad195, e195, hx195_0⟩ := Kd.at_int (Kd.R_reads' HO193.out).2.2 1 p195 q195
         obtain rfl : ad194 = ad195 := (by injection e195)
         (try simp only [show (1 : Int).toNat = 1 from rfl, Nat.reduceMul, Nat.reduceEqDiff, Go.Addr.add, ↓reduceIte] at hx195_0)
         have qi195 : (1 < t190.length) = True := eq_true (by omega)
         (try rw [show ((1 : Int)).toNat = 1 from rfl] at hx195_0)
         replace p195 := eq_true p195
         replace q195 := eq_true q195
         have p196 : 0 ≤ (2 : Int) := (by omega)
         have q196 : 2 < (t190.length : Int) := of_decide_eq_true (by first | (with_reducible assumption) | assumption)
         obtain ⟨ad196, e196, hx196_0⟩ := Kd.at_int (Kd.R_reads' HO193.out).2.2 2 p196 q196
         obtain rfl : ad194 = ad196 := (by injection e196)
         (try simp only [show (2 : Int).toNat = 2 from rfl, Nat.reduceMul, Nat.reduceEqDiff, Go.Addr.add, ↓reduceIte] at hx196_0)
         have qi196 : (2 < t190.length) = True := eq_true (by omega)
         (try rw [show ((2 : Int)).toNat = 2 from rfl] at hx196_0)
         replace p196 := eq_true p196
         replace q196 := eq_true q196
         have p197 : 0 ≤ (3 : Int) := (by omega)
         have q197 : 3 < (t190.length : Int) := of_decide_eq_true (by first | (with_reducible assumption) | assumption)
         obtain ⟨ad197, e197, hx197_0⟩ := Kd.at_int (Kd.R_reads' HO193.out).2.2 3 p197 q197
         obtain rfl : ad194 = ad197 := (by injection e197)
         (try simp only [show (3 : Int).toNat = 3 from rfl, Nat.reduceMul, Nat.reduceEqDiff, Go.Addr.add, ↓reduceIte] at hx197_0)
         have qi197 : (3 < t190.length) = True := eq_true (by omega)
         (try rw [show ((3 : Int)).toNat = 3 from rfl] at hx197_0)
         replace p197 := eq_true p197
         replace q197 := eq_true q197
         have p198 : 0 ≤ (4 : Int) := (by omega)
         have q198 : 4 < (t190.length : Int) := of_decide_eq_true (by first | (with_reducible assumption) | assumption)
         obtain ⟨ad198, e198, hx198_0⟩ := Kd.at_int (Kd.R_reads' HO193.out).2.2 4 p198 q198
         obtain rfl : ad194 = ad198 := (by injection e198)
         (try simp only [show (4 : Int).toNat = 4 from rfl, Nat.reduceMul, Nat.reduceEqDiff, Go.Addr.add, ↓reduceIte] at hx198_0)
         have qi198 : (4 < t190.length) = True := eq_true (by omega)
         (try rw [show ((4 : Int)).toNat = 4 from rfl] at hx198_0)
         replace p198 := eq_true p198
         replace q198 := eq_true q198
         have p199 : 0 ≤ (5 : Int) := (by omega)
         have q199 : 5 < (t190.length : Int) := of_decide_eq_true (by first | (with_reducible assumption) | assumption)
         obtain ⟨ad199, e199, hx199_0⟩ := Kd.at_int (Kd.R_reads' HO193.out).2.2 5 p199 q199
         obtain rfl : ad194 = ad199 := (by injection e199)
         (try simp only [show (5 : Int).toNat = 5 from rfl, Nat.reduceMul, Nat.reduceEqDiff, Go.Addr.add, ↓reduceIte] at hx199_0)
         have qi199 : (5 < t190.length) = True := eq_true (by omega)
         (try rw [show ((5 : Int)).toNat = 5 from rfl] at hx199_0)
         replace p199 := eq_true p199
         replace q199 := eq_true q199
         refine start_ (n := 22) (S := fun w' => w'.cell? ad194 = some (.int .i64 (rd t190 0)) ∧ w'.cell? ⟨ad194.block, ad194.off + 1, none⟩ = some (.int .i64 (rd t190 1)) ∧ w'.cell? ⟨ad194.block, ad194.off + 2, none⟩ = some (.int .i64 (rd t190 2)) ∧ w'.cell? ⟨ad194.block, ad194.off + 3, none⟩ = some (.int .i64 (rd t190 3)) ∧ w'.cell? ⟨ad194.block, ad194.off + 4, none⟩ = some (.int .i64 (rd t190 4)) ∧ w'.cell? ⟨ad194.block, ad194.off + 5, none⟩ = some (.int .i64 (rd t190 5))) (ds := []) #[false, false, false, false, false, false, false, false, false, false, false, false, false, false, false, false, false, false, false, false, false, false] (by kernel_rfl) rfl rfl ⟨hx194_0, hx195_0, hx196_0, hx197_0, hx198_0, hx199_0⟩ (fun hHeld => ?_); refine with_tabW impl_ReadUnit.tab2 impl_ReadUnit.bits2 (fun HT_ HW_ => ?_)
         generalize w30.drew = w31 at HO193 BK188 HB hx194_0 hx195_0 hx196_0 hx197_0 hx198_0 hx199_0 hHeld ⊢
         refine pure_ (i := 0) (N := some 14) (v := ?_) (a' := ?_) #[true, false, false, false, false, false, false, false, false, false, false, false, false, false, false, false, false, false, false, false, false, false] rfl rfl (any_of HT_.out (by kernel_rfl)) (fun _ _ _ h => h) (Or.inl ⟨by rfl, ?_⟩) ?_ ?_
         rotate_left
         ·
          intro w'
          go_simp
          with_reducible rfl
         rotate_left
         ·
          simp only [Act.put, List.setIfInBounds_toArray, List.set_cons_zero, List.set_cons_succ, i64_w, i32_w]
          rfl
         refine pure_ (i := 1) (N := some 15) (v := ?_) (a' := ?_) #[true, true, false, false, false, false, false, false, false, false, false, false, false, false, false, false, false, false, false, false, false, false] rfl rfl (any_of HT_.out (by kernel_rfl)) (fun _ _ _ h => h) (Or.inl ⟨by rfl, ?_⟩) ?_ ?_
         rotate_left
         ·
          intro w'
          go_simp
          with_reducible rfl
         rotate_left
         ·
          simp only [Act.put, List.setIfInBounds_toArray, List.set_cons_zero, List.set_cons_succ, i64_w, i32_w]
          rfl
         refine pure_ (i := 2) (N := some 16) (v := ?_) (a' := ?_) #[true, true, true, false, false, false, false, false, false, false, false, false, false, false, false, false, false, false, false, false, false, false] rfl rfl (any_of HT_.out (by kernel_rfl)) (fun _ _ _ h => h) (Or.inl ⟨by rfl, ?_⟩) ?_ ?_
         rotate_left
         ·
          intro w'
          go_simp
          with_reducible rfl
         rotate_left
         ·
          simp only [Act.put, List.setIfInBounds_toArray, List.set_cons_zero, List.set_cons_succ, i64_w, i32_w]
          rfl
         refine pure_ (i := 4) (N := some 18) (v := ?_) (a' := ?_) #[true, true, true, false, true, false, false, false, false, false, false, false, false, false, false, false, false, false, false, false, false, false] rfl rfl (any_of HT_.out (by kernel_rfl)) (fun _ _ _ h => h) (Or.inl ⟨by rfl, ?_⟩) ?_ ?_
         rotate_left
         ·
          intro w'
          go_simp
          with_reducible rfl
         rotate_left
         ·
          simp only [Act.put, List.setIfInBounds_toArray, List.set_cons_zero, List.set_cons_succ, i64_w, i32_w]
          rfl
         refine pure_ (i := 5) (N := some 19) (v := ?_) (a' := ?_) #[true, true, true, false, true, true, false, false, false, false, false, false, false, false, false, false, false, false, false, false, false, false] rfl rfl (any_of HT_.out (by kernel_rfl)) (fun _ _ _ h => h) (Or.inl ⟨by rfl, ?_⟩) ?_ ?_
         rotate_left
         ·
          intro w'
          go_simp
          with_reducible rfl
         rotate_left
         ·
          simp only [Act.put, List.setIfInBounds_toArray, List.set_cons_zero, List.set_cons_succ, i64_w, i32_w]
          rfl
         refine pure_ (i := 7) (N := some 21) (v := ?_) (a' := ?_) #[true, true, true, false, true, true, false, true, false, false, false, false, false, false, false, false, false, false, false, false, false, false] rfl rfl (any_of HT_.out (by kernel_rfl)) (fun _ _ _ h => h) (Or.inl ⟨by rfl, ?_⟩) ?_ ?_
         rotate_left
         ·
          intro w'
          go_simp
          with_reducible rfl
         rotate_left
         ·
          simp only [Act.put, List.setIfInBounds_toArray, List.set_cons_zero, List.set_cons_succ, i64_w, i32_w]
          rfl
         refine pure_ (i := 8) (N := some 22) (v := ?_) (a' := ?_) #[true, true, true, false, true, true, false, true, true, false, false, false, false, false, false, false, false, false, false, false, false, false] rfl rfl (any_of HT_.out (by kernel_rfl)) (fun _ _ _ h => h) (Or.inl ⟨by rfl, ?_⟩) ?_ ?_
         rotate_left
         ·
          intro w'
          go_simp
          with_reducible rfl
         rotate_left
         ·
          simp only [Act.put, List.setIfInBounds_toArray, List.set_cons_zero, List.set_cons_succ, i64_w, i32_w]
          rfl
         refine pure_ (i := 10) (N := some 24) (v := ?_) (a' := ?_) #[true, true, true, false, true, true, false, true, true, false, true, false, false, false, false, false, false, false, false, false, false, false] rfl rfl (any_of HT_.out (by kernel_rfl)) (fun _ _ _ h => h) (Or.inl ⟨by rfl, ?_⟩) ?_ ?_
         rotate_left
         ·
          intro w'
          go_simp
          with_reducible rfl
         rotate_left
         ·
          simp only [Act.put, List.setIfInBounds_toArray, List.set_cons_zero, List.set_cons_succ, i64_w, i32_w]
          rfl
         refine pure_ (i := 11) (N := some 25) (v := ?_) (a' := ?_) #[true, true, true, false, true, true, false, true, true, false, true, true, false, false, false, false, false, false, false, false, false, false] rfl rfl (any_of HT_.out (by kernel_rfl)) (fun _ _ _ h => h) (Or.inl ⟨by rfl, ?_⟩) ?_ ?_
         rotate_left
         ·
          intro w'
          go_simp
          with_reducible rfl
         rotate_left
         ·
          simp only [Act.put, List.setIfInBounds_toArray, List.set_cons_zero, List.set_cons_succ, i64_w, i32_w]
          rfl
         refine pure_ (i := 13) (N := some 27) (v := ?_) (a' := ?_) #[true, true, true, false, true, true, false, true, true, false, true, true, false, true, false, false, false, false, false, false, false, false] rfl rfl (any_of HT_.out (by kernel_rfl)) (fun _ _ _ h => h) (Or.inl ⟨by rfl, ?_⟩) ?_ ?_
         rotate_left
         ·
          intro w'
          go_simp
          with_reducible rfl
         rotate_left
         ·
          simp only [Act.put, List.setIfInBounds_toArray, List.set_cons_zero, List.set_cons_succ, i64_w, i32_w]
          rfl
         refine pure_ (i := 14) (N := some 28) (v := ?_) (a' := ?_) #[true, true, true, false, true, true, false, true, true, false, true, true, false, true, true, false, false, false, false, false, false, false] rfl rfl (any_of HT_.out (by kernel_rfl)) (fun _ _ _ h => h) (Or.inl ⟨by rfl, ?_⟩) ?_ ?_
         rotate_left
         ·
          intro w'
          go_simp
          with_reducible rfl
         rotate_left
         ·
          simp only [Act.put, List.setIfInBounds_toArray, List.set_cons_zero, List.set_cons_succ, i64_w, i32_w]
          rfl
         refine pure_ (i := 16) (N := some 30) (v := ?_) (a' := ?_) #[true, true, true, false, true, true, false, true, true, false, true, true, false, true, true, false, true, false, false, false, false, false] rfl rfl (any_of HT_.out (by kernel_rfl)) (fun _ _ _ h => h) (Or.inl ⟨by rfl, ?_⟩) ?_ ?_
         rotate_left
         ·
          intro w'
          go_simp
          with_reducible rfl
         rotate_left
         ·
          simp only [Act.put, List.setIfInBounds_toArray, List.set_cons_zero, List.set_cons_succ, i64_w, i32_w]
          rfl
         refine pure_ (i := 17) (N := some 31) (v := ?_) (a' := ?_) #[true, true, true, false, true, true, false, true, true, false, true, true, false, true, true, false, true, true, false, false, false, false] rfl rfl (any_of HT_.out (by kernel_rfl)) (fun _ _ _ h => h) (Or.inl ⟨by rfl, ?_⟩) ?_ ?_
         rotate_left
         ·
          intro w'
          go_simp
          with_reducible rfl
         rotate_left
         ·
          simp only [Act.put, List.setIfInBounds_toArray, List.set_cons_zero, List.set_cons_succ, i64_w, i32_w]
          rfl
         refine take_ (i := 3) (N := some 17) (v := ?_) (a' := ?_) #[true, true, true, true, true, true, false, true, true, false, true, true, false, true, true, false, true, true, false, false, false, false] rfl rfl (take_ofW HT_.out HW_.out (by kernel_rfl)) (fun _ _ _ h => h) (Or.inl ⟨by rfl, ?_⟩) hHeld ?_ ?_
         rotate_left
         ·
          rintro w' ⟨s0, s1, s2, s3, s4, s5⟩
          go_simp
          with_reducible rfl
         rotate_left
         ·
          simp only [Act.put, List.setIfInBounds_toArray, List.set_cons_zero, List.set_cons_succ, i64_w, i32_w]
          rfl
         refine take_ (i := 6) (N := some 20) (v := ?_) (a' := ?_) #[true, true, true, true, true, true, true, true, true, false, true, true, false, true, true, false, true, true, false, false, false, false] rfl rfl (take_ofW HT_.out HW_.out (by kernel_rfl)) (fun _ _ _ h => h) (Or.inl ⟨by rfl, ?_⟩) hHeld ?_ ?_
         rotate_left
         ·
          rintro w' ⟨s0, s1, s2, s3, s4, s5⟩
          go_simp
          with_reducible rfl
         rotate_left
         ·
          simp only [Act.put, List.setIfInBounds_toArray, List.set_cons_zero, List.set_cons_succ, i64_w, i32_w]
          rfl
         refine take_ (i := 9) (N := some 23) (v := ?_) (a' := ?_) #[true, true, true, true, true, true, true, true, true, true, true, true, false, true, true, false, true, true, false, false, false, false] rfl rfl (take_ofW HT_.out HW_.out (by kernel_rfl)) (fun _ _ _ h => h) (Or.inl ⟨by rfl, ?_⟩) hHeld ?_ ?_
         rotate_left
         ·
          rintro w' ⟨s0, s1, s2, s3, s4, s5⟩
          go_simp
          with_reducible rfl
         rotate_left
         ·
          simp only [Act.put, List.setIfInBounds_toArray, List.set_cons_zero, List.set_cons_succ, i64_w, i32_w]
          rfl
         refine take_ (i := 12) (N := some 26) (v := ?_) (a' := ?_) #[true, true, true, true, true, true, true, true, true, true, true, true, true, true, true, false, true, true, false, false, false, false] rfl rfl (take_ofW HT_.out HW_.out (by kernel_rfl)) (fun _ _ _ h => h) (Or.inl ⟨by rfl, ?_⟩) hHeld ?_ ?_
         rotate_left
         ·
          rintro w' ⟨s0, s1, s2, s3, s4, s5⟩
          go_simp
          with_reducible rfl
         rotate_left
         ·
          simp only [Act.put, List.setIfInBounds_toArray, List.set_cons_zero, List.set_cons_succ, i64_w, i32_w]
          rfl
         refine take_ (i := 15) (N := some 29) (v := ?_) (a' := ?_) #[true, true, true, true, true, true, true, true, true, true, true, true, true, true, true, true, true, true, false, false, false, false] rfl rfl (take_ofW HT_.out HW_.out (by kernel_rfl)) (fun _ _ _ h => h) (Or.inl ⟨by rfl, ?_⟩) hHeld ?_ ?_
         rotate_left
         ·
          rintro w' ⟨s0, s1, s2, s3, s4, s5⟩
          go_simp
          with_reducible rfl
         rotate_left
         ·
          simp only [Act.put, List.setIfInBounds_toArray, List.set_cons_zero, List.set_cons_succ, i64_w, i32_w]
          rfl
         refine take_ (i := 18) (N := some 32) (v := ?_) (a' := ?_) #[true, true, true, true, true, true, true, true, true, true, true, true, true, true, true, true, true, true, true, false, false, false] rfl rfl (take_ofW HT_.out HW_.out (by kernel_rfl)) (fun _ _ _ h => h) (Or.inl ⟨by rfl, ?_⟩) hHeld ?_ ?_
         rotate_left
         ·
          rintro w' ⟨s0, s1, s2, s3, s4, s5⟩
          go_simp
          with_reducible rfl
         rotate_left
         ·
          simp only [Act.put, List.setIfInBounds_toArray, List.set_cons_zero, List.set_cons_succ, i64_w, i32_w]
          rfl
         refine pure_ (i := 19) (N := some 33) (v := ?_) (a' := ?_) #[true, true, true, true, true, true, true, true, true, true, true, true, true, true, true, true, true, true, true, true, false, false] rfl rfl (any_of HT_.out (by kernel_rfl)) (fun _ _ _ h => h) (Or.inl ⟨by rfl, ?_⟩) ?_ ?_
         rotate_left
         ·
          intro w'
          go_simp
          with_reducible rfl
         rotate_left
         ·
          simp only [Act.put, List.setIfInBounds_toArray, List.set_cons_zero, List.set_cons_succ, i64_w, i32_w]
          rfl
         refine one_ (i := 20) (N := some 7) #[true, true, true, true, true, true, true, true, true, true, true, true, true, true, true, true, true, true, true, true, true, false] rfl rfl (one_of HT_.out (by kernel_rfl)) (by decide) (fun K hK => ?_)
         refine box_step ?hg (N := 7) ?hd (cs := #[.string (⟨#[]⟩ : ByteArray), .int .i64 0, .int .i64 0, .int .i64 0, .int .i64 0, .int .i64 0, .int .i64 0]) (t := 69) ?hr ?_; (case hd => rfl); (case hg => rfl); (case hr => first | (go_simp; done) | (go_simp; rfl))
         intro gb200 hg w33 hbox hb
         have HS0_ := (hb.cell (World.block_lt_of_cell? _ _ (hHeld.1))).trans (hHeld.1)
         have HS1_ := (hb.cell (World.block_lt_of_cell? _ _ (hHeld.2.1))).trans (hHeld.2.1)
         have HS2_ := (hb.cell (World.block_lt_of_cell? _ _ (hHeld.2.2.1))).trans (hHeld.2.2.1)
         have HS3_ := (hb.cell (World.block_lt_of_cell? _ _ (hHeld.2.2.2.1))).trans (hHeld.2.2.2.1)
         have HS4_ := (hb.cell (World.block_lt_of_cell? _ _ (hHeld.2.2.2.2.1))).trans (hHeld.2.2.2.2.1)
         have HS5_ := (hb.cell (World.block_lt_of_cell? _ _ (hHeld.2.2.2.2.2))).trans (hHeld.2.2.2.2.2)
         have n0_ := Aside0.mk (Kd.R_below (by (with_reducible repeat (first | apply Kd.R_alloc | apply Kd.R_drewN | apply Kd.R_drew)); exact HO193.out) hb)
         have n1_ := Aside0.mk (blk_below (g := gb188) (o := .cells #[.string (⟨#[]⟩ : ByteArray), .int .i64 0, .int .i64 0, .int .i64 0, .int .i64 0, .int .i64 0, .int .i64 0] 69 (0, 0)) (by (with_reducible repeat (first | refine blk_drewN ?_ _ | refine blk_drew ?_ | refine blk_alloc ?_ _)); exact BK188.out) hb)
         have n2_ := Aside0.mk (below_step (by repeat (first | (with_reducible first | exact HB.out | apply below_alloc | apply pw_below_drewN | apply below_drew1 | refine below_set ?_ GE188.out) | exact HB.out)) hb)
         have n3_ := Aside0.mk (hbox)
         have n4_ := Aside0.mk ((by rw [hg]; exact (below_size (by repeat (first | (with_reducible first | exact HB.out | apply below_alloc | apply pw_below_drewN | apply below_drew1 | refine below_set ?_ GE188.out) | exact HB.out))) : w.heap.size ≤ gb200))
         have n5_ := Aside0.mk ((by rw [hg]; exact (below_size (by repeat (first | (with_reducible first | exact HB.out | apply below_alloc | apply pw_below_drewN | apply below_drew1 | refine below_set ?_ GE188.out) | exact HB.out))) : w.heap.size ≤ gb200))
         have n6_ := Aside0.mk ((by rw [hg]; exact Nat.ne_of_lt (blk_lt (g := gb188) (o := .cells #[.string (⟨#[]⟩ : ByteArray), .int .i64 0, .int .i64 0, .int .i64 0, .int .i64 0, .int .i64 0, .int .i64 0] 69 (0, 0)) (by (with_reducible repeat (first | refine blk_drewN ?_ _ | refine blk_drew ?_ | refine blk_alloc ?_ _)); exact BK188.out)) : gb188 ≠ gb200))
         have n7_ := Aside0.mk ((by rw [hg]; exact Nat.ne_of_gt (blk_lt (g := gb188) (o := .cells #[.string (⟨#[]⟩ : ByteArray), .int .i64 0, .int .i64 0, .int .i64 0, .int .i64 0, .int .i64 0, .int .i64 0] 69 (0, 0)) (by (with_reducible repeat (first | refine blk_drewN ?_ _ | refine blk_drew ?_ | refine blk_alloc ?_ _)); exact BK188.out)) : gb200 ≠ gb188))
         clear HO193
         clear BK188
         clear HB
         have HO193 := n0_
         have BK188 := n1_
         have HB := n2_
         have BK200 := n3_
         have GW200 := n4_
         have GE200 := n5_
         have NB188_200 := n6_
         have NB200_188 := n7_
         clear n0_ n1_ n2_ n3_ n4_ n5_ n6_ n7_
         clear hb hbox hg
         refine hK.out _ _ ⟨HS0_, HS1_, HS2_, HS3_, HS4_, HS5_⟩ (fun hHeld => ?_)
         clear hK K
         refine norm_ (a' := ?_) ?_ ?_
         rotate_left
         ·
          show Act.put _ (some 7) _ = _
          simp only [Act.put, List.setIfInBounds_toArray, List.set_cons_zero, List.set_cons_succ, i64_w, i32_w]
          rfl
         refine one_ (i := 21) (N := none) #[true, true, true, true, true, true, true, true, true, true, true, true, true, true, true, true, true, true, true, true, true, true] rfl rfl (one_of HT_.out (by kernel_rfl)) (by decide) (fun K hK => ?_)
         have hs34 : w33.cell? ⟨gb200, 0, none⟩ = some (.string (⟨#[]⟩ : ByteArray)) := (blk_cell BK200.out 0).trans rfl
         have hfs34 := blk_frozen BK200.out 0
         have hns34_0 := NB188_200.out
         have hms34_0 := NB200_188.out
         have hs35 : w33.cell? ⟨gb200, 1, none⟩ = some (.int .i64 0) := (blk_cell BK200.out 1).trans rfl
         have hfs35 := blk_frozen BK200.out 1
         have hns35_0 := NB188_200.out
         have hms35_0 := NB200_188.out
         have hs36 : w33.cell? ⟨gb200, 2, none⟩ = some (.int .i64 0) := (blk_cell BK200.out 2).trans rfl
         have hfs36 := blk_frozen BK200.out 2
         have hns36_0 := NB188_200.out
         have hms36_0 := NB200_188.out
         have hs37 : w33.cell? ⟨gb200, 3, none⟩ = some (.int .i64 0) := (blk_cell BK200.out 3).trans rfl
         have hfs37 := blk_frozen BK200.out 3
         have hns37_0 := NB188_200.out
         have hms37_0 := NB200_188.out
         have hs38 : w33.cell? ⟨gb200, 4, none⟩ = some (.int .i64 0) := (blk_cell BK200.out 4).trans rfl
         have hfs38 := blk_frozen BK200.out 4
         have hns38_0 := NB188_200.out
         have hms38_0 := NB200_188.out
         have hs39 : w33.cell? ⟨gb200, 5, none⟩ = some (.int .i64 0) := (blk_cell BK200.out 5).trans rfl
         have hfs39 := blk_frozen BK200.out 5
         have hns39_0 := NB188_200.out
         have hms39_0 := NB200_188.out
         have hs40 : w33.cell? ⟨gb200, 6, none⟩ = some (.int .i64 0) := (blk_cell BK200.out 6).trans rfl
         have hfs40 := blk_frozen BK200.out 6
         have hns40_0 := NB188_200.out
         have hms40_0 := NB200_188.out
         refine skip_ (w1 := ?_) (by rfl) rfl ?_ ?_
         rotate_left
         ·
          go_simp
          rfl
         refine hK.out _ _ ⟨((cell_far (p := ⟨gb200, _, none⟩) (by first | exact Kd.own_blk (Kd.R_ne HO193.out BK200.out (by decide)) | (rw [add_block]; exact Kd.own_blk (Kd.R_ne HO193.out BK200.out (by decide))) | (show (Addr.add _ _).block ≠ _; rw [add_block]; exact Kd.own_blk (Kd.R_ne HO193.out BK200.out (by decide))) | (dsimp only; exact Kd.own_blk (Kd.R_ne HO193.out BK200.out (by decide)))) _).trans (((cell_far (p := ⟨gb200, _, none⟩) (by first | exact Kd.own_blk (Kd.R_ne HO193.out BK200.out (by decide)) | (rw [add_block]; exact Kd.own_blk (Kd.R_ne HO193.out BK200.out (by decide))) | (show (Addr.add _ _).block ≠ _; rw [add_block]; exact Kd.own_blk (Kd.R_ne HO193.out BK200.out (by decide))) | (dsimp only; exact Kd.own_blk (Kd.R_ne HO193.out BK200.out (by decide)))) _).trans (((cell_far (p := ⟨gb200, _, none⟩) (by first | exact Kd.own_blk (Kd.R_ne HO193.out BK200.out (by decide)) | (rw [add_block]; exact Kd.own_blk (Kd.R_ne HO193.out BK200.out (by decide))) | (show (Addr.add _ _).block ≠ _; rw [add_block]; exact Kd.own_blk (Kd.R_ne HO193.out BK200.out (by decide))) | (dsimp only; exact Kd.own_blk (Kd.R_ne HO193.out BK200.out (by decide)))) _).trans (((cell_far (p := ⟨gb200, _, none⟩) (by first | exact Kd.own_blk (Kd.R_ne HO193.out BK200.out (by decide)) | (rw [add_block]; exact Kd.own_blk (Kd.R_ne HO193.out BK200.out (by decide))) | (show (Addr.add _ _).block ≠ _; rw [add_block]; exact Kd.own_blk (Kd.R_ne HO193.out BK200.out (by decide))) | (dsimp only; exact Kd.own_blk (Kd.R_ne HO193.out BK200.out (by decide)))) _).trans (((cell_far (p := ⟨gb200, _, none⟩) (by first | exact Kd.own_blk (Kd.R_ne HO193.out BK200.out (by decide)) | (rw [add_block]; exact Kd.own_blk (Kd.R_ne HO193.out BK200.out (by decide))) | (show (Addr.add _ _).block ≠ _; rw [add_block]; exact Kd.own_blk (Kd.R_ne HO193.out BK200.out (by decide))) | (dsimp only; exact Kd.own_blk (Kd.R_ne HO193.out BK200.out (by decide)))) _).trans (((cell_far (p := ⟨gb200, _, none⟩) (by first | exact Kd.own_blk (Kd.R_ne HO193.out BK200.out (by decide)) | (rw [add_block]; exact Kd.own_blk (Kd.R_ne HO193.out BK200.out (by decide))) | (show (Addr.add _ _).block ≠ _; rw [add_block]; exact Kd.own_blk (Kd.R_ne HO193.out BK200.out (by decide))) | (dsimp only; exact Kd.own_blk (Kd.R_ne HO193.out BK200.out (by decide)))) _).trans (((cell_far (p := ⟨gb200, _, none⟩) (by first | exact Kd.own_blk (Kd.R_ne HO193.out BK200.out (by decide)) | (rw [add_block]; exact Kd.own_blk (Kd.R_ne HO193.out BK200.out (by decide))) | (show (Addr.add _ _).block ≠ _; rw [add_block]; exact Kd.own_blk (Kd.R_ne HO193.out BK200.out (by decide))) | (dsimp only; exact Kd.own_blk (Kd.R_ne HO193.out BK200.out (by decide)))) _).trans (hHeld.1)))))))))))))), ((cell_far (p := ⟨gb200, _, none⟩) (by first | exact Kd.own_blk (Kd.R_ne HO193.out BK200.out (by decide)) | (rw [add_block]; exact Kd.own_blk (Kd.R_ne HO193.out BK200.out (by decide))) | (show (Addr.add _ _).block ≠ _; rw [add_block]; exact Kd.own_blk (Kd.R_ne HO193.out BK200.out (by decide))) | (dsimp only; exact Kd.own_blk (Kd.R_ne HO193.out BK200.out (by decide)))) _).trans (((cell_far (p := ⟨gb200, _, none⟩) (by first | exact Kd.own_blk (Kd.R_ne HO193.out BK200.out (by decide)) | (rw [add_block]; exact Kd.own_blk (Kd.R_ne HO193.out BK200.out (by decide))) | (show (Addr.add _ _).block ≠ _; rw [add_block]; exact Kd.own_blk (Kd.R_ne HO193.out BK200.out (by decide))) | (dsimp only; exact Kd.own_blk (Kd.R_ne HO193.out BK200.out (by decide)))) _).trans (((cell_far (p := ⟨gb200, _, none⟩) (by first | exact Kd.own_blk (Kd.R_ne HO193.out BK200.out (by decide)) | (rw [add_block]; exact Kd.own_blk (Kd.R_ne HO193.out BK200.out (by decide))) | (show (Addr.add _ _).block ≠ _; rw [add_block]; exact Kd.own_blk (Kd.R_ne HO193.out BK200.out (by decide))) | (dsimp only; exact Kd.own_blk (Kd.R_ne HO193.out BK200.out (by decide)))) _).trans (((cell_far (p := ⟨gb200, _, none⟩) (by first | exact Kd.own_blk (Kd.R_ne HO193.out BK200.out (by decide)) | (rw [add_block]; exact Kd.own_blk (Kd.R_ne HO193.out BK200.out (by decide))) | (show (Addr.add _ _).block ≠ _; rw [add_block]; exact Kd.own_blk (Kd.R_ne HO193.out BK200.out (by decide))) | (dsimp only; exact Kd.own_blk (Kd.R_ne HO193.out BK200.out (by decide)))) _).trans (((cell_far (p := ⟨gb200, _, none⟩) (by first | exact Kd.own_blk (Kd.R_ne HO193.out BK200.out (by decide)) | (rw [add_block]; exact Kd.own_blk (Kd.R_ne HO193.out BK200.out (by decide))) | (show (Addr.add _ _).block ≠ _; rw [add_block]; exact Kd.own_blk (Kd.R_ne HO193.out BK200.out (by decide))) | (dsimp only; exact Kd.own_blk (Kd.R_ne HO193.out BK200.out (by decide)))) _).trans (((cell_far (p := ⟨gb200, _, none⟩) (by first | exact Kd.own_blk (Kd.R_ne HO193.out BK200.out (by decide)) | (rw [add_block]; exact Kd.own_blk (Kd.R_ne HO193.out BK200.out (by decide))) | (show (Addr.add _ _).block ≠ _; rw [add_block]; exact Kd.own_blk (Kd.R_ne HO193.out BK200.out (by decide))) | (dsimp only; exact Kd.own_blk (Kd.R_ne HO193.out BK200.out (by decide)))) _).trans (((cell_far (p := ⟨gb200, _, none⟩) (by first | exact Kd.own_blk (Kd.R_ne HO193.out BK200.out (by decide)) | (rw [add_block]; exact Kd.own_blk (Kd.R_ne HO193.out BK200.out (by decide))) | (show (Addr.add _ _).block ≠ _; rw [add_block]; exact Kd.own_blk (Kd.R_ne HO193.out BK200.out (by decide))) | (dsimp only; exact Kd.own_blk (Kd.R_ne HO193.out BK200.out (by decide)))) _).trans (hHeld.2.1)))))))))))))), ((cell_far (p := ⟨gb200, _, none⟩) (by first | exact Kd.own_blk (Kd.R_ne HO193.out BK200.out (by decide)) | (rw [add_block]; exact Kd.own_blk (Kd.R_ne HO193.out BK200.out (by decide))) | (show (Addr.add _ _).block ≠ _; rw [add_block]; exact Kd.own_blk (Kd.R_ne HO193.out BK200.out (by decide))) | (dsimp only; exact Kd.own_blk (Kd.R_ne HO193.out BK200.out (by decide)))) _).trans (((cell_far (p := ⟨gb200, _, none⟩) (by first | exact Kd.own_blk (Kd.R_ne HO193.out BK200.out (by decide)) | (rw [add_block]; exact Kd.own_blk (Kd.R_ne HO193.out BK200.out (by decide))) | (show (Addr.add _ _).block ≠ _; rw [add_block]; exact Kd.own_blk (Kd.R_ne HO193.out BK200.out (by decide))) | (dsimp only; exact Kd.own_blk (Kd.R_ne HO193.out BK200.out (by decide)))) _).trans (((cell_far (p := ⟨gb200, _, none⟩) (by first | exact Kd.own_blk (Kd.R_ne HO193.out BK200.out (by decide)) | (rw [add_block]; exact Kd.own_blk (Kd.R_ne HO193.out BK200.out (by decide))) | (show (Addr.add _ _).block ≠ _; rw [add_block]; exact Kd.own_blk (Kd.R_ne HO193.out BK200.out (by decide))) | (dsimp only; exact Kd.own_blk (Kd.R_ne HO193.out BK200.out (by decide)))) _).trans (((cell_far (p := ⟨gb200, _, none⟩) (by first | exact Kd.own_blk (Kd.R_ne HO193.out BK200.out (by decide)) | (rw [add_block]; exact Kd.own_blk (Kd.R_ne HO193.out BK200.out (by decide))) | (show (Addr.add _ _).block ≠ _; rw [add_block]; exact Kd.own_blk (Kd.R_ne HO193.out BK200.out (by decide))) | (dsimp only; exact Kd.own_blk (Kd.R_ne HO193.out BK200.out (by decide)))) _).trans (((cell_far (p := ⟨gb200, _, none⟩) (by first | exact Kd.own_blk (Kd.R_ne HO193.out BK200.out (by decide)) | (rw [add_block]; exact Kd.own_blk (Kd.R_ne HO193.out BK200.out (by decide))) | (show (Addr.add _ _).block ≠ _; rw [add_block]; exact Kd.own_blk (Kd.R_ne HO193.out BK200.out (by decide))) | (dsimp only; exact Kd.own_blk (Kd.R_ne HO193.out BK200.out (by decide)))) _).trans (((cell_far (p := ⟨gb200, _, none⟩) (by first | exact Kd.own_blk (Kd.R_ne HO193.out BK200.out (by decide)) | (rw [add_block]; exact Kd.own_blk (Kd.R_ne HO193.out BK200.out (by decide))) | (show (Addr.add _ _).block ≠ _; rw [add_block]; exact Kd.own_blk (Kd.R_ne HO193.out BK200.out (by decide))) | (dsimp only; exact Kd.own_blk (Kd.R_ne HO193.out BK200.out (by decide)))) _).trans (((cell_far (p := ⟨gb200, _, none⟩) (by first | exact Kd.own_blk (Kd.R_ne HO193.out BK200.out (by decide)) | (rw [add_block]; exact Kd.own_blk (Kd.R_ne HO193.out BK200.out (by decide))) | (show (Addr.add _ _).block ≠ _; rw [add_block]; exact Kd.own_blk (Kd.R_ne HO193.out BK200.out (by decide))) | (dsimp only; exact Kd.own_blk (Kd.R_ne HO193.out BK200.out (by decide)))) _).trans (hHeld.2.2.1)))))))))))))), ((cell_far (p := ⟨gb200, _, none⟩) (by first | exact Kd.own_blk (Kd.R_ne HO193.out BK200.out (by decide)) | (rw [add_block]; exact Kd.own_blk (Kd.R_ne HO193.out BK200.out (by decide))) | (show (Addr.add _ _).block ≠ _; rw [add_block]; exact Kd.own_blk (Kd.R_ne HO193.out BK200.out (by decide))) | (dsimp only; exact Kd.own_blk (Kd.R_ne HO193.out BK200.out (by decide)))) _).trans (((cell_far (p := ⟨gb200, _, none⟩) (by first | exact Kd.own_blk (Kd.R_ne HO193.out BK200.out (by decide)) | (rw [add_block]; exact Kd.own_blk (Kd.R_ne HO193.out BK200.out (by decide))) | (show (Addr.add _ _).block ≠ _; rw [add_block]; exact Kd.own_blk (Kd.R_ne HO193.out BK200.out (by decide))) | (dsimp only; exact Kd.own_blk (Kd.R_ne HO193.out BK200.out (by decide)))) _).trans (((cell_far (p := ⟨gb200, _, none⟩) (by first | exact Kd.own_blk (Kd.R_ne HO193.out BK200.out (by decide)) | (rw [add_block]; exact Kd.own_blk (Kd.R_ne HO193.out BK200.out (by decide))) | (show (Addr.add _ _).block ≠ _; rw [add_block]; exact Kd.own_blk (Kd.R_ne HO193.out BK200.out (by decide))) | (dsimp only; exact Kd.own_blk (Kd.R_ne HO193.out BK200.out (by decide)))) _).trans (((cell_far (p := ⟨gb200, _, none⟩) (by first | exact Kd.own_blk (Kd.R_ne HO193.out BK200.out (by decide)) | (rw [add_block]; exact Kd.own_blk (Kd.R_ne HO193.out BK200.out (by decide))) | (show (Addr.add _ _).block ≠ _; rw [add_block]; exact Kd.own_blk (Kd.R_ne HO193.out BK200.out (by decide))) | (dsimp only; exact Kd.own_blk (Kd.R_ne HO193.out BK200.out (by decide)))) _).trans (((cell_far (p := ⟨gb200, _, none⟩) (by first | exact Kd.own_blk (Kd.R_ne HO193.out BK200.out (by decide)) | (rw [add_block]; exact Kd.own_blk (Kd.R_ne HO193.out BK200.out (by decide))) | (show (Addr.add _ _).block ≠ _; rw [add_block]; exact Kd.own_blk (Kd.R_ne HO193.out BK200.out (by decide))) | (dsimp only; exact Kd.own_blk (Kd.R_ne HO193.out BK200.out (by decide)))) _).trans (((cell_far (p := ⟨gb200, _, none⟩) (by first | exact Kd.own_blk (Kd.R_ne HO193.out BK200.out (by decide)) | (rw [add_block]; exact Kd.own_blk (Kd.R_ne HO193.out BK200.out (by decide))) | (show (Addr.add _ _).block ≠ _; rw [add_block]; exact Kd.own_blk (Kd.R_ne HO193.out BK200.out (by decide))) | (dsimp only; exact Kd.own_blk (Kd.R_ne HO193.out BK200.out (by decide)))) _).trans (((cell_far (p := ⟨gb200, _, none⟩) (by first | exact Kd.own_blk (Kd.R_ne HO193.out BK200.out (by decide)) | (rw [add_block]; exact Kd.own_blk (Kd.R_ne HO193.out BK200.out (by decide))) | (show (Addr.add _ _).block ≠ _; rw [add_block]; exact Kd.own_blk (Kd.R_ne HO193.out BK200.out (by decide))) | (dsimp only; exact Kd.own_blk (Kd.R_ne HO193.out BK200.out (by decide)))) _).trans (hHeld.2.2.2.1)))))))))))))), ((cell_far (p := ⟨gb200, _, none⟩) (by first | exact Kd.own_blk (Kd.R_ne HO193.out BK200.out (by decide)) | (rw [add_block]; exact Kd.own_blk (Kd.R_ne HO193.out BK200.out (by decide))) | (show (Addr.add _ _).block ≠ _; rw [add_block]; exact Kd.own_blk (Kd.R_ne HO193.out BK200.out (by decide))) | (dsimp only; exact Kd.own_blk (Kd.R_ne HO193.out BK200.out (by decide)))) _).trans (((cell_far (p := ⟨gb200, _, none⟩) (by first | exact Kd.own_blk (Kd.R_ne HO193.out BK200.out (by decide)) | (rw [add_block]; exact Kd.own_blk (Kd.R_ne HO193.out BK200.out (by decide))) | (show (Addr.add _ _).block ≠ _; rw [add_block]; exact Kd.own_blk (Kd.R_ne HO193.out BK200.out (by decide))) | (dsimp only; exact Kd.own_blk (Kd.R_ne HO193.out BK200.out (by decide)))) _).trans (((cell_far (p := ⟨gb200, _, none⟩) (by first | exact Kd.own_blk (Kd.R_ne HO193.out BK200.out (by decide)) | (rw [add_block]; exact Kd.own_blk (Kd.R_ne HO193.out BK200.out (by decide))) | (show (Addr.add _ _).block ≠ _; rw [add_block]; exact Kd.own_blk (Kd.R_ne HO193.out BK200.out (by decide))) | (dsimp only; exact Kd.own_blk (Kd.R_ne HO193.out BK200.out (by decide)))) _).trans (((cell_far (p := ⟨gb200, _, none⟩) (by first | exact Kd.own_blk (Kd.R_ne HO193.out BK200.out (by decide)) | (rw [add_block]; exact Kd.own_blk (Kd.R_ne HO193.out BK200.out (by decide))) | (show (Addr.add _ _).block ≠ _; rw [add_block]; exact Kd.own_blk (Kd.R_ne HO193.out BK200.out (by decide))) | (dsimp only; exact Kd.own_blk (Kd.R_ne HO193.out BK200.out (by decide)))) _).trans (((cell_far (p := ⟨gb200, _, none⟩) (by first | exact Kd.own_blk (Kd.R_ne HO193.out BK200.out (by decide)) | (rw [add_block]; exact Kd.own_blk (Kd.R_ne HO193.out BK200.out (by decide))) | (show (Addr.add _ _).block ≠ _; rw [add_block]; exact Kd.own_blk (Kd.R_ne HO193.out BK200.out (by decide))) | (dsimp only; exact Kd.own_blk (Kd.R_ne HO193.out BK200.out (by decide)))) _).trans (((cell_far (p := ⟨gb200, _, none⟩) (by first | exact Kd.own_blk (Kd.R_ne HO193.out BK200.out (by decide)) | (rw [add_block]; exact Kd.own_blk (Kd.R_ne HO193.out BK200.out (by decide))) | (show (Addr.add _ _).block ≠ _; rw [add_block]; exact Kd.own_blk (Kd.R_ne HO193.out BK200.out (by decide))) | (dsimp only; exact Kd.own_blk (Kd.R_ne HO193.out BK200.out (by decide)))) _).trans (((cell_far (p := ⟨gb200, _, none⟩) (by first | exact Kd.own_blk (Kd.R_ne HO193.out BK200.out (by decide)) | (rw [add_block]; exact Kd.own_blk (Kd.R_ne HO193.out BK200.out (by decide))) | (show (Addr.add _ _).block ≠ _; rw [add_block]; exact Kd.own_blk (Kd.R_ne HO193.out BK200.out (by decide))) | (dsimp only; exact Kd.own_blk (Kd.R_ne HO193.out BK200.out (by decide)))) _).trans (hHeld.2.2.2.2.1)))))))))))))), ((cell_far (p := ⟨gb200, _, none⟩) (by first | exact Kd.own_blk (Kd.R_ne HO193.out BK200.out (by decide)) | (rw [add_block]; exact Kd.own_blk (Kd.R_ne HO193.out BK200.out (by decide))) | (show (Addr.add _ _).block ≠ _; rw [add_block]; exact Kd.own_blk (Kd.R_ne HO193.out BK200.out (by decide))) | (dsimp only; exact Kd.own_blk (Kd.R_ne HO193.out BK200.out (by decide)))) _).trans (((cell_far (p := ⟨gb200, _, none⟩) (by first | exact Kd.own_blk (Kd.R_ne HO193.out BK200.out (by decide)) | (rw [add_block]; exact Kd.own_blk (Kd.R_ne HO193.out BK200.out (by decide))) | (show (Addr.add _ _).block ≠ _; rw [add_block]; exact Kd.own_blk (Kd.R_ne HO193.out BK200.out (by decide))) | (dsimp only; exact Kd.own_blk (Kd.R_ne HO193.out BK200.out (by decide)))) _).trans (((cell_far (p := ⟨gb200, _, none⟩) (by first | exact Kd.own_blk (Kd.R_ne HO193.out BK200.out (by decide)) | (rw [add_block]; exact Kd.own_blk (Kd.R_ne HO193.out BK200.out (by decide))) | (show (Addr.add _ _).block ≠ _; rw [add_block]; exact Kd.own_blk (Kd.R_ne HO193.out BK200.out (by decide))) | (dsimp only; exact Kd.own_blk (Kd.R_ne HO193.out BK200.out (by decide)))) _).trans (((cell_far (p := ⟨gb200, _, none⟩) (by first | exact Kd.own_blk (Kd.R_ne HO193.out BK200.out (by decide)) | (rw [add_block]; exact Kd.own_blk (Kd.R_ne HO193.out BK200.out (by decide))) | (show (Addr.add _ _).block ≠ _; rw [add_block]; exact Kd.own_blk (Kd.R_ne HO193.out BK200.out (by decide))) | (dsimp only; exact Kd.own_blk (Kd.R_ne HO193.out BK200.out (by decide)))) _).trans (((cell_far (p := ⟨gb200, _, none⟩) (by first | exact Kd.own_blk (Kd.R_ne HO193.out BK200.out (by decide)) | (rw [add_block]; exact Kd.own_blk (Kd.R_ne HO193.out BK200.out (by decide))) | (show (Addr.add _ _).block ≠ _; rw [add_block]; exact Kd.own_blk (Kd.R_ne HO193.out BK200.out (by decide))) | (dsimp only; exact Kd.own_blk (Kd.R_ne HO193.out BK200.out (by decide)))) _).trans (((cell_far (p := ⟨gb200, _, none⟩) (by first | exact Kd.own_blk (Kd.R_ne HO193.out BK200.out (by decide)) | (rw [add_block]; exact Kd.own_blk (Kd.R_ne HO193.out BK200.out (by decide))) | (show (Addr.add _ _).block ≠ _; rw [add_block]; exact Kd.own_blk (Kd.R_ne HO193.out BK200.out (by decide))) | (dsimp only; exact Kd.own_blk (Kd.R_ne HO193.out BK200.out (by decide)))) _).trans (((cell_far (p := ⟨gb200, _, none⟩) (by first | exact Kd.own_blk (Kd.R_ne HO193.out BK200.out (by decide)) | (rw [add_block]; exact Kd.own_blk (Kd.R_ne HO193.out BK200.out (by decide))) | (show (Addr.add _ _).block ≠ _; rw [add_block]; exact Kd.own_blk (Kd.R_ne HO193.out BK200.out (by decide))) | (dsimp only; exact Kd.own_blk (Kd.R_ne HO193.out BK200.out (by decide)))) _).trans (hHeld.2.2.2.2.2))))))))))))))⟩ (fun hHeld => ?_)
         clear hK K
         refine done_ (done_of HT_.out (by kernel_rfl)) ?_
         have hnb41 := NB200_188.out
         have hnc41 := NB188_200.out
         have hcz42_0 : w33.cell? ⟨gb200, 0, none⟩ = some (.string (⟨#[]⟩ : ByteArray)) := (blk_cell BK200.out 0).trans rfl
         have hcz42_1 : w33.cell? ⟨gb200, 1, none⟩ = some (.int .i64 0) := (blk_cell BK200.out 1).trans rfl
         have hcz42_2 : w33.cell? ⟨gb200, 2, none⟩ = some (.int .i64 0) := (blk_cell BK200.out 2).trans rfl
         have hcz42_3 : w33.cell? ⟨gb200, 3, none⟩ = some (.int .i64 0) := (blk_cell BK200.out 3).trans rfl
         have hcz42_4 : w33.cell? ⟨gb200, 4, none⟩ = some (.int .i64 0) := (blk_cell BK200.out 4).trans rfl
         have hcz42_5 : w33.cell? ⟨gb200, 5, none⟩ = some (.int .i64 0) := (blk_cell BK200.out 5).trans rfl
         have hcz42_6 : w33.cell? ⟨gb200, 6, none⟩ = some (.int .i64 0) := (blk_cell BK200.out 6).trans rfl
         have hfz42_0 := blk_frozen BK200.out 0
         have hfz42_1 := blk_frozen BK200.out 1
         have hfz42_2 := blk_frozen BK200.out 2
         have hfz42_3 := blk_frozen BK200.out 3
         have hfz42_4 := blk_frozen BK200.out 4
         have hfz42_5 := blk_frozen BK200.out 5
         have hfz42_6 := blk_frozen BK200.out 6
         try go_wp2_with (first | (go_at_call 90; (with_reducible refine (impl_UnitText.calls k t189 (rd t190 0) (rd t190 1) (rd t190 2) (rd t190 3) (rd t190 4) (rd t190 5) t201 _ ?side1 A10.out).mono ?_); (case side1 => exact wok_ HWOK_.out (by repeat (first | (with_reducible first | exact HB.out | apply below_alloc | apply pw_below_drewN | apply below_drew1 | refine below_set ?_ GE188.out | refine below_set ?_ GE200.out) | exact HB.out))); rintro e w43 ⟨rfl, hb⟩; have n0_ := Aside0.mk (Kd.R_below (by (with_reducible repeat (first | apply Kd.R_alloc | apply Kd.R_drewN | apply Kd.R_drew)); exact (Kd.R_mono (Kd.R_far (p := ⟨gb200, 6, none⟩) (Kd.R_far (p := ⟨gb200, 5, none⟩) (Kd.R_far (p := ⟨gb200, 4, none⟩) (Kd.R_far (p := ⟨gb200, 3, none⟩) (Kd.R_far (p := ⟨gb200, 2, none⟩) (Kd.R_far (p := ⟨gb200, 1, none⟩) (Kd.R_far (p := ⟨gb200, 0, none⟩) (Kd.R_types HO193.out BK200.out (by decide)) (fun _ hk => hk.2) (.string t189)) (fun _ hk => hk.2) (.int .i64 (rd t190 0))) (fun _ hk => hk.2) (.int .i64 (rd t190 1))) (fun _ hk => hk.2) (.int .i64 (rd t190 2))) (fun _ hk => hk.2) (.int .i64 (rd t190 3))) (fun _ hk => hk.2) (.int .i64 (rd t190 4))) (fun _ hk => hk.2) (.int .i64 (rd t190 5))) (fun _ h_ => h_.1))) hb); have n1_ := Aside0.mk (blk_below (g := gb188) (o := .cells #[.string (⟨#[]⟩ : ByteArray), .int .i64 0, .int .i64 0, .int .i64 0, .int .i64 0, .int .i64 0, .int .i64 0] 69 (0, 0)) (by (with_reducible repeat (first | refine blk_drewN ?_ _ | refine blk_drew ?_ | refine blk_alloc ?_ _)); refine blk_far ?_ NB188_200.out _; (with_reducible repeat (first | refine blk_drewN ?_ _ | refine blk_drew ?_ | refine blk_alloc ?_ _)); refine blk_far ?_ NB188_200.out _; (with_reducible repeat (first | refine blk_drewN ?_ _ | refine blk_drew ?_ | refine blk_alloc ?_ _)); refine blk_far ?_ NB188_200.out _; (with_reducible repeat (first | refine blk_drewN ?_ _ | refine blk_drew ?_ | refine blk_alloc ?_ _)); refine blk_far ?_ NB188_200.out _; (with_reducible repeat (first | refine blk_drewN ?_ _ | refine blk_drew ?_ | refine blk_alloc ?_ _)); refine blk_far ?_ NB188_200.out _; (with_reducible repeat (first | refine blk_drewN ?_ _ | refine blk_drew ?_ | refine blk_alloc ?_ _)); refine blk_far ?_ NB188_200.out _; (with_reducible repeat (first | refine blk_drewN ?_ _ | refine blk_drew ?_ | refine blk_alloc ?_ _)); refine blk_far ?_ NB188_200.out _; (with_reducible repeat (first | refine blk_drewN ?_ _ | refine blk_drew ?_ | refine blk_alloc ?_ _)); exact BK188.out) hb); have n2_ := Aside0.mk (blk_below (g := gb200) (o := .cells #[.string t189, .int .i64 (rd t190 0), .int .i64 (rd t190 1), .int .i64 (rd t190 2), .int .i64 (rd t190 3), .int .i64 (rd t190 4), .int .i64 (rd t190 5)] 69 (0, 0)) (by (with_reducible repeat (first | refine blk_drewN ?_ _ | refine blk_drew ?_ | refine blk_alloc ?_ _)); refine blk_put (cs := #[.string t189, .int .i64 (rd t190 0), .int .i64 (rd t190 1), .int .i64 (rd t190 2), .int .i64 (rd t190 3), .int .i64 (rd t190 4), .int .i64 0]) ?_ 6 _ rfl; (with_reducible repeat (first | refine blk_drewN ?_ _ | refine blk_drew ?_ | refine blk_alloc ?_ _)); refine blk_put (cs := #[.string t189, .int .i64 (rd t190 0), .int .i64 (rd t190 1), .int .i64 (rd t190 2), .int .i64 (rd t190 3), .int .i64 0, .int .i64 0]) ?_ 5 _ rfl; (with_reducible repeat (first | refine blk_drewN ?_ _ | refine blk_drew ?_ | refine blk_alloc ?_ _)); refine blk_put (cs := #[.string t189, .int .i64 (rd t190 0), .int .i64 (rd t190 1), .int .i64 (rd t190 2), .int .i64 0, .int .i64 0, .int .i64 0]) ?_ 4 _ rfl; (with_reducible repeat (first | refine blk_drewN ?_ _ | refine blk_drew ?_ | refine blk_alloc ?_ _)); refine blk_put (cs := #[.string t189, .int .i64 (rd t190 0), .int .i64 (rd t190 1), .int .i64 0, .int .i64 0, .int .i64 0, .int .i64 0]) ?_ 3 _ rfl; (with_reducible repeat (first | refine blk_drewN ?_ _ | refine blk_drew ?_ | refine blk_alloc ?_ _)); refine blk_put (cs := #[.string t189, .int .i64 (rd t190 0), .int .i64 0, .int .i64 0, .int .i64 0, .int .i64 0, .int .i64 0]) ?_ 2 _ rfl; (with_reducible repeat (first | refine blk_drewN ?_ _ | refine blk_drew ?_ | refine blk_alloc ?_ _)); refine blk_put (cs := #[.string t189, .int .i64 0, .int .i64 0, .int .i64 0, .int .i64 0, .int .i64 0, .int .i64 0]) ?_ 1 _ rfl; (with_reducible repeat (first | refine blk_drewN ?_ _ | refine blk_drew ?_ | refine blk_alloc ?_ _)); refine blk_put (cs := #[.string (⟨#[]⟩ : ByteArray), .int .i64 0, .int .i64 0, .int .i64 0, .int .i64 0, .int .i64 0, .int .i64 0]) ?_ 0 _ rfl; (with_reducible repeat (first | refine blk_drewN ?_ _ | refine blk_drew ?_ | refine blk_alloc ?_ _)); exact BK200.out) hb); have n3_ := Aside0.mk (below_step (by repeat (first | (with_reducible first | exact HB.out | apply below_alloc | apply pw_below_drewN | apply below_drew1 | refine below_set ?_ GE188.out | refine below_set ?_ GE200.out) | exact HB.out)) hb); clear HO193; clear BK188; clear BK200; clear HB; have HO193 := n0_; have BK188 := n1_; have BK200 := n2_; have HB := n3_; clear n0_ n1_ n2_ n3_; (try clear hb); (try clear hb2); (try clear hk); (try clear hi); have hcz44_0 : w43.cell? ⟨gb188, 0, none⟩ = some (.string (⟨#[]⟩ : ByteArray)) := (blk_cell BK188.out 0).trans rfl; have hcz44_1 : w43.cell? ⟨gb188, 1, none⟩ = some (.int .i64 0) := (blk_cell BK188.out 1).trans rfl; have hcz44_2 : w43.cell? ⟨gb188, 2, none⟩ = some (.int .i64 0) := (blk_cell BK188.out 2).trans rfl; have hcz44_3 : w43.cell? ⟨gb188, 3, none⟩ = some (.int .i64 0) := (blk_cell BK188.out 3).trans rfl; have hcz44_4 : w43.cell? ⟨gb188, 4, none⟩ = some (.int .i64 0) := (blk_cell BK188.out 4).trans rfl; have hcz44_5 : w43.cell? ⟨gb188, 5, none⟩ = some (.int .i64 0) := (blk_cell BK188.out 5).trans rfl; have hcz44_6 : w43.cell? ⟨gb188, 6, none⟩ = some (.int .i64 0) := (blk_cell BK188.out 6).trans rfl; have hfz44_0 := blk_frozen BK188.out 0; have hfz44_1 := blk_frozen BK188.out 1; have hfz44_2 := blk_frozen BK188.out 2; have hfz44_3 := blk_frozen BK188.out 3; have hfz44_4 := blk_frozen BK188.out 4; have hfz44_5 := blk_frozen BK188.out 5; have hfz44_6 := blk_frozen BK188.out 6))
         refine bodyPost_ret (results_ct rfl _ _ gb188 69 #[.string (⟨#[]⟩ : ByteArray), .int .i64 0, .int .i64 0, .int .i64 0, .int .i64 0, .int .i64 0, .int .i64 0] (0, 0) _ rfl (by (with_reducible repeat (first | refine blk_drewN ?_ _ | refine blk_drew ?_ | refine blk_alloc ?_ _)); refine blk_put (cs := #[.string (⟨#[]⟩ : ByteArray), .int .i64 0, .int .i64 0, .int .i64 0, .int .i64 0, .int .i64 0, .int .i64 0]) ?_ 6 _ rfl; (with_reducible repeat (first | refine blk_drewN ?_ _ | refine blk_drew ?_ | refine blk_alloc ?_ _)); refine blk_put (cs := #[.string (⟨#[]⟩ : ByteArray), .int .i64 0, .int .i64 0, .int .i64 0, .int .i64 0, .int .i64 0, .int .i64 0]) ?_ 5 _ rfl; (with_reducible repeat (first | refine blk_drewN ?_ _ | refine blk_drew ?_ | refine blk_alloc ?_ _)); refine blk_put (cs := #[.string (⟨#[]⟩ : ByteArray), .int .i64 0, .int .i64 0, .int .i64 0, .int .i64 0, .int .i64 0, .int .i64 0]) ?_ 4 _ rfl; (with_reducible repeat (first | refine blk_drewN ?_ _ | refine blk_drew ?_ | refine blk_alloc ?_ _)); refine blk_put (cs := #[.string (⟨#[]⟩ : ByteArray), .int .i64 0, .int .i64 0, .int .i64 0, .int .i64 0, .int .i64 0, .int .i64 0]) ?_ 3 _ rfl; (with_reducible repeat (first | refine blk_drewN ?_ _ | refine blk_drew ?_ | refine blk_alloc ?_ _)); refine blk_put (cs := #[.string (⟨#[]⟩ : ByteArray), .int .i64 0, .int .i64 0, .int .i64 0, .int .i64 0, .int .i64 0, .int .i64 0]) ?_ 2 _ rfl; (with_reducible repeat (first | refine blk_drewN ?_ _ | refine blk_drew ?_ | refine blk_alloc ?_ _)); refine blk_put (cs := #[.string (⟨#[]⟩ : ByteArray), .int .i64 0, .int .i64 0, .int .i64 0, .int .i64 0, .int .i64 0, .int .i64 0]) ?_ 1 _ rfl; (with_reducible repeat (first | refine blk_drewN ?_ _ | refine blk_drew ?_ | refine blk_alloc ?_ _)); refine blk_put (cs := #[.string (⟨#[]⟩ : ByteArray), .int .i64 0, .int .i64 0, .int .i64 0, .int .i64 0, .int .i64 0, .int .i64 0]) ?_ 0 _ rfl; (with_reducible repeat (first | refine blk_drewN ?_ _ | refine blk_drew ?_ | refine blk_alloc ?_ _)); exact BK188.out) Tryd.underlying69 rfl (by kernel_rfl)) rfl ?_
         exact ⟨by first | rfl | (simp [errW_none, errW_some] <;> rfl) | (simp [*, errW_none, errW_some] <;> rfl), by repeat (first | (with_reducible first | exact HB.out | apply below_alloc | apply pw_below_drewN | apply below_drew1 | refine below_set ?_ GE188.out | refine below_set ?_ GE200.out) | exact HB.out)⟩
       ·
        replace c9 := Bool.eq_false_iff.mpr c9
        subst c9
        have H1 : (some ((⟨#[]⟩ : ByteArray), 0, 0, 0, 0, 0, 0, false)) = some (r1, r2, r3, r4, r5, r6, r7, r8) := by rw [if_neg (show ¬ (false = true) by decide)] at H; exact H
        clear H
        have H := H1
        clear H1
        simp only [Option.some.injEq, Prod.mk.injEq] at H
        obtain ⟨rfl, rfl, rfl, rfl, rfl, rfl, rfl, rfl⟩ := H
        go_enter Tryd.func45, Tryd.ntmps45
        try go_wp2_with (first | ((with_reducible refine gate_dst (N := 2) rfl ?_); refine box_event ?hg (N := 2) ?hd (cs := #[.string (⟨#[]⟩ : ByteArray), .int .i64 0, .int .i64 0, .int .i64 0, .int .i64 0, .int .i64 0, .int .i64 0]) (t := 69) ?hr ?_; (case hd => rfl); (case hg => rfl); (case hr => first | (go_simp; done) | (go_simp; rfl)); intro gb188 hg w45 hbox hb; have n0_ := Aside0.mk (below_step (by repeat (first | (with_reducible first | exact HB.out | apply below_alloc | apply pw_below_drewN | apply below_drew1) | exact HB.out)) hb); have n1_ := Aside0.mk (hbox); have n2_ := Aside0.mk ((by rw [hg]; exact (below_size (by repeat (first | (with_reducible first | exact HB.out | apply below_alloc | apply pw_below_drewN | apply below_drew1) | exact HB.out))) : w.heap.size ≤ gb188)); have n3_ := Aside0.mk ((by rw [hg]; exact (below_size (by repeat (first | (with_reducible first | exact HB.out | apply below_alloc | apply pw_below_drewN | apply below_drew1) | exact HB.out))) : w.heap.size ≤ gb188)); clear HB; have HB := n0_; have BK188 := n1_; have GW188 := n2_; have GE188 := n3_; clear n0_ n1_ n2_ n3_; clear hb hbox hg) | ((with_reducible refine gate_callee (f := 79) rfl ?_); refine goesL_ (some 10) rfl rfl Tryd.func79 (by kernel_rfl) rfl #[.string a0, .int .i64 6] rfl (by (try simp only [List.map_toArray, List.map_cons, List.map_nil]); first | done | rfl | (simp only [List.length_drop, List.length_take]; rfl)) ?_; (with_reducible refine (impl_readWithId.calls k a0 6 t189 t190 false _ ?side1 A2.out).mono ?_); (case side1 => exact wok_ HWOK_.out (by repeat (first | (with_reducible first | exact HB.out | apply below_alloc | apply pw_below_drewN | apply below_drew1 | refine below_set ?_ GE188.out) | exact HB.out))); rintro e w46 ⟨v192, rfl, ho0, hb⟩; refine ⟨_, rfl, ?_⟩; have n0_ := Aside0.mk (Kd.R_lower ho0 (below_size (by repeat (first | (with_reducible first | exact HB.out | apply below_alloc | apply pw_below_drewN | apply below_drew1 | refine below_set ?_ GE188.out) | exact HB.out)))); have n1_ := Aside0.mk (blk_below (g := gb188) (o := .cells #[.string (⟨#[]⟩ : ByteArray), .int .i64 0, .int .i64 0, .int .i64 0, .int .i64 0, .int .i64 0, .int .i64 0] 69 (0, 0)) (by (with_reducible repeat (first | refine blk_drewN ?_ _ | refine blk_drew ?_ | refine blk_alloc ?_ _)); exact BK188.out) hb); have n2_ := Aside0.mk (below_step (by repeat (first | (with_reducible first | exact HB.out | apply below_alloc | apply pw_below_drewN | apply below_drew1 | refine below_set ?_ GE188.out) | exact HB.out)) hb); clear BK188; clear HB; have HO193 := n0_; have BK188 := n1_; have HB := n2_; clear n0_ n1_ n2_; (try clear hb); (try clear hb2); (try clear hk); (try clear hi); (try clear ho0)))
        have n0_ := Aside0.mk (Kd.R_drew HO193.out)
        have n1_ := Aside0.mk (blk_drew BK188.out)
        have n2_ := Aside0.mk (below_drew1 HB.out)
        clear HO193
        clear BK188
        clear HB
        have HO193 := n0_
        have BK188 := n1_
        have HB := n2_
        clear n0_ n1_ n2_
        obtain ⟨Ao48, co48, eo48⟩ := Kd.R_slice HO193.out
        (first | subst eo48 | (injection eo48 with f1_ f2_ f3_; have f4_ := f1_.symm; have f5_ := f3_.symm; clear f1_ f2_ f3_; subst f4_; subst f5_))
        have p194 : 0 ≤ (0 : Int) := (by omega)
        have q194 : 0 < (t190.length : Int) := of_decide_eq_true (by first | (with_reducible assumption) | assumption)
        obtain ⟨ad194, e194, hx194_0⟩ := Kd.at_int (Kd.R_reads' HO193.out).2.2 0 p194 q194
        cases e194
        have qi194 : (0 < t190.length) = True := eq_true (by omega)
        (try rw [show ((0 : Int)).toNat = 0 from rfl] at hx194_0)
        (try rw [Addr.add_zero'] at hx194_0)
        replace p194 := eq_true p194
        replace q194 := eq_true q194
        have p195 : 0 ≤ (1 : Int) := (by omega)
        have q195 : 1 < (t190.length : Int) := of_decide_eq_true (by first | (with_reducible assumption) | assumption)
        obtain ⟨ad195, e195, hx195_0⟩ := Kd.at_int (Kd.R_reads' HO193.out).2.2 1 p195 q195
        obtain rfl : ad194 = ad195 := (by injection e195)
        (try simp only [show (1 : Int).toNat = 1 from rfl, Nat.reduceMul, Nat.reduceEqDiff, Go.Addr.add, ↓reduceIte] at hx195_0)
        have qi195 : (1 < t190.length) = True := eq_true (by omega)
        (try rw [show ((1 : Int)).toNat = 1 from rfl] at hx195_0)
        replace p195 := eq_true p195
        replace q195 := eq_true q195
        have p196 : 0 ≤ (2 : Int) := (by omega)
        have q196 : 2 < (t190.length : Int) := of_decide_eq_true (by first | (with_reducible assumption) | assumption)
        obtain ⟨ad196, e196, hx196_0⟩ := Kd.at_int (Kd.R_reads' HO193.out).2.2 2 p196 q196
        obtain rfl : ad194 = ad196 := (by injection e196)
        (try simp only [show (2 : Int).toNat = 2 from rfl, Nat.reduceMul, Nat.reduceEqDiff, Go.Addr.add, ↓reduceIte] at hx196_0)
        have qi196 : (2 < t190.length) = True := eq_true (by omega)
        (try rw [show ((2 : Int)).toNat = 2 from rfl] at hx196_0)
        replace p196 := eq_true p196
        replace q196 := eq_true q196
        have p197 : 0 ≤ (3 : Int) := (by omega)
        have q197 : 3 < (t190.length : Int) := of_decide_eq_true (by first | (with_reducible assumption) | assumption)
        obtain ⟨ad197, e197, hx197_0⟩ := Kd.at_int (Kd.R_reads' HO193.out).2.2 3 p197 q197
        obtain rfl : ad194 = ad197 := (by injection e197)
        (try simp only [show (3 : Int).toNat = 3 from rfl, Nat.reduceMul, Nat.reduceEqDiff, Go.Addr.add, ↓reduceIte] at hx197_0)
        have qi197 : (3 < t190.length) = True := eq_true (by omega)
        (try rw [show ((3 : Int)).toNat = 3 from rfl] at hx197_0)
        replace p197 := eq_true p197
        replace q197 := eq_true q197
        have p198 : 0 ≤ (4 : Int) := (by omega)
        have q198 : 4 < (t190.length : Int) := of_decide_eq_true (by first | (with_reducible assumption) | assumption)
        obtain ⟨ad198, e198, hx198_0⟩ := Kd.at_int (Kd.R_reads' HO193.out).2.2 4 p198 q198
        obtain rfl : ad194 = ad198 := (by injection e198)
        (try simp only [show (4 : Int).toNat = 4 from rfl, Nat.reduceMul, Nat.reduceEqDiff, Go.Addr.add, ↓reduceIte] at hx198_0)
        have qi198 : (4 < t190.length) = True := eq_true (by omega)
        (try rw [show ((4 : Int)).toNat = 4 from rfl] at hx198_0)
        replace p198 := eq_true p198
        replace q198 := eq_true q198
        have p199 : 0 ≤ (5 : Int) := (by omega)
        have q199 : 5 < (t190.length : Int) := of_decide_eq_true (by first | (with_reducible assumption) | assumption)
        obtain ⟨ad199, e199, hx199_0⟩ := Kd.at_int (Kd.R_reads' HO193.out).2.2 5 p199 q199
        obtain rfl : ad194 = ad199 := (by injection e199)
        (try simp only [show (5 : Int).toNat = 5 from rfl, Nat.reduceMul, Nat.reduceEqDiff, Go.Addr.add, ↓reduceIte] at hx199_0)
        have qi199 : (5 < t190.length) = True := eq_true (by omega)
        (try rw [show ((5 : Int)).toNat = 5 from rfl] at hx199_0)
        replace p199 := eq_true p199
        replace q199 := eq_true q199
        refine start_ (n := 22) (S := fun w' => w'.cell? ad194 = some (.int .i64 (rd t190 0)) ∧ w'.cell? ⟨ad194.block, ad194.off + 1, none⟩ = some (.int .i64 (rd t190 1)) ∧ w'.cell? ⟨ad194.block, ad194.off + 2, none⟩ = some (.int .i64 (rd t190 2)) ∧ w'.cell? ⟨ad194.block, ad194.off + 3, none⟩ = some (.int .i64 (rd t190 3)) ∧ w'.cell? ⟨ad194.block, ad194.off + 4, none⟩ = some (.int .i64 (rd t190 4)) ∧ w'.cell? ⟨ad194.block, ad194.off + 5, none⟩ = some (.int .i64 (rd t190 5))) (ds := []) #[false, false, false, false, false, false, false, false, false, false, false, false, false, false, false, false, false, false, false, false, false, false] (by kernel_rfl) rfl rfl ⟨hx194_0, hx195_0, hx196_0, hx197_0, hx198_0, hx199_0⟩ (fun hHeld => ?_); refine with_tabW impl_ReadUnit.tab2 impl_ReadUnit.bits2 (fun HT_ HW_ => ?_)
        generalize w46.drew = w47 at HO193 BK188 HB hx194_0 hx195_0 hx196_0 hx197_0 hx198_0 hx199_0 hHeld ⊢
        refine pure_ (i := 0) (N := some 14) (v := ?_) (a' := ?_) #[true, false, false, false, false, false, false, false, false, false, false, false, false, false, false, false, false, false, false, false, false, false] rfl rfl (any_of HT_.out (by kernel_rfl)) (fun _ _ _ h => h) (Or.inl ⟨by rfl, ?_⟩) ?_ ?_
        rotate_left
        ·
         intro w'
         go_simp
         with_reducible rfl
        rotate_left
        ·
         simp only [Act.put, List.setIfInBounds_toArray, List.set_cons_zero, List.set_cons_succ, i64_w, i32_w]
         rfl
        refine pure_ (i := 1) (N := some 15) (v := ?_) (a' := ?_) #[true, true, false, false, false, false, false, false, false, false, false, false, false, false, false, false, false, false, false, false, false, false] rfl rfl (any_of HT_.out (by kernel_rfl)) (fun _ _ _ h => h) (Or.inl ⟨by rfl, ?_⟩) ?_ ?_
        rotate_left
        ·
         intro w'
         go_simp
         with_reducible rfl
        rotate_left
        ·
         simp only [Act.put, List.setIfInBounds_toArray, List.set_cons_zero, List.set_cons_succ, i64_w, i32_w]
         rfl
        refine pure_ (i := 2) (N := some 16) (v := ?_) (a' := ?_) #[true, true, true, false, false, false, false, false, false, false, false, false, false, false, false, false, false, false, false, false, false, false] rfl rfl (any_of HT_.out (by kernel_rfl)) (fun _ _ _ h => h) (Or.inl ⟨by rfl, ?_⟩) ?_ ?_
        rotate_left
        ·
         intro w'
         go_simp
         with_reducible rfl
        rotate_left
        ·
         simp only [Act.put, List.setIfInBounds_toArray, List.set_cons_zero, List.set_cons_succ, i64_w, i32_w]
         rfl
        refine pure_ (i := 4) (N := some 18) (v := ?_) (a' := ?_) #[true, true, true, false, true, false, false, false, false, false, false, false, false, false, false, false, false, false, false, false, false, false] rfl rfl (any_of HT_.out (by kernel_rfl)) (fun _ _ _ h => h) (Or.inl ⟨by rfl, ?_⟩) ?_ ?_
        rotate_left
        ·
         intro w'
         go_simp
         with_reducible rfl
        rotate_left
        ·
         simp only [Act.put, List.setIfInBounds_toArray, List.set_cons_zero, List.set_cons_succ, i64_w, i32_w]
         rfl
        refine pure_ (i := 5) (N := some 19) (v := ?_) (a' := ?_) #[true, true, true, false, true, true, false, false, false, false, false, false, false, false, false, false, false, false, false, false, false, false] rfl rfl (any_of HT_.out (by kernel_rfl)) (fun _ _ _ h => h) (Or.inl ⟨by rfl, ?_⟩) ?_ ?_
        rotate_left
        ·
         intro w'
         go_simp
         with_reducible rfl
        rotate_left
        ·
         simp only [Act.put, List.setIfInBounds_toArray, List.set_cons_zero, List.set_cons_succ, i64_w, i32_w]
         rfl
        refine pure_ (i := 7) (N := some 21) (v := ?_) (a' := ?_) #[true, true, true, false, true, true, false, true, false, false, false, false, false, false, false, false, false, false, false, false, false, false] rfl rfl (any_of HT_.out (by kernel_rfl)) (fun _ _ _ h => h) (Or.inl ⟨by rfl, ?_⟩) ?_ ?_
        rotate_left
        ·
         intro w'
         go_simp
         with_reducible rfl
        rotate_left
        ·
         simp only [Act.put, List.setIfInBounds_toArray, List.set_cons_zero, List.set_cons_succ, i64_w, i32_w]
         rfl
        refine pure_ (i := 8) (N := some 22) (v := ?_) (a' := ?_) #[true, true, true, false, true, true, false, true, true, false, false, false, false, false, false, false, false, false, false, false, false, false] rfl rfl (any_of HT_.out (by kernel_rfl)) (fun _ _ _ h => h) (Or.inl ⟨by rfl, ?_⟩) ?_ ?_
        rotate_left
        ·
         intro w'
         go_simp
         with_reducible rfl
        rotate_left
        ·
         simp only [Act.put, List.setIfInBounds_toArray, List.set_cons_zero, List.set_cons_succ, i64_w, i32_w]
         rfl
        refine pure_ (i := 10) (N := some 24) (v := ?_) (a' := ?_) #[true, true, true, false, true, true, false, true, true, false, true, false, false, false, false, false, false, false, false, false, false, false] rfl rfl (any_of HT_.out (by kernel_rfl)) (fun _ _ _ h => h) (Or.inl ⟨by rfl, ?_⟩) ?_ ?_
        rotate_left
        ·
         intro w'
         go_simp
         with_reducible rfl
        rotate_left
        ·
         simp only [Act.put, List.setIfInBounds_toArray, List.set_cons_zero, List.set_cons_succ, i64_w, i32_w]
         rfl
        refine pure_ (i := 11) (N := some 25) (v := ?_) (a' := ?_) #[true, true, true, false, true, true, false, true, true, false, true, true, false, false, false, false, false, false, false, false, false, false] rfl rfl (any_of HT_.out (by kernel_rfl)) (fun _ _ _ h => h) (Or.inl ⟨by rfl, ?_⟩) ?_ ?_
        rotate_left
        ·
         intro w'
         go_simp
         with_reducible rfl
        rotate_left
        ·
         simp only [Act.put, List.setIfInBounds_toArray, List.set_cons_zero, List.set_cons_succ, i64_w, i32_w]
         rfl
        refine pure_ (i := 13) (N := some 27) (v := ?_) (a' := ?_) #[true, true, true, false, true, true, false, true, true, false, true, true, false, true, false, false, false, false, false, false, false, false] rfl rfl (any_of HT_.out (by kernel_rfl)) (fun _ _ _ h => h) (Or.inl ⟨by rfl, ?_⟩) ?_ ?_
        rotate_left
        ·
         intro w'
         go_simp
         with_reducible rfl
        rotate_left
        ·
         simp only [Act.put, List.setIfInBounds_toArray, List.set_cons_zero, List.set_cons_succ, i64_w, i32_w]
         rfl
        refine pure_ (i := 14) (N := some 28) (v := ?_) (a' := ?_) #[true, true, true, false, true, true, false, true, true, false, true, true, false, true, true, false, false, false, false, false, false, false] rfl rfl (any_of HT_.out (by kernel_rfl)) (fun _ _ _ h => h) (Or.inl ⟨by rfl, ?_⟩) ?_ ?_
        rotate_left
        ·
         intro w'
         go_simp
         with_reducible rfl
        rotate_left
        ·
         simp only [Act.put, List.setIfInBounds_toArray, List.set_cons_zero, List.set_cons_succ, i64_w, i32_w]
         rfl
        refine pure_ (i := 16) (N := some 30) (v := ?_) (a' := ?_) #[true, true, true, false, true, true, false, true, true, false, true, true, false, true, true, false, true, false, false, false, false, false] rfl rfl (any_of HT_.out (by kernel_rfl)) (fun _ _ _ h => h) (Or.inl ⟨by rfl, ?_⟩) ?_ ?_
        rotate_left
        ·
         intro w'
         go_simp
         with_reducible rfl
        rotate_left
        ·
         simp only [Act.put, List.setIfInBounds_toArray, List.set_cons_zero, List.set_cons_succ, i64_w, i32_w]
         rfl
        refine pure_ (i := 17) (N := some 31) (v := ?_) (a' := ?_) #[true, true, true, false, true, true, false, true, true, false, true, true, false, true, true, false, true, true, false, false, false, false] rfl rfl (any_of HT_.out (by kernel_rfl)) (fun _ _ _ h => h) (Or.inl ⟨by rfl, ?_⟩) ?_ ?_
        rotate_left
        ·
         intro w'
         go_simp
         with_reducible rfl
        rotate_left
        ·
         simp only [Act.put, List.setIfInBounds_toArray, List.set_cons_zero, List.set_cons_succ, i64_w, i32_w]
         rfl
        refine take_ (i := 3) (N := some 17) (v := ?_) (a' := ?_) #[true, true, true, true, true, true, false, true, true, false, true, true, false, true, true, false, true, true, false, false, false, false] rfl rfl (take_ofW HT_.out HW_.out (by kernel_rfl)) (fun _ _ _ h => h) (Or.inl ⟨by rfl, ?_⟩) hHeld ?_ ?_
        rotate_left
        ·
         rintro w' ⟨s0, s1, s2, s3, s4, s5⟩
         go_simp
         with_reducible rfl
        rotate_left
        ·
         simp only [Act.put, List.setIfInBounds_toArray, List.set_cons_zero, List.set_cons_succ, i64_w, i32_w]
         rfl
        refine take_ (i := 6) (N := some 20) (v := ?_) (a' := ?_) #[true, true, true, true, true, true, true, true, true, false, true, true, false, true, true, false, true, true, false, false, false, false] rfl rfl (take_ofW HT_.out HW_.out (by kernel_rfl)) (fun _ _ _ h => h) (Or.inl ⟨by rfl, ?_⟩) hHeld ?_ ?_
        rotate_left
        ·
         rintro w' ⟨s0, s1, s2, s3, s4, s5⟩
         go_simp
         with_reducible rfl
        rotate_left
        ·
         simp only [Act.put, List.setIfInBounds_toArray, List.set_cons_zero, List.set_cons_succ, i64_w, i32_w]
         rfl
        refine take_ (i := 9) (N := some 23) (v := ?_) (a' := ?_) #[true, true, true, true, true, true, true, true, true, true, true, true, false, true, true, false, true, true, false, false, false, false] rfl rfl (take_ofW HT_.out HW_.out (by kernel_rfl)) (fun _ _ _ h => h) (Or.inl ⟨by rfl, ?_⟩) hHeld ?_ ?_
        rotate_left
        ·
         rintro w' ⟨s0, s1, s2, s3, s4, s5⟩
         go_simp
         with_reducible rfl
        rotate_left
        ·
         simp only [Act.put, List.setIfInBounds_toArray, List.set_cons_zero, List.set_cons_succ, i64_w, i32_w]
         rfl
        refine take_ (i := 12) (N := some 26) (v := ?_) (a' := ?_) #[true, true, true, true, true, true, true, true, true, true, true, true, true, true, true, false, true, true, false, false, false, false] rfl rfl (take_ofW HT_.out HW_.out (by kernel_rfl)) (fun _ _ _ h => h) (Or.inl ⟨by rfl, ?_⟩) hHeld ?_ ?_
        rotate_left
        ·
         rintro w' ⟨s0, s1, s2, s3, s4, s5⟩
         go_simp
         with_reducible rfl
        rotate_left
        ·
         simp only [Act.put, List.setIfInBounds_toArray, List.set_cons_zero, List.set_cons_succ, i64_w, i32_w]
         rfl
        refine take_ (i := 15) (N := some 29) (v := ?_) (a' := ?_) #[true, true, true, true, true, true, true, true, true, true, true, true, true, true, true, true, true, true, false, false, false, false] rfl rfl (take_ofW HT_.out HW_.out (by kernel_rfl)) (fun _ _ _ h => h) (Or.inl ⟨by rfl, ?_⟩) hHeld ?_ ?_
        rotate_left
        ·
         rintro w' ⟨s0, s1, s2, s3, s4, s5⟩
         go_simp
         with_reducible rfl
        rotate_left
        ·
         simp only [Act.put, List.setIfInBounds_toArray, List.set_cons_zero, List.set_cons_succ, i64_w, i32_w]
         rfl
        refine take_ (i := 18) (N := some 32) (v := ?_) (a' := ?_) #[true, true, true, true, true, true, true, true, true, true, true, true, true, true, true, true, true, true, true, false, false, false] rfl rfl (take_ofW HT_.out HW_.out (by kernel_rfl)) (fun _ _ _ h => h) (Or.inl ⟨by rfl, ?_⟩) hHeld ?_ ?_
        rotate_left
        ·
         rintro w' ⟨s0, s1, s2, s3, s4, s5⟩
         go_simp
         with_reducible rfl
        rotate_left
        ·
         simp only [Act.put, List.setIfInBounds_toArray, List.set_cons_zero, List.set_cons_succ, i64_w, i32_w]
         rfl
        refine pure_ (i := 19) (N := some 33) (v := ?_) (a' := ?_) #[true, true, true, true, true, true, true, true, true, true, true, true, true, true, true, true, true, true, true, true, false, false] rfl rfl (any_of HT_.out (by kernel_rfl)) (fun _ _ _ h => h) (Or.inl ⟨by rfl, ?_⟩) ?_ ?_
        rotate_left
        ·
         intro w'
         go_simp
         with_reducible rfl
        rotate_left
        ·
         simp only [Act.put, List.setIfInBounds_toArray, List.set_cons_zero, List.set_cons_succ, i64_w, i32_w]
         rfl
        refine one_ (i := 20) (N := some 7) #[true, true, true, true, true, true, true, true, true, true, true, true, true, true, true, true, true, true, true, true, true, false] rfl rfl (one_of HT_.out (by kernel_rfl)) (by decide) (fun K hK => ?_)
        refine box_step ?hg (N := 7) ?hd (cs := #[.string (⟨#[]⟩ : ByteArray), .int .i64 0, .int .i64 0, .int .i64 0, .int .i64 0, .int .i64 0, .int .i64 0]) (t := 69) ?hr ?_; (case hd => rfl); (case hg => rfl); (case hr => first | (go_simp; done) | (go_simp; rfl))
        intro gb200 hg w49 hbox hb
        have HS0_ := (hb.cell (World.block_lt_of_cell? _ _ (hHeld.1))).trans (hHeld.1)
        have HS1_ := (hb.cell (World.block_lt_of_cell? _ _ (hHeld.2.1))).trans (hHeld.2.1)
        have HS2_ := (hb.cell (World.block_lt_of_cell? _ _ (hHeld.2.2.1))).trans (hHeld.2.2.1)
        have HS3_ := (hb.cell (World.block_lt_of_cell? _ _ (hHeld.2.2.2.1))).trans (hHeld.2.2.2.1)
        have HS4_ := (hb.cell (World.block_lt_of_cell? _ _ (hHeld.2.2.2.2.1))).trans (hHeld.2.2.2.2.1)
        have HS5_ := (hb.cell (World.block_lt_of_cell? _ _ (hHeld.2.2.2.2.2))).trans (hHeld.2.2.2.2.2)
        have n0_ := Aside0.mk (Kd.R_below (by (with_reducible repeat (first | apply Kd.R_alloc | apply Kd.R_drewN | apply Kd.R_drew)); exact HO193.out) hb)
        have n1_ := Aside0.mk (blk_below (g := gb188) (o := .cells #[.string (⟨#[]⟩ : ByteArray), .int .i64 0, .int .i64 0, .int .i64 0, .int .i64 0, .int .i64 0, .int .i64 0] 69 (0, 0)) (by (with_reducible repeat (first | refine blk_drewN ?_ _ | refine blk_drew ?_ | refine blk_alloc ?_ _)); exact BK188.out) hb)
        have n2_ := Aside0.mk (below_step (by repeat (first | (with_reducible first | exact HB.out | apply below_alloc | apply pw_below_drewN | apply below_drew1 | refine below_set ?_ GE188.out) | exact HB.out)) hb)
        have n3_ := Aside0.mk (hbox)
        have n4_ := Aside0.mk ((by rw [hg]; exact (below_size (by repeat (first | (with_reducible first | exact HB.out | apply below_alloc | apply pw_below_drewN | apply below_drew1 | refine below_set ?_ GE188.out) | exact HB.out))) : w.heap.size ≤ gb200))
        have n5_ := Aside0.mk ((by rw [hg]; exact (below_size (by repeat (first | (with_reducible first | exact HB.out | apply below_alloc | apply pw_below_drewN | apply below_drew1 | refine below_set ?_ GE188.out) | exact HB.out))) : w.heap.size ≤ gb200))
        have n6_ := Aside0.mk ((by rw [hg]; exact Nat.ne_of_lt (blk_lt (g := gb188) (o := .cells #[.string (⟨#[]⟩ : ByteArray), .int .i64 0, .int .i64 0, .int .i64 0, .int .i64 0, .int .i64 0, .int .i64 0] 69 (0, 0)) (by (with_reducible repeat (first | refine blk_drewN ?_ _ | refine blk_drew ?_ | refine blk_alloc ?_ _)); exact BK188.out)) : gb188 ≠ gb200))
        have n7_ := Aside0.mk ((by rw [hg]; exact Nat.ne_of_gt (blk_lt (g := gb188) (o := .cells #[.string (⟨#[]⟩ : ByteArray), .int .i64 0, .int .i64 0, .int .i64 0, .int .i64 0, .int .i64 0, .int .i64 0] 69 (0, 0)) (by (with_reducible repeat (first | refine blk_drewN ?_ _ | refine blk_drew ?_ | refine blk_alloc ?_ _)); exact BK188.out)) : gb200 ≠ gb188))
        clear HO193
        clear BK188
        clear HB
        have HO193 := n0_
        have BK188 := n1_
        have HB := n2_
        have BK200 := n3_
        have GW200 := n4_
        have GE200 := n5_
        have NB188_200 := n6_
        have NB200_188 := n7_
        clear n0_ n1_ n2_ n3_ n4_ n5_ n6_ n7_
        clear hb hbox hg
        refine hK.out _ _ ⟨HS0_, HS1_, HS2_, HS3_, HS4_, HS5_⟩ (fun hHeld => ?_)
        clear hK K
        refine norm_ (a' := ?_) ?_ ?_
        rotate_left
        ·
         show Act.put _ (some 7) _ = _
         simp only [Act.put, List.setIfInBounds_toArray, List.set_cons_zero, List.set_cons_succ, i64_w, i32_w]
         rfl
        refine one_ (i := 21) (N := none) #[true, true, true, true, true, true, true, true, true, true, true, true, true, true, true, true, true, true, true, true, true, true] rfl rfl (one_of HT_.out (by kernel_rfl)) (by decide) (fun K hK => ?_)
        have hs50 : w49.cell? ⟨gb200, 0, none⟩ = some (.string (⟨#[]⟩ : ByteArray)) := (blk_cell BK200.out 0).trans rfl
        have hfs50 := blk_frozen BK200.out 0
        have hns50_0 := NB188_200.out
        have hms50_0 := NB200_188.out
        have hs51 : w49.cell? ⟨gb200, 1, none⟩ = some (.int .i64 0) := (blk_cell BK200.out 1).trans rfl
        have hfs51 := blk_frozen BK200.out 1
        have hns51_0 := NB188_200.out
        have hms51_0 := NB200_188.out
        have hs52 : w49.cell? ⟨gb200, 2, none⟩ = some (.int .i64 0) := (blk_cell BK200.out 2).trans rfl
        have hfs52 := blk_frozen BK200.out 2
        have hns52_0 := NB188_200.out
        have hms52_0 := NB200_188.out
        have hs53 : w49.cell? ⟨gb200, 3, none⟩ = some (.int .i64 0) := (blk_cell BK200.out 3).trans rfl
        have hfs53 := blk_frozen BK200.out 3
        have hns53_0 := NB188_200.out
        have hms53_0 := NB200_188.out
        have hs54 : w49.cell? ⟨gb200, 4, none⟩ = some (.int .i64 0) := (blk_cell BK200.out 4).trans rfl
        have hfs54 := blk_frozen BK200.out 4
        have hns54_0 := NB188_200.out
        have hms54_0 := NB200_188.out
        have hs55 : w49.cell? ⟨gb200, 5, none⟩ = some (.int .i64 0) := (blk_cell BK200.out 5).trans rfl
        have hfs55 := blk_frozen BK200.out 5
        have hns55_0 := NB188_200.out
        have hms55_0 := NB200_188.out
        have hs56 : w49.cell? ⟨gb200, 6, none⟩ = some (.int .i64 0) := (blk_cell BK200.out 6).trans rfl
        have hfs56 := blk_frozen BK200.out 6
        have hns56_0 := NB188_200.out
        have hms56_0 := NB200_188.out
        refine skip_ (w1 := ?_) (by rfl) rfl ?_ ?_
        rotate_left
        ·
         go_simp
         rfl
        refine hK.out _ _ ⟨((cell_far (p := ⟨gb200, _, none⟩) (by first | exact Kd.own_blk (Kd.R_ne HO193.out BK200.out (by decide)) | (rw [add_block]; exact Kd.own_blk (Kd.R_ne HO193.out BK200.out (by decide))) | (show (Addr.add _ _).block ≠ _; rw [add_block]; exact Kd.own_blk (Kd.R_ne HO193.out BK200.out (by decide))) | (dsimp only; exact Kd.own_blk (Kd.R_ne HO193.out BK200.out (by decide)))) _).trans (((cell_far (p := ⟨gb200, _, none⟩) (by first | exact Kd.own_blk (Kd.R_ne HO193.out BK200.out (by decide)) | (rw [add_block]; exact Kd.own_blk (Kd.R_ne HO193.out BK200.out (by decide))) | (show (Addr.add _ _).block ≠ _; rw [add_block]; exact Kd.own_blk (Kd.R_ne HO193.out BK200.out (by decide))) | (dsimp only; exact Kd.own_blk (Kd.R_ne HO193.out BK200.out (by decide)))) _).trans (((cell_far (p := ⟨gb200, _, none⟩) (by first | exact Kd.own_blk (Kd.R_ne HO193.out BK200.out (by decide)) | (rw [add_block]; exact Kd.own_blk (Kd.R_ne HO193.out BK200.out (by decide))) | (show (Addr.add _ _).block ≠ _; rw [add_block]; exact Kd.own_blk (Kd.R_ne HO193.out BK200.out (by decide))) | (dsimp only; exact Kd.own_blk (Kd.R_ne HO193.out BK200.out (by decide)))) _).trans (((cell_far (p := ⟨gb200, _, none⟩) (by first | exact Kd.own_blk (Kd.R_ne HO193.out BK200.out (by decide)) | (rw [add_block]; exact Kd.own_blk (Kd.R_ne HO193.out BK200.out (by decide))) | (show (Addr.add _ _).block ≠ _; rw [add_block]; exact Kd.own_blk (Kd.R_ne HO193.out BK200.out (by decide))) | (dsimp only; exact Kd.own_blk (Kd.R_ne HO193.out BK200.out (by decide)))) _).trans (((cell_far (p := ⟨gb200, _, none⟩) (by first | exact Kd.own_blk (Kd.R_ne HO193.out BK200.out (by decide)) | (rw [add_block]; exact Kd.own_blk (Kd.R_ne HO193.out BK200.out (by decide))) | (show (Addr.add _ _).block ≠ _; rw [add_block]; exact Kd.own_blk (Kd.R_ne HO193.out BK200.out (by decide))) | (dsimp only; exact Kd.own_blk (Kd.R_ne HO193.out BK200.out (by decide)))) _).trans (((cell_far (p := ⟨gb200, _, none⟩) (by first | exact Kd.own_blk (Kd.R_ne HO193.out BK200.out (by decide)) | (rw [add_block]; exact Kd.own_blk (Kd.R_ne HO193.out BK200.out (by decide))) | (show (Addr.add _ _).block ≠ _; rw [add_block]; exact Kd.own_blk (Kd.R_ne HO193.out BK200.out (by decide))) | (dsimp only; exact Kd.own_blk (Kd.R_ne HO193.out BK200.out (by decide)))) _).trans (((cell_far (p := ⟨gb200, _, none⟩) (by first | exact Kd.own_blk (Kd.R_ne HO193.out BK200.out (by decide)) | (rw [add_block]; exact Kd.own_blk (Kd.R_ne HO193.out BK200.out (by decide))) | (show (Addr.add _ _).block ≠ _; rw [add_block]; exact Kd.own_blk (Kd.R_ne HO193.out BK200.out (by decide))) | (dsimp only; exact Kd.own_blk (Kd.R_ne HO193.out BK200.out (by decide)))) _).trans (hHeld.1)))))))))))))), ((cell_far (p := ⟨gb200, _, none⟩) (by first | exact Kd.own_blk (Kd.R_ne HO193.out BK200.out (by decide)) | (rw [add_block]; exact Kd.own_blk (Kd.R_ne HO193.out BK200.out (by decide))) | (show (Addr.add _ _).block ≠ _; rw [add_block]; exact Kd.own_blk (Kd.R_ne HO193.out BK200.out (by decide))) | (dsimp only; exact Kd.own_blk (Kd.R_ne HO193.out BK200.out (by decide)))) _).trans (((cell_far (p := ⟨gb200, _, none⟩) (by first | exact Kd.own_blk (Kd.R_ne HO193.out BK200.out (by decide)) | (rw [add_block]; exact Kd.own_blk (Kd.R_ne HO193.out BK200.out (by decide))) | (show (Addr.add _ _).block ≠ _; rw [add_block]; exact Kd.own_blk (Kd.R_ne HO193.out BK200.out (by decide))) | (dsimp only; exact Kd.own_blk (Kd.R_ne HO193.out BK200.out (by decide)))) _).trans (((cell_far (p := ⟨gb200, _, none⟩) (by first | exact Kd.own_blk (Kd.R_ne HO193.out BK200.out (by decide)) | (rw [add_block]; exact Kd.own_blk (Kd.R_ne HO193.out BK200.out (by decide))) | (show (Addr.add _ _).block ≠ _; rw [add_block]; exact Kd.own_blk (Kd.R_ne HO193.out BK200.out (by decide))) | (dsimp only; exact Kd.own_blk (Kd.R_ne HO193.out BK200.out (by decide)))) _).trans (((cell_far (p := ⟨gb200, _, none⟩) (by first | exact Kd.own_blk (Kd.R_ne HO193.out BK200.out (by decide)) | (rw [add_block]; exact Kd.own_blk (Kd.R_ne HO193.out BK200.out (by decide))) | (show (Addr.add _ _).block ≠ _; rw [add_block]; exact Kd.own_blk (Kd.R_ne HO193.out BK200.out (by decide))) | (dsimp only; exact Kd.own_blk (Kd.R_ne HO193.out BK200.out (by decide)))) _).trans (((cell_far (p := ⟨gb200, _, none⟩) (by first | exact Kd.own_blk (Kd.R_ne HO193.out BK200.out (by decide)) | (rw [add_block]; exact Kd.own_blk (Kd.R_ne HO193.out BK200.out (by decide))) | (show (Addr.add _ _).block ≠ _; rw [add_block]; exact Kd.own_blk (Kd.R_ne HO193.out BK200.out (by decide))) | (dsimp only; exact Kd.own_blk (Kd.R_ne HO193.out BK200.out (by decide)))) _).trans (((cell_far (p := ⟨gb200, _, none⟩) (by first | exact Kd.own_blk (Kd.R_ne HO193.out BK200.out (by decide)) | (rw [add_block]; exact Kd.own_blk (Kd.R_ne HO193.out BK200.out (by decide))) | (show (Addr.add _ _).block ≠ _; rw [add_block]; exact Kd.own_blk (Kd.R_ne HO193.out BK200.out (by decide))) | (dsimp only; exact Kd.own_blk (Kd.R_ne HO193.out BK200.out (by decide)))) _).trans (((cell_far (p := ⟨gb200, _, none⟩) (by first | exact Kd.own_blk (Kd.R_ne HO193.out BK200.out (by decide)) | (rw [add_block]; exact Kd.own_blk (Kd.R_ne HO193.out BK200.out (by decide))) | (show (Addr.add _ _).block ≠ _; rw [add_block]; exact Kd.own_blk (Kd.R_ne HO193.out BK200.out (by decide))) | (dsimp only; exact Kd.own_blk (Kd.R_ne HO193.out BK200.out (by decide)))) _).trans (hHeld.2.1)))))))))))))), ((cell_far (p := ⟨gb200, _, none⟩) (by first | exact Kd.own_blk (Kd.R_ne HO193.out BK200.out (by decide)) | (rw [add_block]; exact Kd.own_blk (Kd.R_ne HO193.out BK200.out (by decide))) | (show (Addr.add _ _).block ≠ _; rw [add_block]; exact Kd.own_blk (Kd.R_ne HO193.out BK200.out (by decide))) | (dsimp only; exact Kd.own_blk (Kd.R_ne HO193.out BK200.out (by decide)))) _).trans (((cell_far (p := ⟨gb200, _, none⟩) (by first | exact Kd.own_blk (Kd.R_ne HO193.out BK200.out (by decide)) | (rw [add_block]; exact Kd.own_blk (Kd.R_ne HO193.out BK200.out (by decide))) | (show (Addr.add _ _).block ≠ _; rw [add_block]; exact Kd.own_blk (Kd.R_ne HO193.out BK200.out (by decide))) | (dsimp only; exact Kd.own_blk (Kd.R_ne HO193.out BK200.out (by decide)))) _).trans (((cell_far (p := ⟨gb200, _, none⟩) (by first | exact Kd.own_blk (Kd.R_ne HO193.out BK200.out (by decide)) | (rw [add_block]; exact Kd.own_blk (Kd.R_ne HO193.out BK200.out (by decide))) | (show (Addr.add _ _).block ≠ _; rw [add_block]; exact Kd.own_blk (Kd.R_ne HO193.out BK200.out (by decide))) | (dsimp only; exact Kd.own_blk (Kd.R_ne HO193.out BK200.out (by decide)))) _).trans (((cell_far (p := ⟨gb200, _, none⟩) (by first | exact Kd.own_blk (Kd.R_ne HO193.out BK200.out (by decide)) | (rw [add_block]; exact Kd.own_blk (Kd.R_ne HO193.out BK200.out (by decide))) | (show (Addr.add _ _).block ≠ _; rw [add_block]; exact Kd.own_blk (Kd.R_ne HO193.out BK200.out (by decide))) | (dsimp only; exact Kd.own_blk (Kd.R_ne HO193.out BK200.out (by decide)))) _).trans (((cell_far (p := ⟨gb200, _, none⟩) (by first | exact Kd.own_blk (Kd.R_ne HO193.out BK200.out (by decide)) | (rw [add_block]; exact Kd.own_blk (Kd.R_ne HO193.out BK200.out (by decide))) | (show (Addr.add _ _).block ≠ _; rw [add_block]; exact Kd.own_blk (Kd.R_ne HO193.out BK200.out (by decide))) | (dsimp only; exact Kd.own_blk (Kd.R_ne HO193.out BK200.out (by decide)))) _).trans (((cell_far (p := ⟨gb200, _, none⟩) (by first | exact Kd.own_blk (Kd.R_ne HO193.out BK200.out (by decide)) | (rw [add_block]; exact Kd.own_blk (Kd.R_ne HO193.out BK200.out (by decide))) | (show (Addr.add _ _).block ≠ _; rw [add_block]; exact Kd.own_blk (Kd.R_ne HO193.out BK200.out (by decide))) | (dsimp only; exact Kd.own_blk (Kd.R_ne HO193.out BK200.out (by decide)))) _).trans (((cell_far (p := ⟨gb200, _, none⟩) (by first | exact Kd.own_blk (Kd.R_ne HO193.out BK200.out (by decide)) | (rw [add_block]; exact Kd.own_blk (Kd.R_ne HO193.out BK200.out (by decide))) | (show (Addr.add _ _).block ≠ _; rw [add_block]; exact Kd.own_blk (Kd.R_ne HO193.out BK200.out (by decide))) | (dsimp only; exact Kd.own_blk (Kd.R_ne HO193.out BK200.out (by decide)))) _).trans (hHeld.2.2.1)))))))))))))), ((cell_far (p := ⟨gb200, _, none⟩) (by first | exact Kd.own_blk (Kd.R_ne HO193.out BK200.out (by decide)) | (rw [add_block]; exact Kd.own_blk (Kd.R_ne HO193.out BK200.out (by decide))) | (show (Addr.add _ _).block ≠ _; rw [add_block]; exact Kd.own_blk (Kd.R_ne HO193.out BK200.out (by decide))) | (dsimp only; exact Kd.own_blk (Kd.R_ne HO193.out BK200.out (by decide)))) _).trans (((cell_far (p := ⟨gb200, _, none⟩) (by first | exact Kd.own_blk (Kd.R_ne HO193.out BK200.out (by decide)) | (rw [add_block]; exact Kd.own_blk (Kd.R_ne HO193.out BK200.out (by decide))) | (show (Addr.add _ _).block ≠ _; rw [add_block]; exact Kd.own_blk (Kd.R_ne HO193.out BK200.out (by decide))) | (dsimp only; exact Kd.own_blk (Kd.R_ne HO193.out BK200.out (by decide)))) _).trans (((cell_far (p := ⟨gb200, _, none⟩) (by first | exact Kd.own_blk (Kd.R_ne HO193.out BK200.out (by decide)) | (rw [add_block]; exact Kd.own_blk (Kd.R_ne HO193.out BK200.out (by decide))) | (show (Addr.add _ _).block ≠ _; rw [add_block]; exact Kd.own_blk (Kd.R_ne HO193.out BK200.out (by decide))) | (dsimp only; exact Kd.own_blk (Kd.R_ne HO193.out BK200.out (by decide)))) _).trans (((cell_far (p := ⟨gb200, _, none⟩) (by first | exact Kd.own_blk (Kd.R_ne HO193.out BK200.out (by decide)) | (rw [add_block]; exact Kd.own_blk (Kd.R_ne HO193.out BK200.out (by decide))) | (show (Addr.add _ _).block ≠ _; rw [add_block]; exact Kd.own_blk (Kd.R_ne HO193.out BK200.out (by decide))) | (dsimp only; exact Kd.own_blk (Kd.R_ne HO193.out BK200.out (by decide)))) _).trans (((cell_far (p := ⟨gb200, _, none⟩) (by first | exact Kd.own_blk (Kd.R_ne HO193.out BK200.out (by decide)) | (rw [add_block]; exact Kd.own_blk (Kd.R_ne HO193.out BK200.out (by decide))) | (show (Addr.add _ _).block ≠ _; rw [add_block]; exact Kd.own_blk (Kd.R_ne HO193.out BK200.out (by decide))) | (dsimp only; exact Kd.own_blk (Kd.R_ne HO193.out BK200.out (by decide)))) _).trans (((cell_far (p := ⟨gb200, _, none⟩) (by first | exact Kd.own_blk (Kd.R_ne HO193.out BK200.out (by decide)) | (rw [add_block]; exact Kd.own_blk (Kd.R_ne HO193.out BK200.out (by decide))) | (show (Addr.add _ _).block ≠ _; rw [add_block]; exact Kd.own_blk (Kd.R_ne HO193.out BK200.out (by decide))) | (dsimp only; exact Kd.own_blk (Kd.R_ne HO193.out BK200.out (by decide)))) _).trans (((cell_far (p := ⟨gb200, _, none⟩) (by first | exact Kd.own_blk (Kd.R_ne HO193.out BK200.out (by decide)) | (rw [add_block]; exact Kd.own_blk (Kd.R_ne HO193.out BK200.out (by decide))) | (show (Addr.add _ _).block ≠ _; rw [add_block]; exact Kd.own_blk (Kd.R_ne HO193.out BK200.out (by decide))) | (dsimp only; exact Kd.own_blk (Kd.R_ne HO193.out BK200.out (by decide)))) _).trans (hHeld.2.2.2.1)))))))))))))), ((cell_far (p := ⟨gb200, _, none⟩) (by first | exact Kd.own_blk (Kd.R_ne HO193.out BK200.out (by decide)) | (rw [add_block]; exact Kd.own_blk (Kd.R_ne HO193.out BK200.out (by decide))) | (show (Addr.add _ _).block ≠ _; rw [add_block]; exact Kd.own_blk (Kd.R_ne HO193.out BK200.out (by decide))) | (dsimp only; exact Kd.own_blk (Kd.R_ne HO193.out BK200.out (by decide)))) _).trans (((cell_far (p := ⟨gb200, _, none⟩) (by first | exact Kd.own_blk (Kd.R_ne HO193.out BK200.out (by decide)) | (rw [add_block]; exact Kd.own_blk (Kd.R_ne HO193.out BK200.out (by decide))) | (show (Addr.add _ _).block ≠ _; rw [add_block]; exact Kd.own_blk (Kd.R_ne HO193.out BK200.out (by decide))) | (dsimp only; exact Kd.own_blk (Kd.R_ne HO193.out BK200.out (by decide)))) _).trans (((cell_far (p := ⟨gb200, _, none⟩) (by first | exact Kd.own_blk (Kd.R_ne HO193.out BK200.out (by decide)) | (rw [add_block]; exact Kd.own_blk (Kd.R_ne HO193.out BK200.out (by decide))) | (show (Addr.add _ _).block ≠ _; rw [add_block]; exact Kd.own_blk (Kd.R_ne HO193.out BK200.out (by decide))) | (dsimp only; exact Kd.own_blk (Kd.R_ne HO193.out BK200.out (by decide)))) _).trans (((cell_far (p := ⟨gb200, _, none⟩) (by first | exact Kd.own_blk (Kd.R_ne HO193.out BK200.out (by decide)) | (rw [add_block]; exact Kd.own_blk (Kd.R_ne HO193.out BK200.out (by decide))) | (show (Addr.add _ _).block ≠ _; rw [add_block]; exact Kd.own_blk (Kd.R_ne HO193.out BK200.out (by decide))) | (dsimp only; exact Kd.own_blk (Kd.R_ne HO193.out BK200.out (by decide)))) _).trans (((cell_far (p := ⟨gb200, _, none⟩) (by first | exact Kd.own_blk (Kd.R_ne HO193.out BK200.out (by decide)) | (rw [add_block]; exact Kd.own_blk (Kd.R_ne HO193.out BK200.out (by decide))) | (show (Addr.add _ _).block ≠ _; rw [add_block]; exact Kd.own_blk (Kd.R_ne HO193.out BK200.out (by decide))) | (dsimp only; exact Kd.own_blk (Kd.R_ne HO193.out BK200.out (by decide)))) _).trans (((cell_far (p := ⟨gb200, _, none⟩) (by first | exact Kd.own_blk (Kd.R_ne HO193.out BK200.out (by decide)) | (rw [add_block]; exact Kd.own_blk (Kd.R_ne HO193.out BK200.out (by decide))) | (show (Addr.add _ _).block ≠ _; rw [add_block]; exact Kd.own_blk (Kd.R_ne HO193.out BK200.out (by decide))) | (dsimp only; exact Kd.own_blk (Kd.R_ne HO193.out BK200.out (by decide)))) _).trans (((cell_far (p := ⟨gb200, _, none⟩) (by first | exact Kd.own_blk (Kd.R_ne HO193.out BK200.out (by decide)) | (rw [add_block]; exact Kd.own_blk (Kd.R_ne HO193.out BK200.out (by decide))) | (show (Addr.add _ _).block ≠ _; rw [add_block]; exact Kd.own_blk (Kd.R_ne HO193.out BK200.out (by decide))) | (dsimp only; exact Kd.own_blk (Kd.R_ne HO193.out BK200.out (by decide)))) _).trans (hHeld.2.2.2.2.1)))))))))))))), ((cell_far (p := ⟨gb200, _, none⟩) (by first | exact Kd.own_blk (Kd.R_ne HO193.out BK200.out (by decide)) | (rw [add_block]; exact Kd.own_blk (Kd.R_ne HO193.out BK200.out (by decide))) | (show (Addr.add _ _).block ≠ _; rw [add_block]; exact Kd.own_blk (Kd.R_ne HO193.out BK200.out (by decide))) | (dsimp only; exact Kd.own_blk (Kd.R_ne HO193.out BK200.out (by decide)))) _).trans (((cell_far (p := ⟨gb200, _, none⟩) (by first | exact Kd.own_blk (Kd.R_ne HO193.out BK200.out (by decide)) | (rw [add_block]; exact Kd.own_blk (Kd.R_ne HO193.out BK200.out (by decide))) | (show (Addr.add _ _).block ≠ _; rw [add_block]; exact Kd.own_blk (Kd.R_ne HO193.out BK200.out (by decide))) | (dsimp only; exact Kd.own_blk (Kd.R_ne HO193.out BK200.out (by decide)))) _).trans (((cell_far (p := ⟨gb200, _, none⟩) (by first | exact Kd.own_blk (Kd.R_ne HO193.out BK200.out (by decide)) | (rw [add_block]; exact Kd.own_blk (Kd.R_ne HO193.out BK200.out (by decide))) | (show (Addr.add _ _).block ≠ _; rw [add_block]; exact Kd.own_blk (Kd.R_ne HO193.out BK200.out (by decide))) | (dsimp only; exact Kd.own_blk (Kd.R_ne HO193.out BK200.out (by decide)))) _).trans (((cell_far (p := ⟨gb200, _, none⟩) (by first | exact Kd.own_blk (Kd.R_ne HO193.out BK200.out (by decide)) | (rw [add_block]; exact Kd.own_blk (Kd.R_ne HO193.out BK200.out (by decide))) | (show (Addr.add _ _).block ≠ _; rw [add_block]; exact Kd.own_blk (Kd.R_ne HO193.out BK200.out (by decide))) | (dsimp only; exact Kd.own_blk (Kd.R_ne HO193.out BK200.out (by decide)))) _).trans (((cell_far (p := ⟨gb200, _, none⟩) (by first | exact Kd.own_blk (Kd.R_ne HO193.out BK200.out (by decide)) | (rw [add_block]; exact Kd.own_blk (Kd.R_ne HO193.out BK200.out (by decide))) | (show (Addr.add _ _).block ≠ _; rw [add_block]; exact Kd.own_blk (Kd.R_ne HO193.out BK200.out (by decide))) | (dsimp only; exact Kd.own_blk (Kd.R_ne HO193.out BK200.out (by decide)))) _).trans (((cell_far (p := ⟨gb200, _, none⟩) (by first | exact Kd.own_blk (Kd.R_ne HO193.out BK200.out (by decide)) | (rw [add_block]; exact Kd.own_blk (Kd.R_ne HO193.out BK200.out (by decide))) | (show (Addr.add _ _).block ≠ _; rw [add_block]; exact Kd.own_blk (Kd.R_ne HO193.out BK200.out (by decide))) | (dsimp only; exact Kd.own_blk (Kd.R_ne HO193.out BK200.out (by decide)))) _).trans (((cell_far (p := ⟨gb200, _, none⟩) (by first | exact Kd.own_blk (Kd.R_ne HO193.out BK200.out (by decide)) | (rw [add_block]; exact Kd.own_blk (Kd.R_ne HO193.out BK200.out (by decide))) | (show (Addr.add _ _).block ≠ _; rw [add_block]; exact Kd.own_blk (Kd.R_ne HO193.out BK200.out (by decide))) | (dsimp only; exact Kd.own_blk (Kd.R_ne HO193.out BK200.out (by decide)))) _).trans (hHeld.2.2.2.2.2))))))))))))))⟩ (fun hHeld => ?_)
        clear hK K
        refine done_ (done_of HT_.out (by kernel_rfl)) ?_
        have hnb57 := NB188_200.out
        have hnc57 := NB200_188.out
        have hcz58_0 : w49.cell? ⟨gb188, 0, none⟩ = some (.string (⟨#[]⟩ : ByteArray)) := (blk_cell BK188.out 0).trans rfl
        have hcz58_1 : w49.cell? ⟨gb188, 1, none⟩ = some (.int .i64 0) := (blk_cell BK188.out 1).trans rfl
        have hcz58_2 : w49.cell? ⟨gb188, 2, none⟩ = some (.int .i64 0) := (blk_cell BK188.out 2).trans rfl
        have hcz58_3 : w49.cell? ⟨gb188, 3, none⟩ = some (.int .i64 0) := (blk_cell BK188.out 3).trans rfl
        have hcz58_4 : w49.cell? ⟨gb188, 4, none⟩ = some (.int .i64 0) := (blk_cell BK188.out 4).trans rfl
        have hcz58_5 : w49.cell? ⟨gb188, 5, none⟩ = some (.int .i64 0) := (blk_cell BK188.out 5).trans rfl
        have hcz58_6 : w49.cell? ⟨gb188, 6, none⟩ = some (.int .i64 0) := (blk_cell BK188.out 6).trans rfl
        have hfz58_0 := blk_frozen BK188.out 0
        have hfz58_1 := blk_frozen BK188.out 1
        have hfz58_2 := blk_frozen BK188.out 2
        have hfz58_3 := blk_frozen BK188.out 3
        have hfz58_4 := blk_frozen BK188.out 4
        have hfz58_5 := blk_frozen BK188.out 5
        have hfz58_6 := blk_frozen BK188.out 6
        try go_wp2
        refine bodyPost_ret (results_ct rfl _ _ gb188 69 #[.string (⟨#[]⟩ : ByteArray), .int .i64 0, .int .i64 0, .int .i64 0, .int .i64 0, .int .i64 0, .int .i64 0] (0, 0) _ rfl (by (with_reducible repeat (first | refine blk_drewN ?_ _ | refine blk_drew ?_ | refine blk_alloc ?_ _)); refine blk_put (cs := #[.string (⟨#[]⟩ : ByteArray), .int .i64 0, .int .i64 0, .int .i64 0, .int .i64 0, .int .i64 0, .int .i64 0]) ?_ 6 _ rfl; (with_reducible repeat (first | refine blk_drewN ?_ _ | refine blk_drew ?_ | refine blk_alloc ?_ _)); refine blk_put (cs := #[.string (⟨#[]⟩ : ByteArray), .int .i64 0, .int .i64 0, .int .i64 0, .int .i64 0, .int .i64 0, .int .i64 0]) ?_ 5 _ rfl; (with_reducible repeat (first | refine blk_drewN ?_ _ | refine blk_drew ?_ | refine blk_alloc ?_ _)); refine blk_put (cs := #[.string (⟨#[]⟩ : ByteArray), .int .i64 0, .int .i64 0, .int .i64 0, .int .i64 0, .int .i64 0, .int .i64 0]) ?_ 4 _ rfl; (with_reducible repeat (first | refine blk_drewN ?_ _ | refine blk_drew ?_ | refine blk_alloc ?_ _)); refine blk_put (cs := #[.string (⟨#[]⟩ : ByteArray), .int .i64 0, .int .i64 0, .int .i64 0, .int .i64 0, .int .i64 0, .int .i64 0]) ?_ 3 _ rfl; (with_reducible repeat (first | refine blk_drewN ?_ _ | refine blk_drew ?_ | refine blk_alloc ?_ _)); refine blk_put (cs := #[.string (⟨#[]⟩ : ByteArray), .int .i64 0, .int .i64 0, .int .i64 0, .int .i64 0, .int .i64 0, .int .i64 0]) ?_ 2 _ rfl; (with_reducible repeat (first | refine blk_drewN ?_ _ | refine blk_drew ?_ | refine blk_alloc ?_ _)); refine blk_put (cs := #[.string (⟨#[]⟩ : ByteArray), .int .i64 0, .int .i64 0, .int .i64 0, .int .i64 0, .int .i64 0, .int .i64 0]) ?_ 1 _ rfl; (with_reducible repeat (first | refine blk_drewN ?_ _ | refine blk_drew ?_ | refine blk_alloc ?_ _)); refine blk_put (cs := #[.string (⟨#[]⟩ : ByteArray), .int .i64 0, .int .i64 0, .int .i64 0, .int .i64 0, .int .i64 0, .int .i64 0]) ?_ 0 _ rfl; (with_reducible repeat (first | refine blk_drewN ?_ _ | refine blk_drew ?_ | refine blk_alloc ?_ _)); refine blk_far ?_ NB188_200.out _; (with_reducible repeat (first | refine blk_drewN ?_ _ | refine blk_drew ?_ | refine blk_alloc ?_ _)); refine blk_far ?_ NB188_200.out _; (with_reducible repeat (first | refine blk_drewN ?_ _ | refine blk_drew ?_ | refine blk_alloc ?_ _)); refine blk_far ?_ NB188_200.out _; (with_reducible repeat (first | refine blk_drewN ?_ _ | refine blk_drew ?_ | refine blk_alloc ?_ _)); refine blk_far ?_ NB188_200.out _; (with_reducible repeat (first | refine blk_drewN ?_ _ | refine blk_drew ?_ | refine blk_alloc ?_ _)); refine blk_far ?_ NB188_200.out _; (with_reducible repeat (first | refine blk_drewN ?_ _ | refine blk_drew ?_ | refine blk_alloc ?_ _)); refine blk_far ?_ NB188_200.out _; (with_reducible repeat (first | refine blk_drewN ?_ _ | refine blk_drew ?_ | refine blk_alloc ?_ _)); refine blk_far ?_ NB188_200.out _; (with_reducible repeat (first | refine blk_drewN ?_ _ | refine blk_drew ?_ | refine blk_alloc ?_ _)); exact BK188.out) Tryd.underlying69 rfl (by kernel_rfl)) rfl ?_
        exact ⟨by first | rfl | (simp [errW_none, errW_some] <;> rfl) | (simp [*, errW_none, errW_some] <;> rfl), by repeat (first | (with_reducible first | exact HB.out | apply below_alloc | apply pw_below_drewN | apply below_drew1 | refine below_set ?_ GE188.out | refine below_set ?_ GE200.out) | exact HB.out)⟩
      ·
       rw [if_neg c8] at H
       exact absurd H (by simp)
     ·
      rw [if_neg c7] at H
      exact absurd H (by simp)
    ·
     rw [if_neg c6] at H
     exact absurd H (by simp)
   ·
    rw [if_neg c5] at H
    exact absurd H (by simp)
  ·
   rw [if_neg c4] at H
   exact absurd H (by simp)
 ·
  rw [if_neg c3] at H
  exact absurd H (by simp)

end Go.Proofs.YtdbocilpcknlhaaDoor.PFnExactReadUnit
