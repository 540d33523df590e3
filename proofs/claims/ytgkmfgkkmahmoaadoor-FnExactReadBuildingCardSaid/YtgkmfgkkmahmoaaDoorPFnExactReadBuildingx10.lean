-- PRINTED by print.py (a twelfth state) out of the translation. Not trusted: Lean checks it.
import Derived.Test.YtgkmfgkkmahmoaaDoorPFnExactReadBuildingx0
import Derived.Test.YtgkmfgkkmahmoaaDoorPFnExactReadBuildingx4
import Derived.Test.YtgkmfgkkmahmoaaDoorPFnExactReadBuildingx5
import Derived.Test.YtgkmfgkkmahmoaaDoorPFnExactReadBuildingx8
import Derived.Test.YtgkmfgkkmahmoaaDoorPFnExactReadBuildingx9
namespace Go.Proofs.YtgkmfgkkmahmoaaDoor.PFnExactReadBuilding
open Go.RowKit Go.Proofs.YtgkmfgkkmahmoaaDoorW.PrintWords Go.Proofs.YtgkmfgkkmahmoaaDoorW.PrintLast Go.Proofs.YtgkmfgkkmahmoaaDoorW.PrintMore
attribute [local go_sem] max2_int min2_int max_two min_two max_three min_three max_four min_four   -- for this text's walks alone
set_option linter.unusedVariables false
set_option linter.unusedSimpArgs false

/-! ### laws_FnExactReadBuilding: function 4 -/
mutual
def laws_FnExactReadBuilding.j0 : Nat → ByteArray → Bool → Bool → ByteArray → Int → Int → Int → Int → List Int → ByteArray → Int → Int → Int → Int → List Int → Option (Bool)
 | 0, _, _, _, _, _, _, _, _, _, _, _, _, _, _, _ => none
 | k + 1, x0, x4, x32, x249000, x249001, x249002, x249003, x249004, x249005, x259000, x259001, x259002, x259003, x259004, x259005 => if x32 = true then (some false) else ((laws_markBuilding.f k x259000 x259001 x259002 x259003 x259004 x259005 1).bind fun bt260 => ((laws_heldBuilding.f k x259000 x259001 x259002 x259003 x259004 bt260.2 1).bind fun t262 => (if t262 < 0 then (some false) else (if t262 = bt260.1 then ((impl_ReadBuilding.f k x0).bind fun bt263 => ((laws_eqBuilding.f k bt263.1 bt263.2.1 bt263.2.2.1 bt263.2.2.2.1 bt263.2.2.2.2.1 bt263.2.2.2.2.2.1 x249000 x249001 x249002 x249003 x249004 x249005).bind fun t273 => (if t273 = true then (laws_FnExactReadBuilding.j1 k bt260.1 (bt263.2.2.2.2.2.2 != x4) x259000 x259001 x259002 x259003 x259004 bt260.2) else (laws_FnExactReadBuilding.j1 k bt260.1 true x259000 x259001 x259002 x259003 x259004 bt260.2)))) else (some false)))))
def laws_FnExactReadBuilding.j1 : Nat → Int → Bool → ByteArray → Int → Int → Int → Int → List Int → Option (Bool)
 | 0, _, _, _, _, _, _, _, _ => none
 | k + 1, x7, x57, x259000, x259001, x259002, x259003, x259004, x259005 => if x57 = true then (some false) else ((laws_heldBuilding.f k x259000 x259001 x259002 x259003 x259004 x259005 1).bind fun t274 => (if t274 < 0 then (some false) else (if t274 = x7 then (some true) else (some false))))
end
def laws_FnExactReadBuilding.f (k : Nat) (a0 : ByteArray) : Option (Bool) := if (a0.size : Int) > 1048576 then (some true) else ((spec_ReadBuilding.f k a0).bind fun bt239 => ((impl_ReadBuilding.f k a0).bind fun bt249 => ((laws_eqBuilding.f k bt249.1 bt249.2.1 bt249.2.2.1 bt249.2.2.2.1 bt249.2.2.2.2.1 bt249.2.2.2.2.2.1 bt239.1 bt239.2.1 bt239.2.2.1 bt239.2.2.2.1 bt239.2.2.2.2.1 bt239.2.2.2.2.2.1).bind fun t259 => (if t259 = true then (laws_FnExactReadBuilding.j0 k a0 bt239.2.2.2.2.2.2 (bt249.2.2.2.2.2.2 != bt239.2.2.2.2.2.2) bt239.1 bt239.2.1 bt239.2.2.1 bt239.2.2.2.1 bt239.2.2.2.2.1 bt239.2.2.2.2.2.1 bt249.1 bt249.2.1 bt249.2.2.1 bt249.2.2.2.1 bt249.2.2.2.2.1 bt249.2.2.2.2.2.1) else (laws_FnExactReadBuilding.j0 k a0 bt239.2.2.2.2.2.2 true bt239.1 bt239.2.1 bt239.2.2.1 bt239.2.2.2.1 bt239.2.2.2.2.1 bt239.2.2.2.2.2.1 bt249.1 bt249.2.1 bt249.2.2.1 bt249.2.2.2.1 bt249.2.2.2.2.1 bt249.2.2.2.2.2.1)))))
theorem laws_FnExactReadBuilding.mono_l : ∀ k, (∀ y0 y1 y2 y3 y4 y5 y6 y7 y8 y9 y10 y11 y12 y13 y14, LeO (laws_FnExactReadBuilding.j0 k y0 y1 y2 y3 y4 y5 y6 y7 y8 y9 y10 y11 y12 y13 y14) (laws_FnExactReadBuilding.j0 (k + 1) y0 y1 y2 y3 y4 y5 y6 y7 y8 y9 y10 y11 y12 y13 y14)) ∧ (∀ y0 y1 y2 y3 y4 y5 y6 y7, LeO (laws_FnExactReadBuilding.j1 k y0 y1 y2 y3 y4 y5 y6 y7) (laws_FnExactReadBuilding.j1 (k + 1) y0 y1 y2 y3 y4 y5 y6 y7))
 | 0 => ⟨fun _ _ _ _ _ _ _ _ _ _ _ _ _ _ _ r h => by simp [laws_FnExactReadBuilding.j0] at h, fun _ _ _ _ _ _ _ _ r h => by simp [laws_FnExactReadBuilding.j1] at h⟩
 | k + 1 => by
  obtain ⟨ih0, ih1⟩ := laws_FnExactReadBuilding.mono_l k
  refine ⟨?_, ?_⟩
  ·
   intro y0 y1 y2 y3 y4 y5 y6 y7 y8 y9 y10 y11 y12 y13 y14
   unfold laws_FnExactReadBuilding.j0
   repeat' first
   | (with_reducible exact ih0 _ _ _ _ _ _ _ _ _ _ _ _ _ _ _)
   | (with_reducible exact ih1 _ _ _ _ _ _ _ _)
   | (with_reducible exact impl_ReadBuilding.mono _ _)
   | (with_reducible exact laws_eqBuilding.mono _ _ _ _ _ _ _ _ _ _ _ _ _)
   | (with_reducible exact laws_heldBuilding.mono _ _ _ _ _ _ _ _)
   | (with_reducible exact laws_markBuilding.mono _ _ _ _ _ _ _ _)
   | (with_reducible exact spec_ReadBuilding.mono _ _)
   | (with_reducible exact LeO.refl _)
   | (with_reducible exact LeO.none _)
   | (with_reducible refine LeO.ite ?_ ?_)
   | (with_reducible refine LeO.bind ?_ (fun _ => ?_))
   | exact ih0 _ _ _ _ _ _ _ _ _ _ _ _ _ _ _
   | exact ih1 _ _ _ _ _ _ _ _
   | exact impl_ReadBuilding.mono _ _
   | exact laws_eqBuilding.mono _ _ _ _ _ _ _ _ _ _ _ _ _
   | exact laws_heldBuilding.mono _ _ _ _ _ _ _ _
   | exact laws_markBuilding.mono _ _ _ _ _ _ _ _
   | exact spec_ReadBuilding.mono _ _
   | exact LeO.none _
   | refine LeO.ite ?_ ?_
   | refine LeO.bind ?_ (fun _ => ?_)
  ·
   intro y0 y1 y2 y3 y4 y5 y6 y7
   unfold laws_FnExactReadBuilding.j1
   repeat' first
   | (with_reducible exact ih0 _ _ _ _ _ _ _ _ _ _ _ _ _ _ _)
   | (with_reducible exact ih1 _ _ _ _ _ _ _ _)
   | (with_reducible exact impl_ReadBuilding.mono _ _)
   | (with_reducible exact laws_eqBuilding.mono _ _ _ _ _ _ _ _ _ _ _ _ _)
   | (with_reducible exact laws_heldBuilding.mono _ _ _ _ _ _ _ _)
   | (with_reducible exact laws_markBuilding.mono _ _ _ _ _ _ _ _)
   | (with_reducible exact spec_ReadBuilding.mono _ _)
   | (with_reducible exact LeO.refl _)
   | (with_reducible exact LeO.none _)
   | (with_reducible refine LeO.ite ?_ ?_)
   | (with_reducible refine LeO.bind ?_ (fun _ => ?_))
   | exact ih0 _ _ _ _ _ _ _ _ _ _ _ _ _ _ _
   | exact ih1 _ _ _ _ _ _ _ _
   | exact impl_ReadBuilding.mono _ _
   | exact laws_eqBuilding.mono _ _ _ _ _ _ _ _ _ _ _ _ _
   | exact laws_heldBuilding.mono _ _ _ _ _ _ _ _
   | exact laws_markBuilding.mono _ _ _ _ _ _ _ _
   | exact spec_ReadBuilding.mono _ _
   | exact LeO.none _
   | refine LeO.ite ?_ ?_
   | refine LeO.bind ?_ (fun _ => ?_)
theorem laws_FnExactReadBuilding.mono : ∀ a0 k, LeO (laws_FnExactReadBuilding.f k a0) (laws_FnExactReadBuilding.f (k + 1) a0) := by
 intro a0 k
 obtain ⟨ih0, ih1⟩ := laws_FnExactReadBuilding.mono_l k
 unfold laws_FnExactReadBuilding.f
 repeat' first
   | (with_reducible exact ih0 _ _ _ _ _ _ _ _ _ _ _ _ _ _ _)
   | (with_reducible exact ih1 _ _ _ _ _ _ _ _)
   | (with_reducible exact impl_ReadBuilding.mono _ _)
   | (with_reducible exact laws_eqBuilding.mono _ _ _ _ _ _ _ _ _ _ _ _ _)
   | (with_reducible exact laws_heldBuilding.mono _ _ _ _ _ _ _ _)
   | (with_reducible exact laws_markBuilding.mono _ _ _ _ _ _ _ _)
   | (with_reducible exact spec_ReadBuilding.mono _ _)
   | (with_reducible exact LeO.refl _)
   | (with_reducible exact LeO.none _)
   | (with_reducible refine LeO.ite ?_ ?_)
   | (with_reducible refine LeO.bind ?_ (fun _ => ?_))
   | exact ih0 _ _ _ _ _ _ _ _ _ _ _ _ _ _ _
   | exact ih1 _ _ _ _ _ _ _ _
   | exact impl_ReadBuilding.mono _ _
   | exact laws_eqBuilding.mono _ _ _ _ _ _ _ _ _ _ _ _ _
   | exact laws_heldBuilding.mono _ _ _ _ _ _ _ _
   | exact laws_markBuilding.mono _ _ _ _ _ _ _ _
   | exact spec_ReadBuilding.mono _ _
   | exact LeO.none _
   | refine LeO.ite ?_ ?_
   | refine LeO.bind ?_ (fun _ => ?_)
set_option maxHeartbeats 8000000 in
set_option maxRecDepth 100000 in
theorem laws_FnExactReadBuilding.calls (k : Nat) (a0 : ByteArray) (r : Bool) (w : World) (ht_ : WOK w) (h : laws_FnExactReadBuilding.f k a0 = some r) :
  Calls Tryd.prog 4 #[.string a0] w fun e w' => e = .returned (.bool r) ∧ Below w.heap.size w w' := by
 have HWOK_ := Aside0.mk ht_
 clear ht_
 have hu51 := Tryd.underlying51
 have HB := Aside0.mk (Below.refl w.heap.size w)
 have H : (if (a0.size : Int) > 1048576 then (some true) else ((spec_ReadBuilding.f k a0).bind fun bt239 => ((impl_ReadBuilding.f k a0).bind fun bt249 => ((laws_eqBuilding.f k bt249.1 bt249.2.1 bt249.2.2.1 bt249.2.2.2.1 bt249.2.2.2.2.1 bt249.2.2.2.2.2.1 bt239.1 bt239.2.1 bt239.2.2.1 bt239.2.2.2.1 bt239.2.2.2.2.1 bt239.2.2.2.2.2.1).bind fun t259 => (if t259 = true then (laws_FnExactReadBuilding.j0 k a0 bt239.2.2.2.2.2.2 (bt249.2.2.2.2.2.2 != bt239.2.2.2.2.2.2) bt239.1 bt239.2.1 bt239.2.2.1 bt239.2.2.2.1 bt239.2.2.2.2.1 bt239.2.2.2.2.2.1 bt249.1 bt249.2.1 bt249.2.2.1 bt249.2.2.2.1 bt249.2.2.2.2.1 bt249.2.2.2.2.2.1) else (laws_FnExactReadBuilding.j0 k a0 bt239.2.2.2.2.2.2 true bt239.1 bt239.2.1 bt239.2.2.1 bt239.2.2.2.1 bt239.2.2.2.2.1 bt239.2.2.2.2.2.1 bt249.1 bt249.2.1 bt249.2.2.1 bt249.2.2.2.1 bt249.2.2.2.2.1 bt249.2.2.2.2.2.1)))))) = some r := h
 clear h
 by_cases c2 : (a0.size : Int) > 1048576
 ·
  rw [if_pos c2] at H
  have c2b0 : decide (1048576 < (a0.size : Int)) = true := decide_eq_true c2
  have c2b1 : decide (1048576 < a0.size) = true := decide_eq_true (by omega)
  clear c2
  obtain rfl := Option.some.inj H
  go_enter Tryd.func4, Tryd.ntmps4
  go_wp2
  go_ret
  exact ⟨by first | rfl | (simp [errW_none, errW_some] <;> rfl) | (simp [*, errW_none, errW_some] <;> rfl), by repeat (first | (with_reducible first | exact HB.out | apply below_alloc | apply pw_below_drewN | apply below_drew1) | exact HB.out)⟩
 ·
  rw [if_neg c2] at H
  have c2b0 : decide (1048576 < (a0.size : Int)) = false := decide_eq_false c2
  have c2b1 : decide (1048576 < a0.size) = false := decide_eq_false (by omega)
  clear c2
  replace H := Option.bind_eq_some_iff.mp H
  obtain ⟨⟨t239, t240, t241, t242, t243, t244, t247⟩, A30, H⟩ := H
  replace H : ((impl_ReadBuilding.f k a0).bind fun bt249 => ((laws_eqBuilding.f k bt249.1 bt249.2.1 bt249.2.2.1 bt249.2.2.2.1 bt249.2.2.2.2.1 bt249.2.2.2.2.2.1 t239 t240 t241 t242 t243 t244).bind fun t259 => (if t259 = true then (laws_FnExactReadBuilding.j0 k a0 t247 (bt249.2.2.2.2.2.2 != t247) t239 t240 t241 t242 t243 t244 bt249.1 bt249.2.1 bt249.2.2.1 bt249.2.2.2.1 bt249.2.2.2.2.1 bt249.2.2.2.2.2.1) else (laws_FnExactReadBuilding.j0 k a0 t247 true t239 t240 t241 t242 t243 t244 bt249.1 bt249.2.1 bt249.2.2.1 bt249.2.2.2.1 bt249.2.2.2.2.1 bt249.2.2.2.2.2.1)))) = some r := H
  have A3 := Aside0.mk A30
  clear A30
  replace H := Option.bind_eq_some_iff.mp H
  obtain ⟨⟨t249, t250, t251, t252, t253, t254, t257⟩, A40, H⟩ := H
  replace H : ((laws_eqBuilding.f k t249 t250 t251 t252 t253 t254 t239 t240 t241 t242 t243 t244).bind fun t259 => (if t259 = true then (laws_FnExactReadBuilding.j0 k a0 t247 (t257 != t247) t239 t240 t241 t242 t243 t244 t249 t250 t251 t252 t253 t254) else (laws_FnExactReadBuilding.j0 k a0 t247 true t239 t240 t241 t242 t243 t244 t249 t250 t251 t252 t253 t254))) = some r := H
  have A4 := Aside0.mk A40
  clear A40
  have HC5 := Aside0.mk H
  clear H
  go_enter Tryd.func4, Tryd.ntmps4
  go_upto_region 5 with (first | ((with_reducible refine gate_callee (f := 23) rfl ?_); refine goesL_ (some 16) rfl rfl Tryd.func23 (by kernel_rfl) rfl #[.string a0] rfl (by (try simp only [List.map_toArray, List.map_cons, List.map_nil]); first | done | rfl | (simp only [List.length_drop, List.length_take]; rfl)) ?_; (with_reducible refine (spec_ReadBuilding.calls k a0 t239 t240 t241 t242 t243 t244 t247 _ A3.out).mono ?_); rintro e w6 ⟨v245, rfl, ho0, hb⟩; refine ⟨_, rfl, ?_⟩; have n0_ := Aside0.mk (Kd.R_lower ho0 (below_size (by repeat (first | (with_reducible first | exact HB.out | apply below_alloc | apply pw_below_drewN | apply below_drew1) | exact HB.out)))); have n1_ := Aside0.mk (below_step (by repeat (first | (with_reducible first | exact HB.out | apply below_alloc | apply pw_below_drewN | apply below_drew1) | exact HB.out)) hb); clear HB; have HO246 := n0_; have HB := n1_; clear n0_ n1_; (try clear hb); (try clear hb2); (try clear hk); (try clear hi); (try clear ho0)) | ((with_reducible refine gate_dst (N := 3) rfl ?_); refine box_event ?hg (N := 3) ?hd (cs := #[.string (⟨#[]⟩ : ByteArray), .int .i64 0, .int .i64 0, .int .i64 0, .int .i64 0, .slice none 0 0]) (t := 51) ?hr ?_; (case hd => rfl); (case hg => rfl); (case hr => first | (go_simp; done) | (go_simp; rfl)); intro gb248 hg w7 hbox hb; have n0_ := Aside0.mk (Kd.R_below (by (with_reducible repeat (first | apply Kd.R_alloc | apply Kd.R_drewN | apply Kd.R_drew)); exact HO246.out) hb); have n1_ := Aside0.mk (below_step (by repeat (first | (with_reducible first | exact HB.out | apply below_alloc | apply pw_below_drewN | apply below_drew1) | exact HB.out)) hb); have n2_ := Aside0.mk (hbox); have n3_ := Aside0.mk ((by rw [hg]; exact (below_size (by repeat (first | (with_reducible first | exact HB.out | apply below_alloc | apply pw_below_drewN | apply below_drew1) | exact HB.out))) : w.heap.size ≤ gb248)); have n4_ := Aside0.mk ((by rw [hg]; exact (below_size (by repeat (first | (with_reducible first | exact HB.out | apply below_alloc | apply pw_below_drewN | apply below_drew1) | exact HB.out))) : w.heap.size ≤ gb248)); clear HO246; clear HB; have HO246 := n0_; have HB := n1_; have BK248 := n2_; have GW248 := n3_; have GE248 := n4_; clear n0_ n1_ n2_ n3_ n4_; clear hb hbox hg; have hcz8_0 : w7.cell? ⟨gb248, 0, none⟩ = some (.string (⟨#[]⟩ : ByteArray)) := (blk_cell BK248.out 0).trans rfl; have hcz8_1 : w7.cell? ⟨gb248, 1, none⟩ = some (.int .i64 0) := (blk_cell BK248.out 1).trans rfl; have hcz8_2 : w7.cell? ⟨gb248, 2, none⟩ = some (.int .i64 0) := (blk_cell BK248.out 2).trans rfl; have hcz8_3 : w7.cell? ⟨gb248, 3, none⟩ = some (.int .i64 0) := (blk_cell BK248.out 3).trans rfl; have hcz8_4 : w7.cell? ⟨gb248, 4, none⟩ = some (.int .i64 0) := (blk_cell BK248.out 4).trans rfl; have hcz8_5 : w7.cell? ⟨gb248, 5, none⟩ = some (.slice none 0 0) := (blk_cell BK248.out 5).trans rfl; have hfz8_0 := blk_frozen BK248.out 0; have hfz8_1 := blk_frozen BK248.out 1; have hfz8_2 := blk_frozen BK248.out 2; have hfz8_3 := blk_frozen BK248.out 3; have hfz8_4 := blk_frozen BK248.out 4; have hfz8_5 := blk_frozen BK248.out 5; obtain ⟨Ao9, co9, eo9⟩ := Kd.R_slice HO246.out; subst eo9) | ((with_reducible refine gate_callee (f := 24) rfl ?_); refine goesL_ (some 21) rfl rfl Tryd.func24 (by kernel_rfl) rfl #[.string a0] rfl (by (try simp only [List.map_toArray, List.map_cons, List.map_nil]); first | done | rfl | (simp only [List.length_drop, List.length_take]; rfl)) ?_; (with_reducible refine (impl_ReadBuilding.calls k a0 t249 t250 t251 t252 t253 t254 t257 _ ?side1 A4.out).mono ?_); (case side1 => exact wok_ HWOK_.out (by repeat (first | (with_reducible first | exact HB.out | apply below_alloc | apply pw_below_drewN | apply below_drew1 | refine below_set ?_ GE248.out) | exact HB.out))); rintro e w10 ⟨v255, rfl, ho0, hb⟩; refine ⟨_, rfl, ?_⟩; have n0_ := Aside0.mk (Kd.R_elder' (by (with_reducible repeat (first | apply Kd.R_alloc | apply Kd.R_drewN | apply Kd.R_drew)); exact (Kd.R_mono (Kd.R_far (p := ⟨gb248, 5, none⟩) (Kd.R_far (p := ⟨gb248, 4, none⟩) (Kd.R_far (p := ⟨gb248, 3, none⟩) (Kd.R_far (p := ⟨gb248, 2, none⟩) (Kd.R_far (p := ⟨gb248, 1, none⟩) (Kd.R_far (p := ⟨gb248, 0, none⟩) (Kd.R_types HO246.out BK248.out (by decide)) (fun _ hk => hk.2) (.string t239)) (fun _ hk => hk.2) (.int .i64 t240)) (fun _ hk => hk.2) (.int .i64 t241)) (fun _ hk => hk.2) (.int .i64 t242)) (fun _ hk => hk.2) (.int .i64 t243)) (fun _ hk => hk.2) (.slice Ao9 t244.length co9)) (fun _ h_ => h_.1))) (Kd.R_base ho0) hb); have n1_ := Aside0.mk (Kd.R_lower (Kd.R_new' ho0 (Kd.R_lt (by (with_reducible repeat (first | apply Kd.R_alloc | apply Kd.R_drewN | apply Kd.R_drew)); exact (Kd.R_mono (Kd.R_far (p := ⟨gb248, 5, none⟩) (Kd.R_far (p := ⟨gb248, 4, none⟩) (Kd.R_far (p := ⟨gb248, 3, none⟩) (Kd.R_far (p := ⟨gb248, 2, none⟩) (Kd.R_far (p := ⟨gb248, 1, none⟩) (Kd.R_far (p := ⟨gb248, 0, none⟩) (Kd.R_types HO246.out BK248.out (by decide)) (fun _ hk => hk.2) (.string t239)) (fun _ hk => hk.2) (.int .i64 t240)) (fun _ hk => hk.2) (.int .i64 t241)) (fun _ hk => hk.2) (.int .i64 t242)) (fun _ hk => hk.2) (.int .i64 t243)) (fun _ hk => hk.2) (.slice Ao9 t244.length co9)) (fun _ h_ => h_.1))))) (below_size (by repeat (first | (with_reducible first | exact HB.out | apply below_alloc | apply pw_below_drewN | apply below_drew1 | refine below_set ?_ GE248.out) | exact HB.out)))); have n2_ := Aside0.mk (blk_below (g := gb248) (o := .cells #[.string t239, .int .i64 t240, .int .i64 t241, .int .i64 t242, .int .i64 t243, .slice Ao9 t244.length co9] 51 (0, 0)) (by (with_reducible repeat (first | refine blk_drewN ?_ _ | refine blk_drew ?_ | refine blk_alloc ?_ _)); refine blk_put (cs := #[.string t239, .int .i64 t240, .int .i64 t241, .int .i64 t242, .int .i64 t243, .slice none 0 0]) ?_ 5 _ rfl; (with_reducible repeat (first | refine blk_drewN ?_ _ | refine blk_drew ?_ | refine blk_alloc ?_ _)); refine blk_put (cs := #[.string t239, .int .i64 t240, .int .i64 t241, .int .i64 t242, .int .i64 0, .slice none 0 0]) ?_ 4 _ rfl; (with_reducible repeat (first | refine blk_drewN ?_ _ | refine blk_drew ?_ | refine blk_alloc ?_ _)); refine blk_put (cs := #[.string t239, .int .i64 t240, .int .i64 t241, .int .i64 0, .int .i64 0, .slice none 0 0]) ?_ 3 _ rfl; (with_reducible repeat (first | refine blk_drewN ?_ _ | refine blk_drew ?_ | refine blk_alloc ?_ _)); refine blk_put (cs := #[.string t239, .int .i64 t240, .int .i64 0, .int .i64 0, .int .i64 0, .slice none 0 0]) ?_ 2 _ rfl; (with_reducible repeat (first | refine blk_drewN ?_ _ | refine blk_drew ?_ | refine blk_alloc ?_ _)); refine blk_put (cs := #[.string t239, .int .i64 0, .int .i64 0, .int .i64 0, .int .i64 0, .slice none 0 0]) ?_ 1 _ rfl; (with_reducible repeat (first | refine blk_drewN ?_ _ | refine blk_drew ?_ | refine blk_alloc ?_ _)); refine blk_put (cs := #[.string (⟨#[]⟩ : ByteArray), .int .i64 0, .int .i64 0, .int .i64 0, .int .i64 0, .slice none 0 0]) ?_ 0 _ rfl; (with_reducible repeat (first | refine blk_drewN ?_ _ | refine blk_drew ?_ | refine blk_alloc ?_ _)); exact BK248.out) hb); have n3_ := Aside0.mk (below_step (by repeat (first | (with_reducible first | exact HB.out | apply below_alloc | apply pw_below_drewN | apply below_drew1 | refine below_set ?_ GE248.out) | exact HB.out)) hb); clear HO246; clear BK248; clear HB; have HO246 := n0_; have HO256 := n1_; have BK248 := n2_; have HB := n3_; clear n0_ n1_ n2_ n3_; (try clear hb); (try clear hb2); (try clear hk); (try clear hi); (try clear ho0)) | ((with_reducible refine gate_dst (N := 5) rfl ?_); refine box_event ?hg (N := 5) ?hd (cs := #[.string (⟨#[]⟩ : ByteArray), .int .i64 0, .int .i64 0, .int .i64 0, .int .i64 0, .slice none 0 0]) (t := 51) ?hr ?_; (case hd => rfl); (case hg => rfl); (case hr => first | (go_simp; done) | (go_simp; rfl)); intro gb258 hg w11 hbox hb; have n0_ := Aside0.mk (Kd.R_below (by (with_reducible repeat (first | apply Kd.R_alloc | apply Kd.R_drewN | apply Kd.R_drew)); exact HO246.out) hb); have n1_ := Aside0.mk (Kd.R_below (by (with_reducible repeat (first | apply Kd.R_alloc | apply Kd.R_drewN | apply Kd.R_drew)); exact HO256.out) hb); have n2_ := Aside0.mk (blk_below (g := gb248) (o := .cells #[.string t239, .int .i64 t240, .int .i64 t241, .int .i64 t242, .int .i64 t243, .slice Ao9 t244.length co9] 51 (0, 0)) (by (with_reducible repeat (first | refine blk_drewN ?_ _ | refine blk_drew ?_ | refine blk_alloc ?_ _)); exact BK248.out) hb); have n3_ := Aside0.mk (below_step (by repeat (first | (with_reducible first | exact HB.out | apply below_alloc | apply pw_below_drewN | apply below_drew1 | refine below_set ?_ GE248.out) | exact HB.out)) hb); have n4_ := Aside0.mk (hbox); have n5_ := Aside0.mk ((by rw [hg]; exact (below_size (by repeat (first | (with_reducible first | exact HB.out | apply below_alloc | apply pw_below_drewN | apply below_drew1 | refine below_set ?_ GE248.out) | exact HB.out))) : w.heap.size ≤ gb258)); have n6_ := Aside0.mk ((by rw [hg]; exact (below_size (by repeat (first | (with_reducible first | exact HB.out | apply below_alloc | apply pw_below_drewN | apply below_drew1 | refine below_set ?_ GE248.out) | exact HB.out))) : w.heap.size ≤ gb258)); have n7_ := Aside0.mk ((by rw [hg]; exact Nat.ne_of_lt (blk_lt (g := gb248) (o := .cells #[.string t239, .int .i64 t240, .int .i64 t241, .int .i64 t242, .int .i64 t243, .slice Ao9 t244.length co9] 51 (0, 0)) (by (with_reducible repeat (first | refine blk_drewN ?_ _ | refine blk_drew ?_ | refine blk_alloc ?_ _)); exact BK248.out)) : gb248 ≠ gb258)); have n8_ := Aside0.mk ((by rw [hg]; exact Nat.ne_of_gt (blk_lt (g := gb248) (o := .cells #[.string t239, .int .i64 t240, .int .i64 t241, .int .i64 t242, .int .i64 t243, .slice Ao9 t244.length co9] 51 (0, 0)) (by (with_reducible repeat (first | refine blk_drewN ?_ _ | refine blk_drew ?_ | refine blk_alloc ?_ _)); exact BK248.out)) : gb258 ≠ gb248)); clear HO246; clear HO256; clear BK248; clear HB; have HO246 := n0_; have HO256 := n1_; have BK248 := n2_; have HB := n3_; have BK258 := n4_; have GW258 := n5_; have GE258 := n6_; have NB248_258 := n7_; have NB258_248 := n8_; clear n0_ n1_ n2_ n3_ n4_ n5_ n6_ n7_ n8_; clear hb hbox hg; have hnb12 := NB258_248.out; have hnc12 := NB248_258.out; have hcz13_0 : w11.cell? ⟨gb258, 0, none⟩ = some (.string (⟨#[]⟩ : ByteArray)) := (blk_cell BK258.out 0).trans rfl; have hcz13_1 : w11.cell? ⟨gb258, 1, none⟩ = some (.int .i64 0) := (blk_cell BK258.out 1).trans rfl; have hcz13_2 : w11.cell? ⟨gb258, 2, none⟩ = some (.int .i64 0) := (blk_cell BK258.out 2).trans rfl; have hcz13_3 : w11.cell? ⟨gb258, 3, none⟩ = some (.int .i64 0) := (blk_cell BK258.out 3).trans rfl; have hcz13_4 : w11.cell? ⟨gb258, 4, none⟩ = some (.int .i64 0) := (blk_cell BK258.out 4).trans rfl; have hcz13_5 : w11.cell? ⟨gb258, 5, none⟩ = some (.slice none 0 0) := (blk_cell BK258.out 5).trans rfl; have hfz13_0 := blk_frozen BK258.out 0; have hfz13_1 := blk_frozen BK258.out 1; have hfz13_2 := blk_frozen BK258.out 2; have hfz13_3 := blk_frozen BK258.out 3; have hfz13_4 := blk_frozen BK258.out 4; have hfz13_5 := blk_frozen BK258.out 5; obtain ⟨Ao14, co14, eo14⟩ := Kd.R_slice HO256.out; subst eo14))
  (try simp only [Act.put, List.setIfInBounds_toArray, List.set_cons_zero, List.set_cons_succ])
  go_cut [32] (fun v32 wc => ∃ (kq : Nat) (x32_4 : Bool), v32 = .bool x32_4 ∧ Aside0 (laws_FnExactReadBuilding.j0 kq a0 t247 x32_4 t239 t240 t241 t242 t243 t244 t249 t250 t251 t252 t253 t254 = some r) ∧ Aside0 (kq ≤ k) ∧ Aside0 (Kd.R (Kd.int .i64) 2 wc w.heap.size (fun k_ => some k_ ≠ ((.slice Ao14 t254.length co14) : Value).ownBlock) (.slice Ao9 t244.length co9) t244) ∧ Aside0 (Kd.R (Kd.int .i64) 2 wc w.heap.size (fun k_ => some k_ ≠ ((.slice Ao9 t244.length co9) : Value).ownBlock) (.slice Ao14 t254.length co14) t254) ∧ Aside0 (wc.heap[gb248]? = some (.cells #[.string t239, .int .i64 t240, .int .i64 t241, .int .i64 t242, .int .i64 t243, (.slice Ao9 t244.length co9)] 51 (0, 0))) ∧ Aside0 (wc.heap[gb258]? = some (.cells #[.string t249, .int .i64 t250, .int .i64 t251, .int .i64 t252, .int .i64 t253, (.slice Ao14 t254.length co14)] 51 (0, 0))) ∧ Aside0 (Below w.heap.size w wc))
  case first =>
   have H := HC5.out
   clear HC5
   replace H := Option.bind_eq_some_iff.mp H
   obtain ⟨t259, A150, H⟩ := H
   replace H : (if t259 = true then (laws_FnExactReadBuilding.j0 k a0 t247 (t257 != t247) t239 t240 t241 t242 t243 t244 t249 t250 t251 t252 t253 t254) else (laws_FnExactReadBuilding.j0 k a0 t247 true t239 t240 t241 t242 t243 t244 t249 t250 t251 t252 t253 t254)) = some r := H
   have A15 := Aside0.mk A150
   clear A150
   by_cases c16 : t259 = true
   ·
    subst c16
    have H1 : (laws_FnExactReadBuilding.j0 k a0 t247 (t257 != t247) t239 t240 t241 t242 t243 t244 t249 t250 t251 t252 t253 t254) = some r := by rw [if_pos rfl] at H; exact H
    clear H
    have H := H1
    clear H1
    have H' := Aside0.mk H
    clear H
    have hnb17 := NB258_248.out
    have hnc17 := NB248_258.out
    have hcz18_0 : w11.cell? ⟨gb258, 0, none⟩ = some (.string (⟨#[]⟩ : ByteArray)) := (blk_cell BK258.out 0).trans rfl
    have hcz18_1 : w11.cell? ⟨gb258, 1, none⟩ = some (.int .i64 0) := (blk_cell BK258.out 1).trans rfl
    have hcz18_2 : w11.cell? ⟨gb258, 2, none⟩ = some (.int .i64 0) := (blk_cell BK258.out 2).trans rfl
    have hcz18_3 : w11.cell? ⟨gb258, 3, none⟩ = some (.int .i64 0) := (blk_cell BK258.out 3).trans rfl
    have hcz18_4 : w11.cell? ⟨gb258, 4, none⟩ = some (.int .i64 0) := (blk_cell BK258.out 4).trans rfl
    have hcz18_5 : w11.cell? ⟨gb258, 5, none⟩ = some (.slice none 0 0) := (blk_cell BK258.out 5).trans rfl
    have hfz18_0 := blk_frozen BK258.out 0
    have hfz18_1 := blk_frozen BK258.out 1
    have hfz18_2 := blk_frozen BK258.out 2
    have hfz18_3 := blk_frozen BK258.out 3
    have hfz18_4 := blk_frozen BK258.out 4
    have hfz18_5 := blk_frozen BK258.out 5
    have hcz19_0 : w11.cell? ⟨gb248, 0, none⟩ = some (.string t239) := (blk_cell BK248.out 0).trans rfl
    have hcz19_1 : w11.cell? ⟨gb248, 1, none⟩ = some (.int .i64 t240) := (blk_cell BK248.out 1).trans rfl
    have hcz19_2 : w11.cell? ⟨gb248, 2, none⟩ = some (.int .i64 t241) := (blk_cell BK248.out 2).trans rfl
    have hcz19_3 : w11.cell? ⟨gb248, 3, none⟩ = some (.int .i64 t242) := (blk_cell BK248.out 3).trans rfl
    have hcz19_4 : w11.cell? ⟨gb248, 4, none⟩ = some (.int .i64 t243) := (blk_cell BK248.out 4).trans rfl
    have hcz19_5 : w11.cell? ⟨gb248, 5, none⟩ = some (.slice Ao9 t244.length co9) := (blk_cell BK248.out 5).trans rfl
    have hfz19_0 := blk_frozen BK248.out 0
    have hfz19_1 := blk_frozen BK248.out 1
    have hfz19_2 := blk_frozen BK248.out 2
    have hfz19_3 := blk_frozen BK248.out 3
    have hfz19_4 := blk_frozen BK248.out 4
    have hfz19_5 := blk_frozen BK248.out 5
    go_wp2_with (first | ((with_reducible refine gate_callee (f := 25) rfl ?_); refine goesL_ (some 26) rfl rfl Tryd.func25 (by kernel_rfl) rfl #[.agg #[.string t249, .int .i64 t250, .int .i64 t251, .int .i64 t252, .int .i64 t253, .slice Ao14 t254.length co14], .agg #[.string t239, .int .i64 t240, .int .i64 t241, .int .i64 t242, .int .i64 t243, .slice Ao9 t244.length co9]] rfl (by (try simp only [List.map_toArray, List.map_cons, List.map_nil]); first | done | rfl | (simp only [List.length_drop, List.length_take]; rfl)) ?_; (with_reducible refine (laws_eqBuilding.calls k t249 t250 t251 t252 t253 _ _ t254 t239 t240 t241 t242 t243 _ _ t244 true _ ?side1 ?side2 ?side3 ?side4 A15.out).mono ?_); (case side1 => refine (Kd.R_reads' (e := 2) (base := w.heap.size) (ok := fun k_ => (True ∧ some k_ ≠ (.slice Ao9 t244.length co9 : Value).ownBlock)) (n := t254.length) (c := co14) ?_).2.2; exact (by (with_reducible repeat (first | apply Kd.R_alloc | apply Kd.R_drewN | apply Kd.R_drew)); exact (Kd.R_mono (Kd.R_far (p := ⟨gb258, 5, none⟩) (Kd.R_far (p := ⟨gb258, 4, none⟩) (Kd.R_far (p := ⟨gb258, 3, none⟩) (Kd.R_far (p := ⟨gb258, 2, none⟩) (Kd.R_far (p := ⟨gb258, 1, none⟩) (Kd.R_far (p := ⟨gb258, 0, none⟩) (Kd.R_types HO256.out BK258.out (by decide)) (fun _ hk => hk.2) (.string t249)) (fun _ hk => hk.2) (.int .i64 t250)) (fun _ hk => hk.2) (.int .i64 t251)) (fun _ hk => hk.2) (.int .i64 t252)) (fun _ hk => hk.2) (.int .i64 t253)) (fun _ hk => hk.2) (.slice Ao14 t254.length co14)) (fun _ h_ => h_.1)))); (case side2 => exact (Kd.R_reads' HO256.out).2.1); (case side3 => refine (Kd.R_reads' (e := 2) (base := w.heap.size) (ok := fun k_ => (True ∧ some k_ ≠ (.slice Ao14 t254.length co14 : Value).ownBlock)) (n := t244.length) (c := co9) ?_).2.2; exact (by (with_reducible repeat (first | apply Kd.R_alloc | apply Kd.R_drewN | apply Kd.R_drew)); exact (Kd.R_mono (Kd.R_far (p := ⟨gb258, 5, none⟩) (Kd.R_far (p := ⟨gb258, 4, none⟩) (Kd.R_far (p := ⟨gb258, 3, none⟩) (Kd.R_far (p := ⟨gb258, 2, none⟩) (Kd.R_far (p := ⟨gb258, 1, none⟩) (Kd.R_far (p := ⟨gb258, 0, none⟩) (Kd.R_types HO246.out BK258.out (by decide)) (fun _ hk => hk.2) (.string t249)) (fun _ hk => hk.2) (.int .i64 t250)) (fun _ hk => hk.2) (.int .i64 t251)) (fun _ hk => hk.2) (.int .i64 t252)) (fun _ hk => hk.2) (.int .i64 t253)) (fun _ hk => hk.2) (.slice Ao14 t254.length co14)) (fun _ h_ => h_.1)))); (case side4 => exact (Kd.R_reads' HO246.out).2.1); rintro e w20 ⟨rfl, hb⟩; refine ⟨_, rfl, ?_⟩; have n0_ := Aside0.mk (Kd.R_below (by (with_reducible repeat (first | apply Kd.R_alloc | apply Kd.R_drewN | apply Kd.R_drew)); exact (Kd.R_mono (Kd.R_far (p := ⟨gb258, 5, none⟩) (Kd.R_far (p := ⟨gb258, 4, none⟩) (Kd.R_far (p := ⟨gb258, 3, none⟩) (Kd.R_far (p := ⟨gb258, 2, none⟩) (Kd.R_far (p := ⟨gb258, 1, none⟩) (Kd.R_far (p := ⟨gb258, 0, none⟩) (Kd.R_types HO246.out BK258.out (by decide)) (fun _ hk => hk.2) (.string t249)) (fun _ hk => hk.2) (.int .i64 t250)) (fun _ hk => hk.2) (.int .i64 t251)) (fun _ hk => hk.2) (.int .i64 t252)) (fun _ hk => hk.2) (.int .i64 t253)) (fun _ hk => hk.2) (.slice Ao14 t254.length co14)) (fun _ h_ => h_.1))) hb); have n1_ := Aside0.mk (Kd.R_below (by (with_reducible repeat (first | apply Kd.R_alloc | apply Kd.R_drewN | apply Kd.R_drew)); exact (Kd.R_mono (Kd.R_far (p := ⟨gb258, 5, none⟩) (Kd.R_far (p := ⟨gb258, 4, none⟩) (Kd.R_far (p := ⟨gb258, 3, none⟩) (Kd.R_far (p := ⟨gb258, 2, none⟩) (Kd.R_far (p := ⟨gb258, 1, none⟩) (Kd.R_far (p := ⟨gb258, 0, none⟩) (Kd.R_types HO256.out BK258.out (by decide)) (fun _ hk => hk.2) (.string t249)) (fun _ hk => hk.2) (.int .i64 t250)) (fun _ hk => hk.2) (.int .i64 t251)) (fun _ hk => hk.2) (.int .i64 t252)) (fun _ hk => hk.2) (.int .i64 t253)) (fun _ hk => hk.2) (.slice Ao14 t254.length co14)) (fun _ h_ => h_.1))) hb); have n2_ := Aside0.mk (blk_below (g := gb248) (o := .cells #[.string t239, .int .i64 t240, .int .i64 t241, .int .i64 t242, .int .i64 t243, .slice Ao9 t244.length co9] 51 (0, 0)) (by (with_reducible repeat (first | refine blk_drewN ?_ _ | refine blk_drew ?_ | refine blk_alloc ?_ _)); refine blk_far ?_ NB248_258.out _; (with_reducible repeat (first | refine blk_drewN ?_ _ | refine blk_drew ?_ | refine blk_alloc ?_ _)); refine blk_far ?_ NB248_258.out _; (with_reducible repeat (first | refine blk_drewN ?_ _ | refine blk_drew ?_ | refine blk_alloc ?_ _)); refine blk_far ?_ NB248_258.out _; (with_reducible repeat (first | refine blk_drewN ?_ _ | refine blk_drew ?_ | refine blk_alloc ?_ _)); refine blk_far ?_ NB248_258.out _; (with_reducible repeat (first | refine blk_drewN ?_ _ | refine blk_drew ?_ | refine blk_alloc ?_ _)); refine blk_far ?_ NB248_258.out _; (with_reducible repeat (first | refine blk_drewN ?_ _ | refine blk_drew ?_ | refine blk_alloc ?_ _)); refine blk_far ?_ NB248_258.out _; (with_reducible repeat (first | refine blk_drewN ?_ _ | refine blk_drew ?_ | refine blk_alloc ?_ _)); exact BK248.out) hb); have n3_ := Aside0.mk (blk_below (g := gb258) (o := .cells #[.string t249, .int .i64 t250, .int .i64 t251, .int .i64 t252, .int .i64 t253, .slice Ao14 t254.length co14] 51 (0, 0)) (by (with_reducible repeat (first | refine blk_drewN ?_ _ | refine blk_drew ?_ | refine blk_alloc ?_ _)); refine blk_put (cs := #[.string t249, .int .i64 t250, .int .i64 t251, .int .i64 t252, .int .i64 t253, .slice none 0 0]) ?_ 5 _ rfl; (with_reducible repeat (first | refine blk_drewN ?_ _ | refine blk_drew ?_ | refine blk_alloc ?_ _)); refine blk_put (cs := #[.string t249, .int .i64 t250, .int .i64 t251, .int .i64 t252, .int .i64 0, .slice none 0 0]) ?_ 4 _ rfl; (with_reducible repeat (first | refine blk_drewN ?_ _ | refine blk_drew ?_ | refine blk_alloc ?_ _)); refine blk_put (cs := #[.string t249, .int .i64 t250, .int .i64 t251, .int .i64 0, .int .i64 0, .slice none 0 0]) ?_ 3 _ rfl; (with_reducible repeat (first | refine blk_drewN ?_ _ | refine blk_drew ?_ | refine blk_alloc ?_ _)); refine blk_put (cs := #[.string t249, .int .i64 t250, .int .i64 0, .int .i64 0, .int .i64 0, .slice none 0 0]) ?_ 2 _ rfl; (with_reducible repeat (first | refine blk_drewN ?_ _ | refine blk_drew ?_ | refine blk_alloc ?_ _)); refine blk_put (cs := #[.string t249, .int .i64 0, .int .i64 0, .int .i64 0, .int .i64 0, .slice none 0 0]) ?_ 1 _ rfl; (with_reducible repeat (first | refine blk_drewN ?_ _ | refine blk_drew ?_ | refine blk_alloc ?_ _)); refine blk_put (cs := #[.string (⟨#[]⟩ : ByteArray), .int .i64 0, .int .i64 0, .int .i64 0, .int .i64 0, .slice none 0 0]) ?_ 0 _ rfl; (with_reducible repeat (first | refine blk_drewN ?_ _ | refine blk_drew ?_ | refine blk_alloc ?_ _)); exact BK258.out) hb); have n4_ := Aside0.mk (below_step (by repeat (first | (with_reducible first | exact HB.out | apply below_alloc | apply pw_below_drewN | apply below_drew1 | refine below_set ?_ GE248.out | refine below_set ?_ GE258.out) | exact HB.out)) hb); clear HO246; clear HO256; clear BK248; clear BK258; clear HB; have HO246 := n0_; have HO256 := n1_; have BK248 := n2_; have BK258 := n3_; have HB := n4_; clear n0_ n1_ n2_ n3_ n4_; (try clear hb); (try clear hb2); (try clear hk); (try clear hi)))
    go_meet
    case rel => exact ⟨_, ((t257 != t247)), (by first | rfl | (simp; done) | (simp [*]; done)), H', ⟨by first | omega | exact Nat.le_refl _⟩, ⟨by (with_reducible repeat (first | apply Kd.R_alloc | apply Kd.R_drewN | apply Kd.R_drew)); exact Kd.R_mono HO246.out (fun _ hk => hk.2)⟩, ⟨by (with_reducible repeat (first | apply Kd.R_alloc | apply Kd.R_drewN | apply Kd.R_drew)); exact Kd.R_mono HO256.out (fun _ hk => hk.2)⟩, ⟨by (with_reducible repeat (first | refine blk_drewN ?_ _ | refine blk_drew ?_ | refine blk_alloc ?_ _)); exact BK248.out⟩, ⟨by (with_reducible repeat (first | refine blk_drewN ?_ _ | refine blk_drew ?_ | refine blk_alloc ?_ _)); exact BK258.out⟩, ⟨by repeat (first | (with_reducible first | exact HB.out | apply below_alloc | apply pw_below_drewN | apply below_drew1 | refine below_set ?_ GE248.out | refine below_set ?_ GE258.out) | exact HB.out)⟩⟩
   ·
    replace c16 := Bool.eq_false_iff.mpr c16
    subst c16
    have H1 : (laws_FnExactReadBuilding.j0 k a0 t247 true t239 t240 t241 t242 t243 t244 t249 t250 t251 t252 t253 t254) = some r := by rw [if_neg (show ¬ (false = true) by decide)] at H; exact H
    clear H
    have H := H1
    clear H1
    have H' := Aside0.mk H
    clear H
    have hnb21 := NB258_248.out
    have hnc21 := NB248_258.out
    have hcz22_0 : w11.cell? ⟨gb258, 0, none⟩ = some (.string (⟨#[]⟩ : ByteArray)) := (blk_cell BK258.out 0).trans rfl
    have hcz22_1 : w11.cell? ⟨gb258, 1, none⟩ = some (.int .i64 0) := (blk_cell BK258.out 1).trans rfl
    have hcz22_2 : w11.cell? ⟨gb258, 2, none⟩ = some (.int .i64 0) := (blk_cell BK258.out 2).trans rfl
    have hcz22_3 : w11.cell? ⟨gb258, 3, none⟩ = some (.int .i64 0) := (blk_cell BK258.out 3).trans rfl
    have hcz22_4 : w11.cell? ⟨gb258, 4, none⟩ = some (.int .i64 0) := (blk_cell BK258.out 4).trans rfl
    have hcz22_5 : w11.cell? ⟨gb258, 5, none⟩ = some (.slice none 0 0) := (blk_cell BK258.out 5).trans rfl
    have hfz22_0 := blk_frozen BK258.out 0
    have hfz22_1 := blk_frozen BK258.out 1
    have hfz22_2 := blk_frozen BK258.out 2
    have hfz22_3 := blk_frozen BK258.out 3
    have hfz22_4 := blk_frozen BK258.out 4
    have hfz22_5 := blk_frozen BK258.out 5
    have hcz23_0 : w11.cell? ⟨gb248, 0, none⟩ = some (.string t239) := (blk_cell BK248.out 0).trans rfl
    have hcz23_1 : w11.cell? ⟨gb248, 1, none⟩ = some (.int .i64 t240) := (blk_cell BK248.out 1).trans rfl
    have hcz23_2 : w11.cell? ⟨gb248, 2, none⟩ = some (.int .i64 t241) := (blk_cell BK248.out 2).trans rfl
    have hcz23_3 : w11.cell? ⟨gb248, 3, none⟩ = some (.int .i64 t242) := (blk_cell BK248.out 3).trans rfl
    have hcz23_4 : w11.cell? ⟨gb248, 4, none⟩ = some (.int .i64 t243) := (blk_cell BK248.out 4).trans rfl
    have hcz23_5 : w11.cell? ⟨gb248, 5, none⟩ = some (.slice Ao9 t244.length co9) := (blk_cell BK248.out 5).trans rfl
    have hfz23_0 := blk_frozen BK248.out 0
    have hfz23_1 := blk_frozen BK248.out 1
    have hfz23_2 := blk_frozen BK248.out 2
    have hfz23_3 := blk_frozen BK248.out 3
    have hfz23_4 := blk_frozen BK248.out 4
    have hfz23_5 := blk_frozen BK248.out 5
    go_wp2_with (first | ((with_reducible refine gate_callee (f := 25) rfl ?_); refine goesL_ (some 26) rfl rfl Tryd.func25 (by kernel_rfl) rfl #[.agg #[.string t249, .int .i64 t250, .int .i64 t251, .int .i64 t252, .int .i64 t253, .slice Ao14 t254.length co14], .agg #[.string t239, .int .i64 t240, .int .i64 t241, .int .i64 t242, .int .i64 t243, .slice Ao9 t244.length co9]] rfl (by (try simp only [List.map_toArray, List.map_cons, List.map_nil]); first | done | rfl | (simp only [List.length_drop, List.length_take]; rfl)) ?_; (with_reducible refine (laws_eqBuilding.calls k t249 t250 t251 t252 t253 _ _ t254 t239 t240 t241 t242 t243 _ _ t244 false _ ?side1 ?side2 ?side3 ?side4 A15.out).mono ?_); (case side1 => refine (Kd.R_reads' (e := 2) (base := w.heap.size) (ok := fun k_ => (True ∧ some k_ ≠ (.slice Ao9 t244.length co9 : Value).ownBlock)) (n := t254.length) (c := co14) ?_).2.2; exact (by (with_reducible repeat (first | apply Kd.R_alloc | apply Kd.R_drewN | apply Kd.R_drew)); exact (Kd.R_mono (Kd.R_far (p := ⟨gb258, 5, none⟩) (Kd.R_far (p := ⟨gb258, 4, none⟩) (Kd.R_far (p := ⟨gb258, 3, none⟩) (Kd.R_far (p := ⟨gb258, 2, none⟩) (Kd.R_far (p := ⟨gb258, 1, none⟩) (Kd.R_far (p := ⟨gb258, 0, none⟩) (Kd.R_types HO256.out BK258.out (by decide)) (fun _ hk => hk.2) (.string t249)) (fun _ hk => hk.2) (.int .i64 t250)) (fun _ hk => hk.2) (.int .i64 t251)) (fun _ hk => hk.2) (.int .i64 t252)) (fun _ hk => hk.2) (.int .i64 t253)) (fun _ hk => hk.2) (.slice Ao14 t254.length co14)) (fun _ h_ => h_.1)))); (case side2 => exact (Kd.R_reads' HO256.out).2.1); (case side3 => refine (Kd.R_reads' (e := 2) (base := w.heap.size) (ok := fun k_ => (True ∧ some k_ ≠ (.slice Ao14 t254.length co14 : Value).ownBlock)) (n := t244.length) (c := co9) ?_).2.2; exact (by (with_reducible repeat (first | apply Kd.R_alloc | apply Kd.R_drewN | apply Kd.R_drew)); exact (Kd.R_mono (Kd.R_far (p := ⟨gb258, 5, none⟩) (Kd.R_far (p := ⟨gb258, 4, none⟩) (Kd.R_far (p := ⟨gb258, 3, none⟩) (Kd.R_far (p := ⟨gb258, 2, none⟩) (Kd.R_far (p := ⟨gb258, 1, none⟩) (Kd.R_far (p := ⟨gb258, 0, none⟩) (Kd.R_types HO246.out BK258.out (by decide)) (fun _ hk => hk.2) (.string t249)) (fun _ hk => hk.2) (.int .i64 t250)) (fun _ hk => hk.2) (.int .i64 t251)) (fun _ hk => hk.2) (.int .i64 t252)) (fun _ hk => hk.2) (.int .i64 t253)) (fun _ hk => hk.2) (.slice Ao14 t254.length co14)) (fun _ h_ => h_.1)))); (case side4 => exact (Kd.R_reads' HO246.out).2.1); rintro e w24 ⟨rfl, hb⟩; refine ⟨_, rfl, ?_⟩; have n0_ := Aside0.mk (Kd.R_below (by (with_reducible repeat (first | apply Kd.R_alloc | apply Kd.R_drewN | apply Kd.R_drew)); exact (Kd.R_mono (Kd.R_far (p := ⟨gb258, 5, none⟩) (Kd.R_far (p := ⟨gb258, 4, none⟩) (Kd.R_far (p := ⟨gb258, 3, none⟩) (Kd.R_far (p := ⟨gb258, 2, none⟩) (Kd.R_far (p := ⟨gb258, 1, none⟩) (Kd.R_far (p := ⟨gb258, 0, none⟩) (Kd.R_types HO246.out BK258.out (by decide)) (fun _ hk => hk.2) (.string t249)) (fun _ hk => hk.2) (.int .i64 t250)) (fun _ hk => hk.2) (.int .i64 t251)) (fun _ hk => hk.2) (.int .i64 t252)) (fun _ hk => hk.2) (.int .i64 t253)) (fun _ hk => hk.2) (.slice Ao14 t254.length co14)) (fun _ h_ => h_.1))) hb); have n1_ := Aside0.mk (Kd.R_below (by (with_reducible repeat (first | apply Kd.R_alloc | apply Kd.R_drewN | apply Kd.R_drew)); exact (Kd.R_mono (Kd.R_far (p := ⟨gb258, 5, none⟩) (Kd.R_far (p := ⟨gb258, 4, none⟩) (Kd.R_far (p := ⟨gb258, 3, none⟩) (Kd.R_far (p := ⟨gb258, 2, none⟩) (Kd.R_far (p := ⟨gb258, 1, none⟩) (Kd.R_far (p := ⟨gb258, 0, none⟩) (Kd.R_types HO256.out BK258.out (by decide)) (fun _ hk => hk.2) (.string t249)) (fun _ hk => hk.2) (.int .i64 t250)) (fun _ hk => hk.2) (.int .i64 t251)) (fun _ hk => hk.2) (.int .i64 t252)) (fun _ hk => hk.2) (.int .i64 t253)) (fun _ hk => hk.2) (.slice Ao14 t254.length co14)) (fun _ h_ => h_.1))) hb); have n2_ := Aside0.mk (blk_below (g := gb248) (o := .cells #[.string t239, .int .i64 t240, .int .i64 t241, .int .i64 t242, .int .i64 t243, .slice Ao9 t244.length co9] 51 (0, 0)) (by (with_reducible repeat (first | refine blk_drewN ?_ _ | refine blk_drew ?_ | refine blk_alloc ?_ _)); refine blk_far ?_ NB248_258.out _; (with_reducible repeat (first | refine blk_drewN ?_ _ | refine blk_drew ?_ | refine blk_alloc ?_ _)); refine blk_far ?_ NB248_258.out _; (with_reducible repeat (first | refine blk_drewN ?_ _ | refine blk_drew ?_ | refine blk_alloc ?_ _)); refine blk_far ?_ NB248_258.out _; (with_reducible repeat (first | refine blk_drewN ?_ _ | refine blk_drew ?_ | refine blk_alloc ?_ _)); refine blk_far ?_ NB248_258.out _; (with_reducible repeat (first | refine blk_drewN ?_ _ | refine blk_drew ?_ | refine blk_alloc ?_ _)); refine blk_far ?_ NB248_258.out _; (with_reducible repeat (first | refine blk_drewN ?_ _ | refine blk_drew ?_ | refine blk_alloc ?_ _)); refine blk_far ?_ NB248_258.out _; (with_reducible repeat (first | refine blk_drewN ?_ _ | refine blk_drew ?_ | refine blk_alloc ?_ _)); exact BK248.out) hb); have n3_ := Aside0.mk (blk_below (g := gb258) (o := .cells #[.string t249, .int .i64 t250, .int .i64 t251, .int .i64 t252, .int .i64 t253, .slice Ao14 t254.length co14] 51 (0, 0)) (by (with_reducible repeat (first | refine blk_drewN ?_ _ | refine blk_drew ?_ | refine blk_alloc ?_ _)); refine blk_put (cs := #[.string t249, .int .i64 t250, .int .i64 t251, .int .i64 t252, .int .i64 t253, .slice none 0 0]) ?_ 5 _ rfl; (with_reducible repeat (first | refine blk_drewN ?_ _ | refine blk_drew ?_ | refine blk_alloc ?_ _)); refine blk_put (cs := #[.string t249, .int .i64 t250, .int .i64 t251, .int .i64 t252, .int .i64 0, .slice none 0 0]) ?_ 4 _ rfl; (with_reducible repeat (first | refine blk_drewN ?_ _ | refine blk_drew ?_ | refine blk_alloc ?_ _)); refine blk_put (cs := #[.string t249, .int .i64 t250, .int .i64 t251, .int .i64 0, .int .i64 0, .slice none 0 0]) ?_ 3 _ rfl; (with_reducible repeat (first | refine blk_drewN ?_ _ | refine blk_drew ?_ | refine blk_alloc ?_ _)); refine blk_put (cs := #[.string t249, .int .i64 t250, .int .i64 0, .int .i64 0, .int .i64 0, .slice none 0 0]) ?_ 2 _ rfl; (with_reducible repeat (first | refine blk_drewN ?_ _ | refine blk_drew ?_ | refine blk_alloc ?_ _)); refine blk_put (cs := #[.string t249, .int .i64 0, .int .i64 0, .int .i64 0, .int .i64 0, .slice none 0 0]) ?_ 1 _ rfl; (with_reducible repeat (first | refine blk_drewN ?_ _ | refine blk_drew ?_ | refine blk_alloc ?_ _)); refine blk_put (cs := #[.string (⟨#[]⟩ : ByteArray), .int .i64 0, .int .i64 0, .int .i64 0, .int .i64 0, .slice none 0 0]) ?_ 0 _ rfl; (with_reducible repeat (first | refine blk_drewN ?_ _ | refine blk_drew ?_ | refine blk_alloc ?_ _)); exact BK258.out) hb); have n4_ := Aside0.mk (below_step (by repeat (first | (with_reducible first | exact HB.out | apply below_alloc | apply pw_below_drewN | apply below_drew1 | refine below_set ?_ GE248.out | refine below_set ?_ GE258.out) | exact HB.out)) hb); clear HO246; clear HO256; clear BK248; clear BK258; clear HB; have HO246 := n0_; have HO256 := n1_; have BK248 := n2_; have BK258 := n3_; have HB := n4_; clear n0_ n1_ n2_ n3_ n4_; (try clear hb); (try clear hb2); (try clear hk); (try clear hi)))
    go_meet
    case rel => exact ⟨_, (true), (by first | rfl | (simp; done) | (simp [*]; done)), H', ⟨by first | omega | exact Nat.le_refl _⟩, ⟨by (with_reducible repeat (first | apply Kd.R_alloc | apply Kd.R_drewN | apply Kd.R_drew)); exact Kd.R_mono HO246.out (fun _ hk => hk.2)⟩, ⟨by (with_reducible repeat (first | apply Kd.R_alloc | apply Kd.R_drewN | apply Kd.R_drew)); exact Kd.R_mono HO256.out (fun _ hk => hk.2)⟩, ⟨by (with_reducible repeat (first | refine blk_drewN ?_ _ | refine blk_drew ?_ | refine blk_alloc ?_ _)); exact BK248.out⟩, ⟨by (with_reducible repeat (first | refine blk_drewN ?_ _ | refine blk_drew ?_ | refine blk_alloc ?_ _)); exact BK258.out⟩, ⟨by repeat (first | (with_reducible first | exact HB.out | apply below_alloc | apply pw_below_drewN | apply below_drew1 | refine below_set ?_ GE248.out | refine below_set ?_ GE258.out) | exact HB.out)⟩⟩
  case rest =>
   clear HC5
   try clear c1
   try clear c2
   try clear c2b0
   try clear c2b1
   try clear p2
   try clear c4
   try clear c12
   try clear c16
   try clear c17
   try clear c21
   try clear c23
   try clear c24
   try clear hcz13_0
   try clear hcz13_1
   try clear hcz13_2
   try clear hcz13_3
   try clear hcz13_4
   try clear hcz13_5
   try clear hcz18_0
   try clear hcz18_1
   try clear hcz18_2
   try clear hcz18_3
   try clear hcz18_4
   try clear hcz18_5
   try clear hcz19_0
   try clear hcz19_1
   try clear hcz19_2
   try clear hcz19_3
   try clear hcz19_4
   try clear hcz19_5
   try clear hcz22_0
   try clear hcz22_1
   try clear hcz22_2
   try clear hcz22_3
   try clear hcz22_4
   try clear hcz22_5
   try clear hcz23_0
   try clear hcz23_1
   try clear hcz23_2
   try clear hcz23_3
   try clear hcz23_4
   try clear hcz23_5
   try clear hcz8_0
   try clear hcz8_1
   try clear hcz8_2
   try clear hcz8_3
   try clear hcz8_4
   try clear hcz8_5
   try clear hfz13_0
   try clear hfz13_1
   try clear hfz13_2
   try clear hfz13_3
   try clear hfz13_4
   try clear hfz13_5
   try clear hfz18_0
   try clear hfz18_1
   try clear hfz18_2
   try clear hfz18_3
   try clear hfz18_4
   try clear hfz18_5
   try clear hfz19_0
   try clear hfz19_1
   try clear hfz19_2
   try clear hfz19_3
   try clear hfz19_4
   try clear hfz19_5
   try clear hfz22_0
   try clear hfz22_1
   try clear hfz22_2
   try clear hfz22_3
   try clear hfz22_4
   try clear hfz22_5
   try clear hfz23_0
   try clear hfz23_1
   try clear hfz23_2
   try clear hfz23_3
   try clear hfz23_4
   try clear hfz23_5
   try clear hfz8_0
   try clear hfz8_1
   try clear hfz8_2
   try clear hfz8_3
   try clear hfz8_4
   try clear hfz8_5
   obtain ⟨kq, x32_4, rfl, HA, HJ4, HO_249005, HO_259005, BK248, BK258, HB⟩ := hcut
   cases kq with
   | zero => exact absurd HA.out (by simp [laws_FnExactReadBuilding.j0])
   | succ kj4 =>
    have H := HA.out
    clear HA
    simp only [laws_FnExactReadBuilding.j0] at H
    by_cases c25 : x32_4 = true
    ·
     subst c25
     have H1 : (some false) = some r := by rw [if_pos rfl] at H; exact H
     clear H
     have H := H1
     clear H1
     obtain rfl := Option.some.inj H
     go_wp2
     go_ret
     exact ⟨by first | rfl | (simp [errW_none, errW_some] <;> rfl) | (simp [*, errW_none, errW_some] <;> rfl), by repeat (first | (with_reducible first | exact HB.out | apply below_alloc | apply pw_below_drewN | apply below_drew1 | refine below_set ?_ GE248.out | refine below_set ?_ GE258.out) | exact HB.out)⟩
    ·
     replace c25 := Bool.eq_false_iff.mpr c25
     subst c25
     have H1 : ((laws_markBuilding.f kj4 t249 t250 t251 t252 t253 t254 1).bind fun bt260 => ((laws_heldBuilding.f kj4 t249 t250 t251 t252 t253 bt260.2 1).bind fun t262 => (if t262 < 0 then (some false) else (if t262 = bt260.1 then ((impl_ReadBuilding.f kj4 a0).bind fun bt263 => ((laws_eqBuilding.f kj4 bt263.1 bt263.2.1 bt263.2.2.1 bt263.2.2.2.1 bt263.2.2.2.2.1 bt263.2.2.2.2.2.1 t239 t240 t241 t242 t243 t244).bind fun t273 => (if t273 = true then (laws_FnExactReadBuilding.j1 kj4 bt260.1 (bt263.2.2.2.2.2.2 != t247) t249 t250 t251 t252 t253 bt260.2) else (laws_FnExactReadBuilding.j1 kj4 bt260.1 true t249 t250 t251 t252 t253 bt260.2)))) else (some false))))) = some r := by rw [if_neg (show ¬ (false = true) by decide)] at H; exact H
     clear H
     have H := H1
     clear H1
     replace H := Option.bind_eq_some_iff.mp H
     obtain ⟨⟨t260, t261⟩, A260, H⟩ := H
     replace H : ((laws_heldBuilding.f kj4 t249 t250 t251 t252 t253 t261 1).bind fun t262 => (if t262 < 0 then (some false) else (if t262 = t260 then ((impl_ReadBuilding.f kj4 a0).bind fun bt263 => ((laws_eqBuilding.f kj4 bt263.1 bt263.2.1 bt263.2.2.1 bt263.2.2.2.1 bt263.2.2.2.2.1 bt263.2.2.2.2.2.1 t239 t240 t241 t242 t243 t244).bind fun t273 => (if t273 = true then (laws_FnExactReadBuilding.j1 kj4 t260 (bt263.2.2.2.2.2.2 != t247) t249 t250 t251 t252 t253 t261) else (laws_FnExactReadBuilding.j1 kj4 t260 true t249 t250 t251 t252 t253 t261)))) else (some false)))) = some r := H
     have A26 := Aside0.mk A260
     clear A260
     replace H := Option.bind_eq_some_iff.mp H
     obtain ⟨t262, A270, H⟩ := H
     replace H : (if t262 < 0 then (some false) else (if t262 = t260 then ((impl_ReadBuilding.f kj4 a0).bind fun bt263 => ((laws_eqBuilding.f kj4 bt263.1 bt263.2.1 bt263.2.2.1 bt263.2.2.2.1 bt263.2.2.2.2.1 bt263.2.2.2.2.2.1 t239 t240 t241 t242 t243 t244).bind fun t273 => (if t273 = true then (laws_FnExactReadBuilding.j1 kj4 t260 (bt263.2.2.2.2.2.2 != t247) t249 t250 t251 t252 t253 t261) else (laws_FnExactReadBuilding.j1 kj4 t260 true t249 t250 t251 t252 t253 t261)))) else (some false))) = some r := H
     have A27 := Aside0.mk A270
     clear A270
     by_cases c28 : t262 < 0
     ·
      rw [if_pos c28] at H
      have c28b0 : decide (t262 < 0) = true := decide_eq_true c28
      clear c28
      obtain rfl := Option.some.inj H
      have hnb29 := NB258_248.out
      have hnc29 := NB248_258.out
      have hcz30_0 : wc.cell? ⟨gb258, 0, none⟩ = some (.string t249) := (blk_cell BK258.out 0).trans rfl
      have hcz30_1 : wc.cell? ⟨gb258, 1, none⟩ = some (.int .i64 t250) := (blk_cell BK258.out 1).trans rfl
      have hcz30_2 : wc.cell? ⟨gb258, 2, none⟩ = some (.int .i64 t251) := (blk_cell BK258.out 2).trans rfl
      have hcz30_3 : wc.cell? ⟨gb258, 3, none⟩ = some (.int .i64 t252) := (blk_cell BK258.out 3).trans rfl
      have hcz30_4 : wc.cell? ⟨gb258, 4, none⟩ = some (.int .i64 t253) := (blk_cell BK258.out 4).trans rfl
      have hcz30_5 : wc.cell? ⟨gb258, 5, none⟩ = some (.slice Ao14 t254.length co14) := (blk_cell BK258.out 5).trans rfl
      have hfz30_0 := blk_frozen BK258.out 0
      have hfz30_1 := blk_frozen BK258.out 1
      have hfz30_2 := blk_frozen BK258.out 2
      have hfz30_3 := blk_frozen BK258.out 3
      have hfz30_4 := blk_frozen BK258.out 4
      have hfz30_5 := blk_frozen BK258.out 5
      go_wp2_with (first | ((with_reducible refine gate_callee (f := 26) rfl ?_); refine goesL_ (some 35) rfl rfl Tryd.func26 (by kernel_rfl) rfl #[.agg #[.string t249, .int .i64 t250, .int .i64 t251, .int .i64 t252, .int .i64 t253, .slice Ao14 t254.length co14], .int .i64 1] rfl (by (try simp only [List.map_toArray, List.map_cons, List.map_nil]); first | done | rfl | (simp only [List.length_drop, List.length_take]; rfl)) ?_; (with_reducible refine (laws_markBuilding.calls kj4 t249 t250 t251 t252 t253 (fun k_ => some k_ = (.slice Ao14 t254.length co14 : Value).ownBlock) (.slice Ao14 t254.length co14) t254 1 t260 t261 w _ ?side1 ?side2 A26.out).mono ?_); (case side1 => repeat (first | (with_reducible first | exact HB.out | apply below_alloc | apply pw_below_drewN | apply below_drew1 | refine below_set ?_ GE248.out | refine below_set ?_ GE258.out) | exact HB.out)); (case side2 => exact Kd.R_tight rfl HO_259005.out); rintro e w31 ⟨rfl, hy0, hb, hkp⟩; refine ⟨_, rfl, ?_⟩; have n0_ := Aside0.mk (Kd.R_mono (ok' := fun k_ => some k_ ≠ (.slice Ao14 t254.length co14 : Value).ownBlock) (Kd.R_keptB (HO_249005.out) hkp (fun k_ hk_ hs_ => (hk_) hs_)) (fun k_ hk_ => hk_.1)); have n1_ := Aside0.mk (Kd.R_reok rfl hy0 (fun k_ e_ => HO_259005.out.1 k_ e_)); have n2_ := Aside0.mk (blk_kept (by (with_reducible repeat (first | refine blk_drewN ?_ _ | refine blk_drew ?_ | refine blk_alloc ?_ _)); exact BK248.out) hkp (fun hs_ => (fun e_ => (Kd.R_ne HO_259005.out BK248.out (by decide)) e_) hs_)); have n3_ := Aside0.mk (blk_kept (by (with_reducible repeat (first | refine blk_drewN ?_ _ | refine blk_drew ?_ | refine blk_alloc ?_ _)); exact BK258.out) hkp (fun hs_ => (fun e_ => (Kd.R_ne HO_259005.out BK258.out (by decide)) e_) hs_)); have n4_ := Aside0.mk (hb); clear HO_249005; clear HO_259005; clear BK248; clear BK258; clear HB; have HO_249005 := n0_; have HO_259005 := n1_; have BK248 := n2_; have BK258 := n3_; have HB := n4_; clear n0_ n1_ n2_ n3_ n4_; (try clear hb); (try clear hkp); (try clear hy0); have hcz32_0 : w31.cell? ⟨gb258, 0, none⟩ = some (.string t249) := (blk_cell BK258.out 0).trans rfl; have hcz32_1 : w31.cell? ⟨gb258, 1, none⟩ = some (.int .i64 t250) := (blk_cell BK258.out 1).trans rfl; have hcz32_2 : w31.cell? ⟨gb258, 2, none⟩ = some (.int .i64 t251) := (blk_cell BK258.out 2).trans rfl; have hcz32_3 : w31.cell? ⟨gb258, 3, none⟩ = some (.int .i64 t252) := (blk_cell BK258.out 3).trans rfl; have hcz32_4 : w31.cell? ⟨gb258, 4, none⟩ = some (.int .i64 t253) := (blk_cell BK258.out 4).trans rfl; have hcz32_5 : w31.cell? ⟨gb258, 5, none⟩ = some (.slice Ao14 t254.length co14) := (blk_cell BK258.out 5).trans rfl; have hfz32_0 := blk_frozen BK258.out 0; have hfz32_1 := blk_frozen BK258.out 1; have hfz32_2 := blk_frozen BK258.out 2; have hfz32_3 := blk_frozen BK258.out 3; have hfz32_4 := blk_frozen BK258.out 4; have hfz32_5 := blk_frozen BK258.out 5) | ((with_reducible refine gate_callee (f := 27) rfl ?_); refine goesL_ (some 38) rfl rfl Tryd.func27 (by kernel_rfl) rfl #[.agg #[.string t249, .int .i64 t250, .int .i64 t251, .int .i64 t252, .int .i64 t253, .slice Ao14 t261.length co14], .int .i64 1] rfl (by (try simp only [List.map_toArray, List.map_cons, List.map_nil]); first | done | (rw [show t261.length = t254.length from (Kd.R_reads' HO_259005.out).1.symm] <;> rfl) | rfl | (simp only [List.length_drop, List.length_take]; rfl)) ?_; (with_reducible refine (laws_heldBuilding.calls kj4 t249 t250 t251 t252 t253 _ _ t261 1 t262 _ ?side1 ?side2 A27.out).mono ?_); (case side1 => repeat (first | exact (Kd.R_reads' HO_259005.out).2.2 | (with_reducible refine Kd.C_alloc ?_ _) | (with_reducible refine Kd.C_drewN ?_ _) | (with_reducible refine Kd.C_drew ?_))); (case side2 => rw [show t261.length = t254.length from (Kd.R_reads' HO_259005.out).1.symm]; exact (Kd.R_reads' HO_259005.out).2.1); rintro e w33 ⟨rfl, hb⟩; refine ⟨_, rfl, ?_⟩; have n0_ := Aside0.mk (Kd.R_below (by (with_reducible repeat (first | apply Kd.R_alloc | apply Kd.R_drewN | apply Kd.R_drew)); exact HO_249005.out) hb); have n1_ := Aside0.mk (Kd.R_below (by (with_reducible repeat (first | apply Kd.R_alloc | apply Kd.R_drewN | apply Kd.R_drew)); exact HO_259005.out) hb); have n2_ := Aside0.mk (blk_below (g := gb248) (o := .cells #[.string t239, .int .i64 t240, .int .i64 t241, .int .i64 t242, .int .i64 t243, .slice Ao9 t244.length co9] 51 (0, 0)) (by (with_reducible repeat (first | refine blk_drewN ?_ _ | refine blk_drew ?_ | refine blk_alloc ?_ _)); exact BK248.out) hb); have n3_ := Aside0.mk (blk_below (g := gb258) (o := .cells #[.string t249, .int .i64 t250, .int .i64 t251, .int .i64 t252, .int .i64 t253, .slice Ao14 t254.length co14] 51 (0, 0)) (by (with_reducible repeat (first | refine blk_drewN ?_ _ | refine blk_drew ?_ | refine blk_alloc ?_ _)); exact BK258.out) hb); have n4_ := Aside0.mk (below_step (by repeat (first | (with_reducible first | exact HB.out | apply below_alloc | apply pw_below_drewN | apply below_drew1 | refine below_set ?_ GE248.out | refine below_set ?_ GE258.out) | exact HB.out)) hb); clear HO_249005; clear HO_259005; clear BK248; clear BK258; clear HB; have HO_249005 := n0_; have HO_259005 := n1_; have BK248 := n2_; have BK258 := n3_; have HB := n4_; clear n0_ n1_ n2_ n3_ n4_; (try clear hb); (try clear hb2); (try clear hk); (try clear hi)))
      go_ret
      exact ⟨by first | rfl | (simp [errW_none, errW_some] <;> rfl) | (simp [*, errW_none, errW_some] <;> rfl), by repeat (first | (with_reducible first | exact HB.out | apply below_alloc | apply pw_below_drewN | apply below_drew1 | refine below_set ?_ GE248.out | refine below_set ?_ GE258.out) | exact HB.out)⟩
     ·
      rw [if_neg c28] at H
      have c28b0 : decide (t262 < 0) = false := decide_eq_false c28
      clear c28
      by_cases c34 : t262 = t260
      ·
       rw [if_pos c34] at H
       have c34b0 : (t262 == t260) = true := beq_iff_eq.mpr c34
       have c34b1 : (t262 != t260) = false := bne_eq_false_iff_eq.mpr c34
       clear c34
       replace H := Option.bind_eq_some_iff.mp H
       obtain ⟨⟨t263, t264, t265, t266, t267, t268, t271⟩, A350, H⟩ := H
       replace H : ((laws_eqBuilding.f kj4 t263 t264 t265 t266 t267 t268 t239 t240 t241 t242 t243 t244).bind fun t273 => (if t273 = true then (laws_FnExactReadBuilding.j1 kj4 t260 (t271 != t247) t249 t250 t251 t252 t253 t261) else (laws_FnExactReadBuilding.j1 kj4 t260 true t249 t250 t251 t252 t253 t261))) = some r := H
       have A35 := Aside0.mk A350
       clear A350
       have HC36 := Aside0.mk H
       clear H
       have hnb37 := NB258_248.out
       have hnc37 := NB248_258.out
       have hcz38_0 : wc.cell? ⟨gb258, 0, none⟩ = some (.string t249) := (blk_cell BK258.out 0).trans rfl
       have hcz38_1 : wc.cell? ⟨gb258, 1, none⟩ = some (.int .i64 t250) := (blk_cell BK258.out 1).trans rfl
       have hcz38_2 : wc.cell? ⟨gb258, 2, none⟩ = some (.int .i64 t251) := (blk_cell BK258.out 2).trans rfl
       have hcz38_3 : wc.cell? ⟨gb258, 3, none⟩ = some (.int .i64 t252) := (blk_cell BK258.out 3).trans rfl
       have hcz38_4 : wc.cell? ⟨gb258, 4, none⟩ = some (.int .i64 t253) := (blk_cell BK258.out 4).trans rfl
       have hcz38_5 : wc.cell? ⟨gb258, 5, none⟩ = some (.slice Ao14 t254.length co14) := (blk_cell BK258.out 5).trans rfl
       have hfz38_0 := blk_frozen BK258.out 0
       have hfz38_1 := blk_frozen BK258.out 1
       have hfz38_2 := blk_frozen BK258.out 2
       have hfz38_3 := blk_frozen BK258.out 3
       have hfz38_4 := blk_frozen BK258.out 4
       have hfz38_5 := blk_frozen BK258.out 5
       go_upto_region 16 with (first | ((with_reducible refine gate_callee (f := 26) rfl ?_); refine goesL_ (some 35) rfl rfl Tryd.func26 (by kernel_rfl) rfl #[.agg #[.string t249, .int .i64 t250, .int .i64 t251, .int .i64 t252, .int .i64 t253, .slice Ao14 t254.length co14], .int .i64 1] rfl (by (try simp only [List.map_toArray, List.map_cons, List.map_nil]); first | done | rfl | (simp only [List.length_drop, List.length_take]; rfl)) ?_; (with_reducible refine (laws_markBuilding.calls kj4 t249 t250 t251 t252 t253 (fun k_ => some k_ = (.slice Ao14 t254.length co14 : Value).ownBlock) (.slice Ao14 t254.length co14) t254 1 t260 t261 w _ ?side1 ?side2 A26.out).mono ?_); (case side1 => repeat (first | (with_reducible first | exact HB.out | apply below_alloc | apply pw_below_drewN | apply below_drew1 | refine below_set ?_ GE248.out | refine below_set ?_ GE258.out) | exact HB.out)); (case side2 => exact Kd.R_tight rfl HO_259005.out); rintro e w39 ⟨rfl, hy0, hb, hkp⟩; refine ⟨_, rfl, ?_⟩; have n0_ := Aside0.mk (Kd.R_mono (ok' := fun k_ => some k_ ≠ (.slice Ao14 t254.length co14 : Value).ownBlock) (Kd.R_keptB (HO_249005.out) hkp (fun k_ hk_ hs_ => (hk_) hs_)) (fun k_ hk_ => hk_.1)); have n1_ := Aside0.mk (Kd.R_reok rfl hy0 (fun k_ e_ => HO_259005.out.1 k_ e_)); have n2_ := Aside0.mk (blk_kept (by (with_reducible repeat (first | refine blk_drewN ?_ _ | refine blk_drew ?_ | refine blk_alloc ?_ _)); exact BK248.out) hkp (fun hs_ => (fun e_ => (Kd.R_ne HO_259005.out BK248.out (by decide)) e_) hs_)); have n3_ := Aside0.mk (blk_kept (by (with_reducible repeat (first | refine blk_drewN ?_ _ | refine blk_drew ?_ | refine blk_alloc ?_ _)); exact BK258.out) hkp (fun hs_ => (fun e_ => (Kd.R_ne HO_259005.out BK258.out (by decide)) e_) hs_)); have n4_ := Aside0.mk (hb); clear HO_249005; clear HO_259005; clear BK248; clear BK258; clear HB; have HO_249005 := n0_; have HO_259005 := n1_; have BK248 := n2_; have BK258 := n3_; have HB := n4_; clear n0_ n1_ n2_ n3_ n4_; (try clear hb); (try clear hkp); (try clear hy0); have hcz40_0 : w39.cell? ⟨gb258, 0, none⟩ = some (.string t249) := (blk_cell BK258.out 0).trans rfl; have hcz40_1 : w39.cell? ⟨gb258, 1, none⟩ = some (.int .i64 t250) := (blk_cell BK258.out 1).trans rfl; have hcz40_2 : w39.cell? ⟨gb258, 2, none⟩ = some (.int .i64 t251) := (blk_cell BK258.out 2).trans rfl; have hcz40_3 : w39.cell? ⟨gb258, 3, none⟩ = some (.int .i64 t252) := (blk_cell BK258.out 3).trans rfl; have hcz40_4 : w39.cell? ⟨gb258, 4, none⟩ = some (.int .i64 t253) := (blk_cell BK258.out 4).trans rfl; have hcz40_5 : w39.cell? ⟨gb258, 5, none⟩ = some (.slice Ao14 t254.length co14) := (blk_cell BK258.out 5).trans rfl; have hfz40_0 := blk_frozen BK258.out 0; have hfz40_1 := blk_frozen BK258.out 1; have hfz40_2 := blk_frozen BK258.out 2; have hfz40_3 := blk_frozen BK258.out 3; have hfz40_4 := blk_frozen BK258.out 4; have hfz40_5 := blk_frozen BK258.out 5) | ((with_reducible refine gate_callee (f := 27) rfl ?_); refine goesL_ (some 38) rfl rfl Tryd.func27 (by kernel_rfl) rfl #[.agg #[.string t249, .int .i64 t250, .int .i64 t251, .int .i64 t252, .int .i64 t253, .slice Ao14 t261.length co14], .int .i64 1] rfl (by (try simp only [List.map_toArray, List.map_cons, List.map_nil]); first | done | (rw [show t261.length = t254.length from (Kd.R_reads' HO_259005.out).1.symm] <;> rfl) | rfl | (simp only [List.length_drop, List.length_take]; rfl)) ?_; (with_reducible refine (laws_heldBuilding.calls kj4 t249 t250 t251 t252 t253 _ _ t261 1 t262 _ ?side1 ?side2 A27.out).mono ?_); (case side1 => repeat (first | exact (Kd.R_reads' HO_259005.out).2.2 | (with_reducible refine Kd.C_alloc ?_ _) | (with_reducible refine Kd.C_drewN ?_ _) | (with_reducible refine Kd.C_drew ?_))); (case side2 => rw [show t261.length = t254.length from (Kd.R_reads' HO_259005.out).1.symm]; exact (Kd.R_reads' HO_259005.out).2.1); rintro e w41 ⟨rfl, hb⟩; refine ⟨_, rfl, ?_⟩; have n0_ := Aside0.mk (Kd.R_below (by (with_reducible repeat (first | apply Kd.R_alloc | apply Kd.R_drewN | apply Kd.R_drew)); exact HO_249005.out) hb); have n1_ := Aside0.mk (Kd.R_below (by (with_reducible repeat (first | apply Kd.R_alloc | apply Kd.R_drewN | apply Kd.R_drew)); exact HO_259005.out) hb); have n2_ := Aside0.mk (blk_below (g := gb248) (o := .cells #[.string t239, .int .i64 t240, .int .i64 t241, .int .i64 t242, .int .i64 t243, .slice Ao9 t244.length co9] 51 (0, 0)) (by (with_reducible repeat (first | refine blk_drewN ?_ _ | refine blk_drew ?_ | refine blk_alloc ?_ _)); exact BK248.out) hb); have n3_ := Aside0.mk (blk_below (g := gb258) (o := .cells #[.string t249, .int .i64 t250, .int .i64 t251, .int .i64 t252, .int .i64 t253, .slice Ao14 t254.length co14] 51 (0, 0)) (by (with_reducible repeat (first | refine blk_drewN ?_ _ | refine blk_drew ?_ | refine blk_alloc ?_ _)); exact BK258.out) hb); have n4_ := Aside0.mk (below_step (by repeat (first | (with_reducible first | exact HB.out | apply below_alloc | apply pw_below_drewN | apply below_drew1 | refine below_set ?_ GE248.out | refine below_set ?_ GE258.out) | exact HB.out)) hb); clear HO_249005; clear HO_259005; clear BK248; clear BK258; clear HB; have HO_249005 := n0_; have HO_259005 := n1_; have BK248 := n2_; have BK258 := n3_; have HB := n4_; clear n0_ n1_ n2_ n3_ n4_; (try clear hb); (try clear hb2); (try clear hk); (try clear hi)) | ((with_reducible refine gate_callee (f := 24) rfl ?_); refine goesL_ (some 46) rfl rfl Tryd.func24 (by kernel_rfl) rfl #[.string a0] rfl (by (try simp only [List.map_toArray, List.map_cons, List.map_nil]); first | done | rfl | (simp only [List.length_drop, List.length_take]; rfl)) ?_; (with_reducible refine (impl_ReadBuilding.calls kj4 a0 t263 t264 t265 t266 t267 t268 t271 _ ?side1 A35.out).mono ?_); (case side1 => exact wok_ HWOK_.out (by repeat (first | (with_reducible first | exact HB.out | apply below_alloc | apply pw_below_drewN | apply below_drew1 | refine below_set ?_ GE248.out | refine below_set ?_ GE258.out) | exact HB.out))); rintro e w42 ⟨v269, rfl, ho0, hb⟩; refine ⟨_, rfl, ?_⟩; have n0_ := Aside0.mk (Kd.R_elder' (by (with_reducible repeat (first | apply Kd.R_alloc | apply Kd.R_drewN | apply Kd.R_drew)); exact HO_249005.out) (Kd.R_base ho0) hb); have n1_ := Aside0.mk (Kd.R_elder' (by (with_reducible repeat (first | apply Kd.R_alloc | apply Kd.R_drewN | apply Kd.R_drew)); exact HO_259005.out) (Kd.R_base ho0) hb); have n2_ := Aside0.mk (Kd.R_lower (Kd.R_new' (Kd.R_new' ho0 (Kd.R_lt (by (with_reducible repeat (first | apply Kd.R_alloc | apply Kd.R_drewN | apply Kd.R_drew)); exact HO_249005.out))) (Kd.R_lt (by (with_reducible repeat (first | apply Kd.R_alloc | apply Kd.R_drewN | apply Kd.R_drew)); exact HO_259005.out))) (below_size (by repeat (first | (with_reducible first | exact HB.out | apply below_alloc | apply pw_below_drewN | apply below_drew1 | refine below_set ?_ GE248.out | refine below_set ?_ GE258.out) | exact HB.out)))); have n3_ := Aside0.mk (blk_below (g := gb248) (o := .cells #[.string t239, .int .i64 t240, .int .i64 t241, .int .i64 t242, .int .i64 t243, .slice Ao9 t244.length co9] 51 (0, 0)) (by (with_reducible repeat (first | refine blk_drewN ?_ _ | refine blk_drew ?_ | refine blk_alloc ?_ _)); exact BK248.out) hb); have n4_ := Aside0.mk (blk_below (g := gb258) (o := .cells #[.string t249, .int .i64 t250, .int .i64 t251, .int .i64 t252, .int .i64 t253, .slice Ao14 t254.length co14] 51 (0, 0)) (by (with_reducible repeat (first | refine blk_drewN ?_ _ | refine blk_drew ?_ | refine blk_alloc ?_ _)); exact BK258.out) hb); have n5_ := Aside0.mk (below_step (by repeat (first | (with_reducible first | exact HB.out | apply below_alloc | apply pw_below_drewN | apply below_drew1 | refine below_set ?_ GE248.out | refine below_set ?_ GE258.out) | exact HB.out)) hb); clear HO_249005; clear HO_259005; clear BK248; clear BK258; clear HB; have HO_249005 := n0_; have HO_259005 := n1_; have HO270 := n2_; have BK248 := n3_; have BK258 := n4_; have HB := n5_; clear n0_ n1_ n2_ n3_ n4_ n5_; (try clear hb); (try clear hb2); (try clear hk); (try clear hi); (try clear ho0)) | ((with_reducible refine gate_dst (N := 9) rfl ?_); refine box_event ?hg (N := 9) ?hd (cs := #[.string (⟨#[]⟩ : ByteArray), .int .i64 0, .int .i64 0, .int .i64 0, .int .i64 0, .slice none 0 0]) (t := 51) ?hr ?_; (case hd => rfl); (case hg => rfl); (case hr => first | (go_simp; done) | (go_simp; rfl)); intro gb272 hg w43 hbox hb; have n0_ := Aside0.mk (Kd.R_below (by (with_reducible repeat (first | apply Kd.R_alloc | apply Kd.R_drewN | apply Kd.R_drew)); exact HO_249005.out) hb); have n1_ := Aside0.mk (Kd.R_below (by (with_reducible repeat (first | apply Kd.R_alloc | apply Kd.R_drewN | apply Kd.R_drew)); exact HO_259005.out) hb); have n2_ := Aside0.mk (Kd.R_below (by (with_reducible repeat (first | apply Kd.R_alloc | apply Kd.R_drewN | apply Kd.R_drew)); exact HO270.out) hb); have n3_ := Aside0.mk (blk_below (g := gb248) (o := .cells #[.string t239, .int .i64 t240, .int .i64 t241, .int .i64 t242, .int .i64 t243, .slice Ao9 t244.length co9] 51 (0, 0)) (by (with_reducible repeat (first | refine blk_drewN ?_ _ | refine blk_drew ?_ | refine blk_alloc ?_ _)); exact BK248.out) hb); have n4_ := Aside0.mk (blk_below (g := gb258) (o := .cells #[.string t249, .int .i64 t250, .int .i64 t251, .int .i64 t252, .int .i64 t253, .slice Ao14 t254.length co14] 51 (0, 0)) (by (with_reducible repeat (first | refine blk_drewN ?_ _ | refine blk_drew ?_ | refine blk_alloc ?_ _)); exact BK258.out) hb); have n5_ := Aside0.mk (below_step (by repeat (first | (with_reducible first | exact HB.out | apply below_alloc | apply pw_below_drewN | apply below_drew1 | refine below_set ?_ GE248.out | refine below_set ?_ GE258.out) | exact HB.out)) hb); have n6_ := Aside0.mk (hbox); have n7_ := Aside0.mk ((by rw [hg]; exact (below_size (by repeat (first | (with_reducible first | exact HB.out | apply below_alloc | apply pw_below_drewN | apply below_drew1 | refine below_set ?_ GE248.out | refine below_set ?_ GE258.out) | exact HB.out))) : w.heap.size ≤ gb272)); have n8_ := Aside0.mk ((by rw [hg]; exact (below_size (by repeat (first | (with_reducible first | exact HB.out | apply below_alloc | apply pw_below_drewN | apply below_drew1 | refine below_set ?_ GE248.out | refine below_set ?_ GE258.out) | exact HB.out))) : w.heap.size ≤ gb272)); have n9_ := Aside0.mk ((by rw [hg]; exact Nat.ne_of_lt (blk_lt (g := gb248) (o := .cells #[.string t239, .int .i64 t240, .int .i64 t241, .int .i64 t242, .int .i64 t243, .slice Ao9 t244.length co9] 51 (0, 0)) (by (with_reducible repeat (first | refine blk_drewN ?_ _ | refine blk_drew ?_ | refine blk_alloc ?_ _)); exact BK248.out)) : gb248 ≠ gb272)); have n10_ := Aside0.mk ((by rw [hg]; exact Nat.ne_of_gt (blk_lt (g := gb248) (o := .cells #[.string t239, .int .i64 t240, .int .i64 t241, .int .i64 t242, .int .i64 t243, .slice Ao9 t244.length co9] 51 (0, 0)) (by (with_reducible repeat (first | refine blk_drewN ?_ _ | refine blk_drew ?_ | refine blk_alloc ?_ _)); exact BK248.out)) : gb272 ≠ gb248)); have n11_ := Aside0.mk ((by rw [hg]; exact Nat.ne_of_lt (blk_lt (g := gb258) (o := .cells #[.string t249, .int .i64 t250, .int .i64 t251, .int .i64 t252, .int .i64 t253, .slice Ao14 t254.length co14] 51 (0, 0)) (by (with_reducible repeat (first | refine blk_drewN ?_ _ | refine blk_drew ?_ | refine blk_alloc ?_ _)); exact BK258.out)) : gb258 ≠ gb272)); have n12_ := Aside0.mk ((by rw [hg]; exact Nat.ne_of_gt (blk_lt (g := gb258) (o := .cells #[.string t249, .int .i64 t250, .int .i64 t251, .int .i64 t252, .int .i64 t253, .slice Ao14 t254.length co14] 51 (0, 0)) (by (with_reducible repeat (first | refine blk_drewN ?_ _ | refine blk_drew ?_ | refine blk_alloc ?_ _)); exact BK258.out)) : gb272 ≠ gb258)); clear HO_249005; clear HO_259005; clear HO270; clear BK248; clear BK258; clear HB; have HO_249005 := n0_; have HO_259005 := n1_; have HO270 := n2_; have BK248 := n3_; have BK258 := n4_; have HB := n5_; have BK272 := n6_; have GW272 := n7_; have GE272 := n8_; have NB248_272 := n9_; have NB272_248 := n10_; have NB258_272 := n11_; have NB272_258 := n12_; clear n0_ n1_ n2_ n3_ n4_ n5_ n6_ n7_ n8_ n9_ n10_ n11_ n12_; clear hb hbox hg; have hnb44 := NB272_248.out; have hnc44 := NB248_272.out; have hnb45 := NB272_258.out; have hnc45 := NB258_272.out; have hcz46_0 : w43.cell? ⟨gb272, 0, none⟩ = some (.string (⟨#[]⟩ : ByteArray)) := (blk_cell BK272.out 0).trans rfl; have hcz46_1 : w43.cell? ⟨gb272, 1, none⟩ = some (.int .i64 0) := (blk_cell BK272.out 1).trans rfl; have hcz46_2 : w43.cell? ⟨gb272, 2, none⟩ = some (.int .i64 0) := (blk_cell BK272.out 2).trans rfl; have hcz46_3 : w43.cell? ⟨gb272, 3, none⟩ = some (.int .i64 0) := (blk_cell BK272.out 3).trans rfl; have hcz46_4 : w43.cell? ⟨gb272, 4, none⟩ = some (.int .i64 0) := (blk_cell BK272.out 4).trans rfl; have hcz46_5 : w43.cell? ⟨gb272, 5, none⟩ = some (.slice none 0 0) := (blk_cell BK272.out 5).trans rfl; have hfz46_0 := blk_frozen BK272.out 0; have hfz46_1 := blk_frozen BK272.out 1; have hfz46_2 := blk_frozen BK272.out 2; have hfz46_3 := blk_frozen BK272.out 3; have hfz46_4 := blk_frozen BK272.out 4; have hfz46_5 := blk_frozen BK272.out 5; obtain ⟨Ao47, co47, eo47⟩ := Kd.R_slice HO270.out; subst eo47))
       (try simp only [Act.put, List.setIfInBounds_toArray, List.set_cons_zero, List.set_cons_succ])
       go_cut [57] (fun v57 wc => ∃ (kq : Nat) (x57_35 : Bool), v57 = .bool x57_35 ∧ Aside0 (laws_FnExactReadBuilding.j1 kq t260 x57_35 t249 t250 t251 t252 t253 t261 = some r) ∧ Aside0 (kq ≤ kj4) ∧ Aside0 (Kd.R (Kd.int .i64) 2 wc w.heap.size (fun k_ => some k_ ≠ ((.slice Ao14 t254.length co14) : Value).ownBlock ∧ some k_ ≠ ((.slice Ao47 t268.length co47) : Value).ownBlock) (.slice Ao9 t244.length co9) t244) ∧ Aside0 (Kd.R (Kd.int .i64) 2 wc w.heap.size (fun k_ => some k_ ≠ ((.slice Ao9 t244.length co9) : Value).ownBlock ∧ some k_ ≠ ((.slice Ao47 t268.length co47) : Value).ownBlock) (.slice Ao14 t254.length co14) t261) ∧ Aside0 (Kd.R (Kd.int .i64) 2 wc w.heap.size (fun k_ => some k_ ≠ ((.slice Ao9 t244.length co9) : Value).ownBlock ∧ some k_ ≠ ((.slice Ao14 t254.length co14) : Value).ownBlock) (.slice Ao47 t268.length co47) t268) ∧ Aside0 (wc.heap[gb248]? = some (.cells #[.string t239, .int .i64 t240, .int .i64 t241, .int .i64 t242, .int .i64 t243, (.slice Ao9 t244.length co9)] 51 (0, 0))) ∧ Aside0 (wc.heap[gb258]? = some (.cells #[.string t249, .int .i64 t250, .int .i64 t251, .int .i64 t252, .int .i64 t253, (.slice Ao14 t254.length co14)] 51 (0, 0))) ∧ Aside0 (wc.heap[gb272]? = some (.cells #[.string t263, .int .i64 t264, .int .i64 t265, .int .i64 t266, .int .i64 t267, (.slice Ao47 t268.length co47)] 51 (0, 0))) ∧ Aside0 (Below w.heap.size w wc))
       case first =>
        have H := HC36.out
        clear HC36
        replace H := Option.bind_eq_some_iff.mp H
        obtain ⟨t273, A480, H⟩ := H
        replace H : (if t273 = true then (laws_FnExactReadBuilding.j1 kj4 t260 (t271 != t247) t249 t250 t251 t252 t253 t261) else (laws_FnExactReadBuilding.j1 kj4 t260 true t249 t250 t251 t252 t253 t261)) = some r := H
        have A48 := Aside0.mk A480
        clear A480
        by_cases c49 : t273 = true
        ·
         subst c49
         have H1 : (laws_FnExactReadBuilding.j1 kj4 t260 (t271 != t247) t249 t250 t251 t252 t253 t261) = some r := by rw [if_pos rfl] at H; exact H
         clear H
         have H := H1
         clear H1
         have H' := Aside0.mk H
         clear H
         have hnb50 := NB272_248.out
         have hnc50 := NB248_272.out
         have hnb51 := NB272_258.out
         have hnc51 := NB258_272.out
         have hcz52_0 : w43.cell? ⟨gb272, 0, none⟩ = some (.string (⟨#[]⟩ : ByteArray)) := (blk_cell BK272.out 0).trans rfl
         have hcz52_1 : w43.cell? ⟨gb272, 1, none⟩ = some (.int .i64 0) := (blk_cell BK272.out 1).trans rfl
         have hcz52_2 : w43.cell? ⟨gb272, 2, none⟩ = some (.int .i64 0) := (blk_cell BK272.out 2).trans rfl
         have hcz52_3 : w43.cell? ⟨gb272, 3, none⟩ = some (.int .i64 0) := (blk_cell BK272.out 3).trans rfl
         have hcz52_4 : w43.cell? ⟨gb272, 4, none⟩ = some (.int .i64 0) := (blk_cell BK272.out 4).trans rfl
         have hcz52_5 : w43.cell? ⟨gb272, 5, none⟩ = some (.slice none 0 0) := (blk_cell BK272.out 5).trans rfl
         have hfz52_0 := blk_frozen BK272.out 0
         have hfz52_1 := blk_frozen BK272.out 1
         have hfz52_2 := blk_frozen BK272.out 2
         have hfz52_3 := blk_frozen BK272.out 3
         have hfz52_4 := blk_frozen BK272.out 4
         have hfz52_5 := blk_frozen BK272.out 5
         have hnb53 := NB248_258.out
         have hnc53 := NB258_248.out
         have hcz54_0 : w43.cell? ⟨gb248, 0, none⟩ = some (.string t239) := (blk_cell BK248.out 0).trans rfl
         have hcz54_1 : w43.cell? ⟨gb248, 1, none⟩ = some (.int .i64 t240) := (blk_cell BK248.out 1).trans rfl
         have hcz54_2 : w43.cell? ⟨gb248, 2, none⟩ = some (.int .i64 t241) := (blk_cell BK248.out 2).trans rfl
         have hcz54_3 : w43.cell? ⟨gb248, 3, none⟩ = some (.int .i64 t242) := (blk_cell BK248.out 3).trans rfl
         have hcz54_4 : w43.cell? ⟨gb248, 4, none⟩ = some (.int .i64 t243) := (blk_cell BK248.out 4).trans rfl
         have hcz54_5 : w43.cell? ⟨gb248, 5, none⟩ = some (.slice Ao9 t244.length co9) := (blk_cell BK248.out 5).trans rfl
         have hfz54_0 := blk_frozen BK248.out 0
         have hfz54_1 := blk_frozen BK248.out 1
         have hfz54_2 := blk_frozen BK248.out 2
         have hfz54_3 := blk_frozen BK248.out 3
         have hfz54_4 := blk_frozen BK248.out 4
         have hfz54_5 := blk_frozen BK248.out 5
         go_wp2_with (first | ((with_reducible refine gate_callee (f := 25) rfl ?_); refine goesL_ (some 51) rfl rfl Tryd.func25 (by kernel_rfl) rfl #[.agg #[.string t263, .int .i64 t264, .int .i64 t265, .int .i64 t266, .int .i64 t267, .slice Ao47 t268.length co47], .agg #[.string t239, .int .i64 t240, .int .i64 t241, .int .i64 t242, .int .i64 t243, .slice Ao9 t244.length co9]] rfl (by (try simp only [List.map_toArray, List.map_cons, List.map_nil]); first | done | rfl | (simp only [List.length_drop, List.length_take]; rfl)) ?_; (with_reducible refine (laws_eqBuilding.calls kj4 t263 t264 t265 t266 t267 _ _ t268 t239 t240 t241 t242 t243 _ _ t244 true _ ?side1 ?side2 ?side3 ?side4 A48.out).mono ?_); (case side1 => refine (Kd.R_reads' (e := 2) (base := w.heap.size) (ok := fun k_ => ((True ∧ some k_ ≠ (.slice Ao9 t244.length co9 : Value).ownBlock) ∧ some k_ ≠ (.slice Ao14 t254.length co14 : Value).ownBlock)) (n := t268.length) (c := co47) ?_).2.2; exact (by (with_reducible repeat (first | apply Kd.R_alloc | apply Kd.R_drewN | apply Kd.R_drew)); exact (Kd.R_mono (Kd.R_far (p := ⟨gb272, 5, none⟩) (Kd.R_far (p := ⟨gb272, 4, none⟩) (Kd.R_far (p := ⟨gb272, 3, none⟩) (Kd.R_far (p := ⟨gb272, 2, none⟩) (Kd.R_far (p := ⟨gb272, 1, none⟩) (Kd.R_far (p := ⟨gb272, 0, none⟩) (Kd.R_types HO270.out BK272.out (by decide)) (fun _ hk => hk.2) (.string t263)) (fun _ hk => hk.2) (.int .i64 t264)) (fun _ hk => hk.2) (.int .i64 t265)) (fun _ hk => hk.2) (.int .i64 t266)) (fun _ hk => hk.2) (.int .i64 t267)) (fun _ hk => hk.2) (.slice Ao47 t268.length co47)) (fun _ h_ => h_.1)))); (case side2 => exact (Kd.R_reads' HO270.out).2.1); (case side3 => refine (Kd.R_reads' (e := 2) (base := w.heap.size) (ok := fun k_ => (some k_ ≠ (.slice Ao14 t254.length co14 : Value).ownBlock ∧ some k_ ≠ (.slice Ao47 t268.length co47 : Value).ownBlock)) (n := t244.length) (c := co9) ?_).2.2; exact (by (with_reducible repeat (first | apply Kd.R_alloc | apply Kd.R_drewN | apply Kd.R_drew)); exact (Kd.R_mono (Kd.R_far (p := ⟨gb272, 5, none⟩) (Kd.R_far (p := ⟨gb272, 4, none⟩) (Kd.R_far (p := ⟨gb272, 3, none⟩) (Kd.R_far (p := ⟨gb272, 2, none⟩) (Kd.R_far (p := ⟨gb272, 1, none⟩) (Kd.R_far (p := ⟨gb272, 0, none⟩) (Kd.R_types HO_249005.out BK272.out (by decide)) (fun _ hk => hk.2) (.string t263)) (fun _ hk => hk.2) (.int .i64 t264)) (fun _ hk => hk.2) (.int .i64 t265)) (fun _ hk => hk.2) (.int .i64 t266)) (fun _ hk => hk.2) (.int .i64 t267)) (fun _ hk => hk.2) (.slice Ao47 t268.length co47)) (fun _ h_ => h_.1)))); (case side4 => exact (Kd.R_reads' HO_249005.out).2.1); rintro e w55 ⟨rfl, hb⟩; refine ⟨_, rfl, ?_⟩; have n0_ := Aside0.mk (Kd.R_below (by (with_reducible repeat (first | apply Kd.R_alloc | apply Kd.R_drewN | apply Kd.R_drew)); exact (Kd.R_mono (Kd.R_far (p := ⟨gb272, 5, none⟩) (Kd.R_far (p := ⟨gb272, 4, none⟩) (Kd.R_far (p := ⟨gb272, 3, none⟩) (Kd.R_far (p := ⟨gb272, 2, none⟩) (Kd.R_far (p := ⟨gb272, 1, none⟩) (Kd.R_far (p := ⟨gb272, 0, none⟩) (Kd.R_types HO_249005.out BK272.out (by decide)) (fun _ hk => hk.2) (.string t263)) (fun _ hk => hk.2) (.int .i64 t264)) (fun _ hk => hk.2) (.int .i64 t265)) (fun _ hk => hk.2) (.int .i64 t266)) (fun _ hk => hk.2) (.int .i64 t267)) (fun _ hk => hk.2) (.slice Ao47 t268.length co47)) (fun _ h_ => h_.1))) hb); have n1_ := Aside0.mk (Kd.R_below (by (with_reducible repeat (first | apply Kd.R_alloc | apply Kd.R_drewN | apply Kd.R_drew)); exact (Kd.R_mono (Kd.R_far (p := ⟨gb272, 5, none⟩) (Kd.R_far (p := ⟨gb272, 4, none⟩) (Kd.R_far (p := ⟨gb272, 3, none⟩) (Kd.R_far (p := ⟨gb272, 2, none⟩) (Kd.R_far (p := ⟨gb272, 1, none⟩) (Kd.R_far (p := ⟨gb272, 0, none⟩) (Kd.R_types HO_259005.out BK272.out (by decide)) (fun _ hk => hk.2) (.string t263)) (fun _ hk => hk.2) (.int .i64 t264)) (fun _ hk => hk.2) (.int .i64 t265)) (fun _ hk => hk.2) (.int .i64 t266)) (fun _ hk => hk.2) (.int .i64 t267)) (fun _ hk => hk.2) (.slice Ao47 t268.length co47)) (fun _ h_ => h_.1))) hb); have n2_ := Aside0.mk (Kd.R_below (by (with_reducible repeat (first | apply Kd.R_alloc | apply Kd.R_drewN | apply Kd.R_drew)); exact (Kd.R_mono (Kd.R_far (p := ⟨gb272, 5, none⟩) (Kd.R_far (p := ⟨gb272, 4, none⟩) (Kd.R_far (p := ⟨gb272, 3, none⟩) (Kd.R_far (p := ⟨gb272, 2, none⟩) (Kd.R_far (p := ⟨gb272, 1, none⟩) (Kd.R_far (p := ⟨gb272, 0, none⟩) (Kd.R_types HO270.out BK272.out (by decide)) (fun _ hk => hk.2) (.string t263)) (fun _ hk => hk.2) (.int .i64 t264)) (fun _ hk => hk.2) (.int .i64 t265)) (fun _ hk => hk.2) (.int .i64 t266)) (fun _ hk => hk.2) (.int .i64 t267)) (fun _ hk => hk.2) (.slice Ao47 t268.length co47)) (fun _ h_ => h_.1))) hb); have n3_ := Aside0.mk (blk_below (g := gb248) (o := .cells #[.string t239, .int .i64 t240, .int .i64 t241, .int .i64 t242, .int .i64 t243, .slice Ao9 t244.length co9] 51 (0, 0)) (by (with_reducible repeat (first | refine blk_drewN ?_ _ | refine blk_drew ?_ | refine blk_alloc ?_ _)); refine blk_far ?_ NB248_272.out _; (with_reducible repeat (first | refine blk_drewN ?_ _ | refine blk_drew ?_ | refine blk_alloc ?_ _)); refine blk_far ?_ NB248_272.out _; (with_reducible repeat (first | refine blk_drewN ?_ _ | refine blk_drew ?_ | refine blk_alloc ?_ _)); refine blk_far ?_ NB248_272.out _; (with_reducible repeat (first | refine blk_drewN ?_ _ | refine blk_drew ?_ | refine blk_alloc ?_ _)); refine blk_far ?_ NB248_272.out _; (with_reducible repeat (first | refine blk_drewN ?_ _ | refine blk_drew ?_ | refine blk_alloc ?_ _)); refine blk_far ?_ NB248_272.out _; (with_reducible repeat (first | refine blk_drewN ?_ _ | refine blk_drew ?_ | refine blk_alloc ?_ _)); refine blk_far ?_ NB248_272.out _; (with_reducible repeat (first | refine blk_drewN ?_ _ | refine blk_drew ?_ | refine blk_alloc ?_ _)); exact BK248.out) hb); have n4_ := Aside0.mk (blk_below (g := gb258) (o := .cells #[.string t249, .int .i64 t250, .int .i64 t251, .int .i64 t252, .int .i64 t253, .slice Ao14 t254.length co14] 51 (0, 0)) (by (with_reducible repeat (first | refine blk_drewN ?_ _ | refine blk_drew ?_ | refine blk_alloc ?_ _)); refine blk_far ?_ NB258_272.out _; (with_reducible repeat (first | refine blk_drewN ?_ _ | refine blk_drew ?_ | refine blk_alloc ?_ _)); refine blk_far ?_ NB258_272.out _; (with_reducible repeat (first | refine blk_drewN ?_ _ | refine blk_drew ?_ | refine blk_alloc ?_ _)); refine blk_far ?_ NB258_272.out _; (with_reducible repeat (first | refine blk_drewN ?_ _ | refine blk_drew ?_ | refine blk_alloc ?_ _)); refine blk_far ?_ NB258_272.out _; (with_reducible repeat (first | refine blk_drewN ?_ _ | refine blk_drew ?_ | refine blk_alloc ?_ _)); refine blk_far ?_ NB258_272.out _; (with_reducible repeat (first | refine blk_drewN ?_ _ | refine blk_drew ?_ | refine blk_alloc ?_ _)); refine blk_far ?_ NB258_272.out _; (with_reducible repeat (first | refine blk_drewN ?_ _ | refine blk_drew ?_ | refine blk_alloc ?_ _)); exact BK258.out) hb); have n5_ := Aside0.mk (blk_below (g := gb272) (o := .cells #[.string t263, .int .i64 t264, .int .i64 t265, .int .i64 t266, .int .i64 t267, .slice Ao47 t268.length co47] 51 (0, 0)) (by (with_reducible repeat (first | refine blk_drewN ?_ _ | refine blk_drew ?_ | refine blk_alloc ?_ _)); refine blk_put (cs := #[.string t263, .int .i64 t264, .int .i64 t265, .int .i64 t266, .int .i64 t267, .slice none 0 0]) ?_ 5 _ rfl; (with_reducible repeat (first | refine blk_drewN ?_ _ | refine blk_drew ?_ | refine blk_alloc ?_ _)); refine blk_put (cs := #[.string t263, .int .i64 t264, .int .i64 t265, .int .i64 t266, .int .i64 0, .slice none 0 0]) ?_ 4 _ rfl; (with_reducible repeat (first | refine blk_drewN ?_ _ | refine blk_drew ?_ | refine blk_alloc ?_ _)); refine blk_put (cs := #[.string t263, .int .i64 t264, .int .i64 t265, .int .i64 0, .int .i64 0, .slice none 0 0]) ?_ 3 _ rfl; (with_reducible repeat (first | refine blk_drewN ?_ _ | refine blk_drew ?_ | refine blk_alloc ?_ _)); refine blk_put (cs := #[.string t263, .int .i64 t264, .int .i64 0, .int .i64 0, .int .i64 0, .slice none 0 0]) ?_ 2 _ rfl; (with_reducible repeat (first | refine blk_drewN ?_ _ | refine blk_drew ?_ | refine blk_alloc ?_ _)); refine blk_put (cs := #[.string t263, .int .i64 0, .int .i64 0, .int .i64 0, .int .i64 0, .slice none 0 0]) ?_ 1 _ rfl; (with_reducible repeat (first | refine blk_drewN ?_ _ | refine blk_drew ?_ | refine blk_alloc ?_ _)); refine blk_put (cs := #[.string (⟨#[]⟩ : ByteArray), .int .i64 0, .int .i64 0, .int .i64 0, .int .i64 0, .slice none 0 0]) ?_ 0 _ rfl; (with_reducible repeat (first | refine blk_drewN ?_ _ | refine blk_drew ?_ | refine blk_alloc ?_ _)); exact BK272.out) hb); have n6_ := Aside0.mk (below_step (by repeat (first | (with_reducible first | exact HB.out | apply below_alloc | apply pw_below_drewN | apply below_drew1 | refine below_set ?_ GE248.out | refine below_set ?_ GE258.out | refine below_set ?_ GE272.out) | exact HB.out)) hb); clear HO_249005; clear HO_259005; clear HO270; clear BK248; clear BK258; clear BK272; clear HB; have HO_249005 := n0_; have HO_259005 := n1_; have HO270 := n2_; have BK248 := n3_; have BK258 := n4_; have BK272 := n5_; have HB := n6_; clear n0_ n1_ n2_ n3_ n4_ n5_ n6_; (try clear hb); (try clear hb2); (try clear hk); (try clear hi)))
         go_meet
         case rel => exact ⟨_, ((t271 != t247)), (by first | rfl | (simp; done) | (simp [*]; done)), H', ⟨by have := HJ4.out; first | omega | exact Nat.le_refl _⟩, ⟨by (with_reducible repeat (first | apply Kd.R_alloc | apply Kd.R_drewN | apply Kd.R_drew)); exact HO_249005.out⟩, ⟨by (with_reducible repeat (first | apply Kd.R_alloc | apply Kd.R_drewN | apply Kd.R_drew)); exact HO_259005.out⟩, ⟨by (with_reducible repeat (first | apply Kd.R_alloc | apply Kd.R_drewN | apply Kd.R_drew)); exact Kd.R_mono HO270.out (fun _ hk => ⟨hk.1.2, hk.2⟩)⟩, ⟨by (with_reducible repeat (first | refine blk_drewN ?_ _ | refine blk_drew ?_ | refine blk_alloc ?_ _)); exact BK248.out⟩, ⟨by (with_reducible repeat (first | refine blk_drewN ?_ _ | refine blk_drew ?_ | refine blk_alloc ?_ _)); exact BK258.out⟩, ⟨by (with_reducible repeat (first | refine blk_drewN ?_ _ | refine blk_drew ?_ | refine blk_alloc ?_ _)); exact BK272.out⟩, ⟨by repeat (first | (with_reducible first | exact HB.out | apply below_alloc | apply pw_below_drewN | apply below_drew1 | refine below_set ?_ GE248.out | refine below_set ?_ GE258.out | refine below_set ?_ GE272.out) | exact HB.out)⟩⟩
        ·
         replace c49 := Bool.eq_false_iff.mpr c49
         subst c49
         have H1 : (laws_FnExactReadBuilding.j1 kj4 t260 true t249 t250 t251 t252 t253 t261) = some r := by rw [if_neg (show ¬ (false = true) by decide)] at H; exact H
         clear H
         have H := H1
         clear H1
         have H' := Aside0.mk H
         clear H
         have hnb56 := NB272_248.out
         have hnc56 := NB248_272.out
         have hnb57 := NB272_258.out
         have hnc57 := NB258_272.out
         have hcz58_0 : w43.cell? ⟨gb272, 0, none⟩ = some (.string (⟨#[]⟩ : ByteArray)) := (blk_cell BK272.out 0).trans rfl
         have hcz58_1 : w43.cell? ⟨gb272, 1, none⟩ = some (.int .i64 0) := (blk_cell BK272.out 1).trans rfl
         have hcz58_2 : w43.cell? ⟨gb272, 2, none⟩ = some (.int .i64 0) := (blk_cell BK272.out 2).trans rfl
         have hcz58_3 : w43.cell? ⟨gb272, 3, none⟩ = some (.int .i64 0) := (blk_cell BK272.out 3).trans rfl
         have hcz58_4 : w43.cell? ⟨gb272, 4, none⟩ = some (.int .i64 0) := (blk_cell BK272.out 4).trans rfl
         have hcz58_5 : w43.cell? ⟨gb272, 5, none⟩ = some (.slice none 0 0) := (blk_cell BK272.out 5).trans rfl
         have hfz58_0 := blk_frozen BK272.out 0
         have hfz58_1 := blk_frozen BK272.out 1
         have hfz58_2 := blk_frozen BK272.out 2
         have hfz58_3 := blk_frozen BK272.out 3
         have hfz58_4 := blk_frozen BK272.out 4
         have hfz58_5 := blk_frozen BK272.out 5
         have hnb59 := NB248_258.out
         have hnc59 := NB258_248.out
         have hcz60_0 : w43.cell? ⟨gb248, 0, none⟩ = some (.string t239) := (blk_cell BK248.out 0).trans rfl
         have hcz60_1 : w43.cell? ⟨gb248, 1, none⟩ = some (.int .i64 t240) := (blk_cell BK248.out 1).trans rfl
         have hcz60_2 : w43.cell? ⟨gb248, 2, none⟩ = some (.int .i64 t241) := (blk_cell BK248.out 2).trans rfl
         have hcz60_3 : w43.cell? ⟨gb248, 3, none⟩ = some (.int .i64 t242) := (blk_cell BK248.out 3).trans rfl
         have hcz60_4 : w43.cell? ⟨gb248, 4, none⟩ = some (.int .i64 t243) := (blk_cell BK248.out 4).trans rfl
         have hcz60_5 : w43.cell? ⟨gb248, 5, none⟩ = some (.slice Ao9 t244.length co9) := (blk_cell BK248.out 5).trans rfl
         have hfz60_0 := blk_frozen BK248.out 0
         have hfz60_1 := blk_frozen BK248.out 1
         have hfz60_2 := blk_frozen BK248.out 2
         have hfz60_3 := blk_frozen BK248.out 3
         have hfz60_4 := blk_frozen BK248.out 4
         have hfz60_5 := blk_frozen BK248.out 5
         go_wp2_with (first | ((with_reducible refine gate_callee (f := 25) rfl ?_); refine goesL_ (some 51) rfl rfl Tryd.func25 (by kernel_rfl) rfl #[.agg #[.string t263, .int .i64 t264, .int .i64 t265, .int .i64 t266, .int .i64 t267, .slice Ao47 t268.length co47], .agg #[.string t239, .int .i64 t240, .int .i64 t241, .int .i64 t242, .int .i64 t243, .slice Ao9 t244.length co9]] rfl (by (try simp only [List.map_toArray, List.map_cons, List.map_nil]); first | done | rfl | (simp only [List.length_drop, List.length_take]; rfl)) ?_; (with_reducible refine (laws_eqBuilding.calls kj4 t263 t264 t265 t266 t267 _ _ t268 t239 t240 t241 t242 t243 _ _ t244 false _ ?side1 ?side2 ?side3 ?side4 A48.out).mono ?_); (case side1 => refine (Kd.R_reads' (e := 2) (base := w.heap.size) (ok := fun k_ => ((True ∧ some k_ ≠ (.slice Ao9 t244.length co9 : Value).ownBlock) ∧ some k_ ≠ (.slice Ao14 t254.length co14 : Value).ownBlock)) (n := t268.length) (c := co47) ?_).2.2; exact (by (with_reducible repeat (first | apply Kd.R_alloc | apply Kd.R_drewN | apply Kd.R_drew)); exact (Kd.R_mono (Kd.R_far (p := ⟨gb272, 5, none⟩) (Kd.R_far (p := ⟨gb272, 4, none⟩) (Kd.R_far (p := ⟨gb272, 3, none⟩) (Kd.R_far (p := ⟨gb272, 2, none⟩) (Kd.R_far (p := ⟨gb272, 1, none⟩) (Kd.R_far (p := ⟨gb272, 0, none⟩) (Kd.R_types HO270.out BK272.out (by decide)) (fun _ hk => hk.2) (.string t263)) (fun _ hk => hk.2) (.int .i64 t264)) (fun _ hk => hk.2) (.int .i64 t265)) (fun _ hk => hk.2) (.int .i64 t266)) (fun _ hk => hk.2) (.int .i64 t267)) (fun _ hk => hk.2) (.slice Ao47 t268.length co47)) (fun _ h_ => h_.1)))); (case side2 => exact (Kd.R_reads' HO270.out).2.1); (case side3 => refine (Kd.R_reads' (e := 2) (base := w.heap.size) (ok := fun k_ => (some k_ ≠ (.slice Ao14 t254.length co14 : Value).ownBlock ∧ some k_ ≠ (.slice Ao47 t268.length co47 : Value).ownBlock)) (n := t244.length) (c := co9) ?_).2.2; exact (by (with_reducible repeat (first | apply Kd.R_alloc | apply Kd.R_drewN | apply Kd.R_drew)); exact (Kd.R_mono (Kd.R_far (p := ⟨gb272, 5, none⟩) (Kd.R_far (p := ⟨gb272, 4, none⟩) (Kd.R_far (p := ⟨gb272, 3, none⟩) (Kd.R_far (p := ⟨gb272, 2, none⟩) (Kd.R_far (p := ⟨gb272, 1, none⟩) (Kd.R_far (p := ⟨gb272, 0, none⟩) (Kd.R_types HO_249005.out BK272.out (by decide)) (fun _ hk => hk.2) (.string t263)) (fun _ hk => hk.2) (.int .i64 t264)) (fun _ hk => hk.2) (.int .i64 t265)) (fun _ hk => hk.2) (.int .i64 t266)) (fun _ hk => hk.2) (.int .i64 t267)) (fun _ hk => hk.2) (.slice Ao47 t268.length co47)) (fun _ h_ => h_.1)))); (case side4 => exact (Kd.R_reads' HO_249005.out).2.1); rintro e w61 ⟨rfl, hb⟩; refine ⟨_, rfl, ?_⟩; have n0_ := Aside0.mk (Kd.R_below (by (with_reducible repeat (first | apply Kd.R_alloc | apply Kd.R_drewN | apply Kd.R_drew)); exact (Kd.R_mono (Kd.R_far (p := ⟨gb272, 5, none⟩) (Kd.R_far (p := ⟨gb272, 4, none⟩) (Kd.R_far (p := ⟨gb272, 3, none⟩) (Kd.R_far (p := ⟨gb272, 2, none⟩) (Kd.R_far (p := ⟨gb272, 1, none⟩) (Kd.R_far (p := ⟨gb272, 0, none⟩) (Kd.R_types HO_249005.out BK272.out (by decide)) (fun _ hk => hk.2) (.string t263)) (fun _ hk => hk.2) (.int .i64 t264)) (fun _ hk => hk.2) (.int .i64 t265)) (fun _ hk => hk.2) (.int .i64 t266)) (fun _ hk => hk.2) (.int .i64 t267)) (fun _ hk => hk.2) (.slice Ao47 t268.length co47)) (fun _ h_ => h_.1))) hb); have n1_ := Aside0.mk (Kd.R_below (by (with_reducible repeat (first | apply Kd.R_alloc | apply Kd.R_drewN | apply Kd.R_drew)); exact (Kd.R_mono (Kd.R_far (p := ⟨gb272, 5, none⟩) (Kd.R_far (p := ⟨gb272, 4, none⟩) (Kd.R_far (p := ⟨gb272, 3, none⟩) (Kd.R_far (p := ⟨gb272, 2, none⟩) (Kd.R_far (p := ⟨gb272, 1, none⟩) (Kd.R_far (p := ⟨gb272, 0, none⟩) (Kd.R_types HO_259005.out BK272.out (by decide)) (fun _ hk => hk.2) (.string t263)) (fun _ hk => hk.2) (.int .i64 t264)) (fun _ hk => hk.2) (.int .i64 t265)) (fun _ hk => hk.2) (.int .i64 t266)) (fun _ hk => hk.2) (.int .i64 t267)) (fun _ hk => hk.2) (.slice Ao47 t268.length co47)) (fun _ h_ => h_.1))) hb); have n2_ := Aside0.mk (Kd.R_below (by (with_reducible repeat (first | apply Kd.R_alloc | apply Kd.R_drewN | apply Kd.R_drew)); exact (Kd.R_mono (Kd.R_far (p := ⟨gb272, 5, none⟩) (Kd.R_far (p := ⟨gb272, 4, none⟩) (Kd.R_far (p := ⟨gb272, 3, none⟩) (Kd.R_far (p := ⟨gb272, 2, none⟩) (Kd.R_far (p := ⟨gb272, 1, none⟩) (Kd.R_far (p := ⟨gb272, 0, none⟩) (Kd.R_types HO270.out BK272.out (by decide)) (fun _ hk => hk.2) (.string t263)) (fun _ hk => hk.2) (.int .i64 t264)) (fun _ hk => hk.2) (.int .i64 t265)) (fun _ hk => hk.2) (.int .i64 t266)) (fun _ hk => hk.2) (.int .i64 t267)) (fun _ hk => hk.2) (.slice Ao47 t268.length co47)) (fun _ h_ => h_.1))) hb); have n3_ := Aside0.mk (blk_below (g := gb248) (o := .cells #[.string t239, .int .i64 t240, .int .i64 t241, .int .i64 t242, .int .i64 t243, .slice Ao9 t244.length co9] 51 (0, 0)) (by (with_reducible repeat (first | refine blk_drewN ?_ _ | refine blk_drew ?_ | refine blk_alloc ?_ _)); refine blk_far ?_ NB248_272.out _; (with_reducible repeat (first | refine blk_drewN ?_ _ | refine blk_drew ?_ | refine blk_alloc ?_ _)); refine blk_far ?_ NB248_272.out _; (with_reducible repeat (first | refine blk_drewN ?_ _ | refine blk_drew ?_ | refine blk_alloc ?_ _)); refine blk_far ?_ NB248_272.out _; (with_reducible repeat (first | refine blk_drewN ?_ _ | refine blk_drew ?_ | refine blk_alloc ?_ _)); refine blk_far ?_ NB248_272.out _; (with_reducible repeat (first | refine blk_drewN ?_ _ | refine blk_drew ?_ | refine blk_alloc ?_ _)); refine blk_far ?_ NB248_272.out _; (with_reducible repeat (first | refine blk_drewN ?_ _ | refine blk_drew ?_ | refine blk_alloc ?_ _)); refine blk_far ?_ NB248_272.out _; (with_reducible repeat (first | refine blk_drewN ?_ _ | refine blk_drew ?_ | refine blk_alloc ?_ _)); exact BK248.out) hb); have n4_ := Aside0.mk (blk_below (g := gb258) (o := .cells #[.string t249, .int .i64 t250, .int .i64 t251, .int .i64 t252, .int .i64 t253, .slice Ao14 t254.length co14] 51 (0, 0)) (by (with_reducible repeat (first | refine blk_drewN ?_ _ | refine blk_drew ?_ | refine blk_alloc ?_ _)); refine blk_far ?_ NB258_272.out _; (with_reducible repeat (first | refine blk_drewN ?_ _ | refine blk_drew ?_ | refine blk_alloc ?_ _)); refine blk_far ?_ NB258_272.out _; (with_reducible repeat (first | refine blk_drewN ?_ _ | refine blk_drew ?_ | refine blk_alloc ?_ _)); refine blk_far ?_ NB258_272.out _; (with_reducible repeat (first | refine blk_drewN ?_ _ | refine blk_drew ?_ | refine blk_alloc ?_ _)); refine blk_far ?_ NB258_272.out _; (with_reducible repeat (first | refine blk_drewN ?_ _ | refine blk_drew ?_ | refine blk_alloc ?_ _)); refine blk_far ?_ NB258_272.out _; (with_reducible repeat (first | refine blk_drewN ?_ _ | refine blk_drew ?_ | refine blk_alloc ?_ _)); refine blk_far ?_ NB258_272.out _; (with_reducible repeat (first | refine blk_drewN ?_ _ | refine blk_drew ?_ | refine blk_alloc ?_ _)); exact BK258.out) hb); have n5_ := Aside0.mk (blk_below (g := gb272) (o := .cells #[.string t263, .int .i64 t264, .int .i64 t265, .int .i64 t266, .int .i64 t267, .slice Ao47 t268.length co47] 51 (0, 0)) (by (with_reducible repeat (first | refine blk_drewN ?_ _ | refine blk_drew ?_ | refine blk_alloc ?_ _)); refine blk_put (cs := #[.string t263, .int .i64 t264, .int .i64 t265, .int .i64 t266, .int .i64 t267, .slice none 0 0]) ?_ 5 _ rfl; (with_reducible repeat (first | refine blk_drewN ?_ _ | refine blk_drew ?_ | refine blk_alloc ?_ _)); refine blk_put (cs := #[.string t263, .int .i64 t264, .int .i64 t265, .int .i64 t266, .int .i64 0, .slice none 0 0]) ?_ 4 _ rfl; (with_reducible repeat (first | refine blk_drewN ?_ _ | refine blk_drew ?_ | refine blk_alloc ?_ _)); refine blk_put (cs := #[.string t263, .int .i64 t264, .int .i64 t265, .int .i64 0, .int .i64 0, .slice none 0 0]) ?_ 3 _ rfl; (with_reducible repeat (first | refine blk_drewN ?_ _ | refine blk_drew ?_ | refine blk_alloc ?_ _)); refine blk_put (cs := #[.string t263, .int .i64 t264, .int .i64 0, .int .i64 0, .int .i64 0, .slice none 0 0]) ?_ 2 _ rfl; (with_reducible repeat (first | refine blk_drewN ?_ _ | refine blk_drew ?_ | refine blk_alloc ?_ _)); refine blk_put (cs := #[.string t263, .int .i64 0, .int .i64 0, .int .i64 0, .int .i64 0, .slice none 0 0]) ?_ 1 _ rfl; (with_reducible repeat (first | refine blk_drewN ?_ _ | refine blk_drew ?_ | refine blk_alloc ?_ _)); refine blk_put (cs := #[.string (⟨#[]⟩ : ByteArray), .int .i64 0, .int .i64 0, .int .i64 0, .int .i64 0, .slice none 0 0]) ?_ 0 _ rfl; (with_reducible repeat (first | refine blk_drewN ?_ _ | refine blk_drew ?_ | refine blk_alloc ?_ _)); exact BK272.out) hb); have n6_ := Aside0.mk (below_step (by repeat (first | (with_reducible first | exact HB.out | apply below_alloc | apply pw_below_drewN | apply below_drew1 | refine below_set ?_ GE248.out | refine below_set ?_ GE258.out | refine below_set ?_ GE272.out) | exact HB.out)) hb); clear HO_249005; clear HO_259005; clear HO270; clear BK248; clear BK258; clear BK272; clear HB; have HO_249005 := n0_; have HO_259005 := n1_; have HO270 := n2_; have BK248 := n3_; have BK258 := n4_; have BK272 := n5_; have HB := n6_; clear n0_ n1_ n2_ n3_ n4_ n5_ n6_; (try clear hb); (try clear hb2); (try clear hk); (try clear hi)))
         go_meet
         case rel => exact ⟨_, (true), (by first | rfl | (simp; done) | (simp [*]; done)), H', ⟨by have := HJ4.out; first | omega | exact Nat.le_refl _⟩, ⟨by (with_reducible repeat (first | apply Kd.R_alloc | apply Kd.R_drewN | apply Kd.R_drew)); exact HO_249005.out⟩, ⟨by (with_reducible repeat (first | apply Kd.R_alloc | apply Kd.R_drewN | apply Kd.R_drew)); exact HO_259005.out⟩, ⟨by (with_reducible repeat (first | apply Kd.R_alloc | apply Kd.R_drewN | apply Kd.R_drew)); exact Kd.R_mono HO270.out (fun _ hk => ⟨hk.1.2, hk.2⟩)⟩, ⟨by (with_reducible repeat (first | refine blk_drewN ?_ _ | refine blk_drew ?_ | refine blk_alloc ?_ _)); exact BK248.out⟩, ⟨by (with_reducible repeat (first | refine blk_drewN ?_ _ | refine blk_drew ?_ | refine blk_alloc ?_ _)); exact BK258.out⟩, ⟨by (with_reducible repeat (first | refine blk_drewN ?_ _ | refine blk_drew ?_ | refine blk_alloc ?_ _)); exact BK272.out⟩, ⟨by repeat (first | (with_reducible first | exact HB.out | apply below_alloc | apply pw_below_drewN | apply below_drew1 | refine below_set ?_ GE248.out | refine below_set ?_ GE258.out | refine below_set ?_ GE272.out) | exact HB.out)⟩⟩
       case rest =>
        clear HC36
        try clear c1
        try clear c2
        try clear c2b0
        try clear c2b1
        try clear p2
        try clear c3
        try clear c4
        try clear c5
        try clear c12
        try clear c16
        try clear c17
        try clear c21
        try clear c23
        try clear c24
        try clear c25
        try clear c26
        try clear c27
        try clear c28
        try clear c28b0
        try clear c29
        try clear c34
        try clear c34b0
        try clear c34b1
        try clear c37
        try clear c44
        try clear c45
        try clear c49
        try clear c50
        try clear c51
        try clear c53
        try clear c56
        try clear c57
        try clear c59
        try clear hcz13_0
        try clear hcz13_1
        try clear hcz13_2
        try clear hcz13_3
        try clear hcz13_4
        try clear hcz13_5
        try clear hcz18_0
        try clear hcz18_1
        try clear hcz18_2
        try clear hcz18_3
        try clear hcz18_4
        try clear hcz18_5
        try clear hcz19_0
        try clear hcz19_1
        try clear hcz19_2
        try clear hcz19_3
        try clear hcz19_4
        try clear hcz19_5
        try clear hcz22_0
        try clear hcz22_1
        try clear hcz22_2
        try clear hcz22_3
        try clear hcz22_4
        try clear hcz22_5
        try clear hcz23_0
        try clear hcz23_1
        try clear hcz23_2
        try clear hcz23_3
        try clear hcz23_4
        try clear hcz23_5
        try clear hcz30_0
        try clear hcz30_1
        try clear hcz30_2
        try clear hcz30_3
        try clear hcz30_4
        try clear hcz30_5
        try clear hcz32_0
        try clear hcz32_1
        try clear hcz32_2
        try clear hcz32_3
        try clear hcz32_4
        try clear hcz32_5
        try clear hcz38_0
        try clear hcz38_1
        try clear hcz38_2
        try clear hcz38_3
        try clear hcz38_4
        try clear hcz38_5
        try clear hcz40_0
        try clear hcz40_1
        try clear hcz40_2
        try clear hcz40_3
        try clear hcz40_4
        try clear hcz40_5
        try clear hcz46_0
        try clear hcz46_1
        try clear hcz46_2
        try clear hcz46_3
        try clear hcz46_4
        try clear hcz46_5
        try clear hcz52_0
        try clear hcz52_1
        try clear hcz52_2
        try clear hcz52_3
        try clear hcz52_4
        try clear hcz52_5
        try clear hcz54_0
        try clear hcz54_1
        try clear hcz54_2
        try clear hcz54_3
        try clear hcz54_4
        try clear hcz54_5
        try clear hcz58_0
        try clear hcz58_1
        try clear hcz58_2
        try clear hcz58_3
        try clear hcz58_4
        try clear hcz58_5
        try clear hcz60_0
        try clear hcz60_1
        try clear hcz60_2
        try clear hcz60_3
        try clear hcz60_4
        try clear hcz60_5
        try clear hcz8_0
        try clear hcz8_1
        try clear hcz8_2
        try clear hcz8_3
        try clear hcz8_4
        try clear hcz8_5
        try clear hfz13_0
        try clear hfz13_1
        try clear hfz13_2
        try clear hfz13_3
        try clear hfz13_4
        try clear hfz13_5
        try clear hfz18_0
        try clear hfz18_1
        try clear hfz18_2
        try clear hfz18_3
        try clear hfz18_4
        try clear hfz18_5
        try clear hfz19_0
        try clear hfz19_1
        try clear hfz19_2
        try clear hfz19_3
        try clear hfz19_4
        try clear hfz19_5
        try clear hfz22_0
        try clear hfz22_1
        try clear hfz22_2
        try clear hfz22_3
        try clear hfz22_4
        try clear hfz22_5
        try clear hfz23_0
        try clear hfz23_1
        try clear hfz23_2
        try clear hfz23_3
        try clear hfz23_4
        try clear hfz23_5
        try clear hfz30_0
        try clear hfz30_1
        try clear hfz30_2
        try clear hfz30_3
        try clear hfz30_4
        try clear hfz30_5
        try clear hfz32_0
        try clear hfz32_1
        try clear hfz32_2
        try clear hfz32_3
        try clear hfz32_4
        try clear hfz32_5
        try clear hfz38_0
        try clear hfz38_1
        try clear hfz38_2
        try clear hfz38_3
        try clear hfz38_4
        try clear hfz38_5
        try clear hfz40_0
        try clear hfz40_1
        try clear hfz40_2
        try clear hfz40_3
        try clear hfz40_4
        try clear hfz40_5
        try clear hfz46_0
        try clear hfz46_1
        try clear hfz46_2
        try clear hfz46_3
        try clear hfz46_4
        try clear hfz46_5
        try clear hfz52_0
        try clear hfz52_1
        try clear hfz52_2
        try clear hfz52_3
        try clear hfz52_4
        try clear hfz52_5
        try clear hfz54_0
        try clear hfz54_1
        try clear hfz54_2
        try clear hfz54_3
        try clear hfz54_4
        try clear hfz54_5
        try clear hfz58_0
        try clear hfz58_1
        try clear hfz58_2
        try clear hfz58_3
        try clear hfz58_4
        try clear hfz58_5
        try clear hfz60_0
        try clear hfz60_1
        try clear hfz60_2
        try clear hfz60_3
        try clear hfz60_4
        try clear hfz60_5
        try clear hfz8_0
        try clear hfz8_1
        try clear hfz8_2
        try clear hfz8_3
        try clear hfz8_4
        try clear hfz8_5
        try clear p2
        obtain ⟨kq, x57_35, rfl, HA, HJ35, HO_249005, HO_259005, HO_273005, BK248, BK258, BK272, HB⟩ := hcut
        have hl259005_35 := (Kd.R_reads' HO_259005.out).1
        rw [hl259005_35] at HO_259005
        (try simp only [hl259005_35])
        (try simp only [hl259005_35] at BK248)
        (try simp only [hl259005_35] at BK258)
        (try simp only [hl259005_35] at BK272)
        (try simp only [hl259005_35] at HO_249005)
        (try simp only [hl259005_35] at HO_273005)
        cases kq with
        | zero => exact absurd HA.out (by simp [laws_FnExactReadBuilding.j1])
        | succ kj35 =>
         have H := HA.out
         clear HA
         simp only [laws_FnExactReadBuilding.j1] at H
         by_cases c62 : x57_35 = true
         ·
          subst c62
          have H1 : (some false) = some r := by rw [if_pos rfl] at H; exact H
          clear H
          have H := H1
          clear H1
          obtain rfl := Option.some.inj H
          go_wp2
          go_ret
          exact ⟨by first | rfl | (simp [errW_none, errW_some] <;> rfl) | (simp [*, errW_none, errW_some] <;> rfl), by repeat (first | (with_reducible first | exact HB.out | apply below_alloc | apply pw_below_drewN | apply below_drew1 | refine below_set ?_ GE248.out | refine below_set ?_ GE258.out | refine below_set ?_ GE272.out) | exact HB.out)⟩
         ·
          replace c62 := Bool.eq_false_iff.mpr c62
          subst c62
          have H1 : ((laws_heldBuilding.f kj35 t249 t250 t251 t252 t253 t261 1).bind fun t274 => (if t274 < 0 then (some false) else (if t274 = t260 then (some true) else (some false)))) = some r := by rw [if_neg (show ¬ (false = true) by decide)] at H; exact H
          clear H
          have H := H1
          clear H1
          replace H := Option.bind_eq_some_iff.mp H
          obtain ⟨t274, A630, H⟩ := H
          replace H : (if t274 < 0 then (some false) else (if t274 = t260 then (some true) else (some false))) = some r := H
          have A63 := Aside0.mk A630
          clear A630
          by_cases c64 : t274 < 0
          ·
           rw [if_pos c64] at H
           have c64b0 : decide (t274 < 0) = true := decide_eq_true c64
           clear c64
           obtain rfl := Option.some.inj H
           have hnb65 := NB258_248.out
           have hnc65 := NB248_258.out
           have hnb66 := NB258_272.out
           have hnc66 := NB272_258.out
           have hcz67_0 : wc.cell? ⟨gb258, 0, none⟩ = some (.string t249) := (blk_cell BK258.out 0).trans rfl
           have hcz67_1 : wc.cell? ⟨gb258, 1, none⟩ = some (.int .i64 t250) := (blk_cell BK258.out 1).trans rfl
           have hcz67_2 : wc.cell? ⟨gb258, 2, none⟩ = some (.int .i64 t251) := (blk_cell BK258.out 2).trans rfl
           have hcz67_3 : wc.cell? ⟨gb258, 3, none⟩ = some (.int .i64 t252) := (blk_cell BK258.out 3).trans rfl
           have hcz67_4 : wc.cell? ⟨gb258, 4, none⟩ = some (.int .i64 t253) := (blk_cell BK258.out 4).trans rfl
           have hcz67_5 : wc.cell? ⟨gb258, 5, none⟩ = some (.slice Ao14 t261.length co14) := (blk_cell BK258.out 5).trans rfl
           have hfz67_0 := blk_frozen BK258.out 0
           have hfz67_1 := blk_frozen BK258.out 1
           have hfz67_2 := blk_frozen BK258.out 2
           have hfz67_3 := blk_frozen BK258.out 3
           have hfz67_4 := blk_frozen BK258.out 4
           have hfz67_5 := blk_frozen BK258.out 5
           go_wp2_with (first | ((with_reducible refine gate_callee (f := 27) rfl ?_); refine goesL_ (some 60) rfl rfl Tryd.func27 (by kernel_rfl) rfl #[.agg #[.string t249, .int .i64 t250, .int .i64 t251, .int .i64 t252, .int .i64 t253, .slice Ao14 t261.length co14], .int .i64 1] rfl (by (try simp only [List.map_toArray, List.map_cons, List.map_nil]); first | done | rfl | (simp only [List.length_drop, List.length_take]; rfl)) ?_; (with_reducible refine (laws_heldBuilding.calls kj35 t249 t250 t251 t252 t253 _ _ t261 1 t274 _ ?side1 ?side2 A63.out).mono ?_); (case side1 => repeat (first | exact (Kd.R_reads' HO_259005.out).2.2 | (with_reducible refine Kd.C_alloc ?_ _) | (with_reducible refine Kd.C_drewN ?_ _) | (with_reducible refine Kd.C_drew ?_))); (case side2 => exact (Kd.R_reads' HO_259005.out).2.1); rintro e w68 ⟨rfl, hb⟩; refine ⟨_, rfl, ?_⟩; have n0_ := Aside0.mk (Kd.R_below (by (with_reducible repeat (first | apply Kd.R_alloc | apply Kd.R_drewN | apply Kd.R_drew)); exact HO_249005.out) hb); have n1_ := Aside0.mk (Kd.R_below (by (with_reducible repeat (first | apply Kd.R_alloc | apply Kd.R_drewN | apply Kd.R_drew)); exact HO_259005.out) hb); have n2_ := Aside0.mk (Kd.R_below (by (with_reducible repeat (first | apply Kd.R_alloc | apply Kd.R_drewN | apply Kd.R_drew)); exact HO_273005.out) hb); have n3_ := Aside0.mk (blk_below (g := gb248) (o := .cells #[.string t239, .int .i64 t240, .int .i64 t241, .int .i64 t242, .int .i64 t243, .slice Ao9 t244.length co9] 51 (0, 0)) (by (with_reducible repeat (first | refine blk_drewN ?_ _ | refine blk_drew ?_ | refine blk_alloc ?_ _)); exact BK248.out) hb); have n4_ := Aside0.mk (blk_below (g := gb258) (o := .cells #[.string t249, .int .i64 t250, .int .i64 t251, .int .i64 t252, .int .i64 t253, .slice Ao14 t261.length co14] 51 (0, 0)) (by (with_reducible repeat (first | refine blk_drewN ?_ _ | refine blk_drew ?_ | refine blk_alloc ?_ _)); exact BK258.out) hb); have n5_ := Aside0.mk (blk_below (g := gb272) (o := .cells #[.string t263, .int .i64 t264, .int .i64 t265, .int .i64 t266, .int .i64 t267, .slice Ao47 t268.length co47] 51 (0, 0)) (by (with_reducible repeat (first | refine blk_drewN ?_ _ | refine blk_drew ?_ | refine blk_alloc ?_ _)); exact BK272.out) hb); have n6_ := Aside0.mk (below_step (by repeat (first | (with_reducible first | exact HB.out | apply below_alloc | apply pw_below_drewN | apply below_drew1 | refine below_set ?_ GE248.out | refine below_set ?_ GE258.out | refine below_set ?_ GE272.out) | exact HB.out)) hb); clear HO_249005; clear HO_259005; clear HO_273005; clear BK248; clear BK258; clear BK272; clear HB; have HO_249005 := n0_; have HO_259005 := n1_; have HO_273005 := n2_; have BK248 := n3_; have BK258 := n4_; have BK272 := n5_; have HB := n6_; clear n0_ n1_ n2_ n3_ n4_ n5_ n6_; (try clear hb); (try clear hb2); (try clear hk); (try clear hi)))
           go_ret
           exact ⟨by first | rfl | (simp [errW_none, errW_some] <;> rfl) | (simp [*, errW_none, errW_some] <;> rfl), by repeat (first | (with_reducible first | exact HB.out | apply below_alloc | apply pw_below_drewN | apply below_drew1 | refine below_set ?_ GE248.out | refine below_set ?_ GE258.out | refine below_set ?_ GE272.out) | exact HB.out)⟩
          ·
           rw [if_neg c64] at H
           have c64b0 : decide (t274 < 0) = false := decide_eq_false c64
           clear c64
           by_cases c69 : t274 = t260
           ·
            rw [if_pos c69] at H
            have c69b0 : (t274 == t260) = true := beq_iff_eq.mpr c69
            have c69b1 : (t274 != t260) = false := bne_eq_false_iff_eq.mpr c69
            clear c69
            obtain rfl := Option.some.inj H
            have hnb70 := NB258_248.out
            have hnc70 := NB248_258.out
            have hnb71 := NB258_272.out
            have hnc71 := NB272_258.out
            have hcz72_0 : wc.cell? ⟨gb258, 0, none⟩ = some (.string t249) := (blk_cell BK258.out 0).trans rfl
            have hcz72_1 : wc.cell? ⟨gb258, 1, none⟩ = some (.int .i64 t250) := (blk_cell BK258.out 1).trans rfl
            have hcz72_2 : wc.cell? ⟨gb258, 2, none⟩ = some (.int .i64 t251) := (blk_cell BK258.out 2).trans rfl
            have hcz72_3 : wc.cell? ⟨gb258, 3, none⟩ = some (.int .i64 t252) := (blk_cell BK258.out 3).trans rfl
            have hcz72_4 : wc.cell? ⟨gb258, 4, none⟩ = some (.int .i64 t253) := (blk_cell BK258.out 4).trans rfl
            have hcz72_5 : wc.cell? ⟨gb258, 5, none⟩ = some (.slice Ao14 t261.length co14) := (blk_cell BK258.out 5).trans rfl
            have hfz72_0 := blk_frozen BK258.out 0
            have hfz72_1 := blk_frozen BK258.out 1
            have hfz72_2 := blk_frozen BK258.out 2
            have hfz72_3 := blk_frozen BK258.out 3
            have hfz72_4 := blk_frozen BK258.out 4
            have hfz72_5 := blk_frozen BK258.out 5
            go_wp2_with (first | ((with_reducible refine gate_callee (f := 27) rfl ?_); refine goesL_ (some 60) rfl rfl Tryd.func27 (by kernel_rfl) rfl #[.agg #[.string t249, .int .i64 t250, .int .i64 t251, .int .i64 t252, .int .i64 t253, .slice Ao14 t261.length co14], .int .i64 1] rfl (by (try simp only [List.map_toArray, List.map_cons, List.map_nil]); first | done | rfl | (simp only [List.length_drop, List.length_take]; rfl)) ?_; (with_reducible refine (laws_heldBuilding.calls kj35 t249 t250 t251 t252 t253 _ _ t261 1 t274 _ ?side1 ?side2 A63.out).mono ?_); (case side1 => repeat (first | exact (Kd.R_reads' HO_259005.out).2.2 | (with_reducible refine Kd.C_alloc ?_ _) | (with_reducible refine Kd.C_drewN ?_ _) | (with_reducible refine Kd.C_drew ?_))); (case side2 => exact (Kd.R_reads' HO_259005.out).2.1); rintro e w73 ⟨rfl, hb⟩; refine ⟨_, rfl, ?_⟩; have n0_ := Aside0.mk (Kd.R_below (by (with_reducible repeat (first | apply Kd.R_alloc | apply Kd.R_drewN | apply Kd.R_drew)); exact HO_249005.out) hb); have n1_ := Aside0.mk (Kd.R_below (by (with_reducible repeat (first | apply Kd.R_alloc | apply Kd.R_drewN | apply Kd.R_drew)); exact HO_259005.out) hb); have n2_ := Aside0.mk (Kd.R_below (by (with_reducible repeat (first | apply Kd.R_alloc | apply Kd.R_drewN | apply Kd.R_drew)); exact HO_273005.out) hb); have n3_ := Aside0.mk (blk_below (g := gb248) (o := .cells #[.string t239, .int .i64 t240, .int .i64 t241, .int .i64 t242, .int .i64 t243, .slice Ao9 t244.length co9] 51 (0, 0)) (by (with_reducible repeat (first | refine blk_drewN ?_ _ | refine blk_drew ?_ | refine blk_alloc ?_ _)); exact BK248.out) hb); have n4_ := Aside0.mk (blk_below (g := gb258) (o := .cells #[.string t249, .int .i64 t250, .int .i64 t251, .int .i64 t252, .int .i64 t253, .slice Ao14 t261.length co14] 51 (0, 0)) (by (with_reducible repeat (first | refine blk_drewN ?_ _ | refine blk_drew ?_ | refine blk_alloc ?_ _)); exact BK258.out) hb); have n5_ := Aside0.mk (blk_below (g := gb272) (o := .cells #[.string t263, .int .i64 t264, .int .i64 t265, .int .i64 t266, .int .i64 t267, .slice Ao47 t268.length co47] 51 (0, 0)) (by (with_reducible repeat (first | refine blk_drewN ?_ _ | refine blk_drew ?_ | refine blk_alloc ?_ _)); exact BK272.out) hb); have n6_ := Aside0.mk (below_step (by repeat (first | (with_reducible first | exact HB.out | apply below_alloc | apply pw_below_drewN | apply below_drew1 | refine below_set ?_ GE248.out | refine below_set ?_ GE258.out | refine below_set ?_ GE272.out) | exact HB.out)) hb); clear HO_249005; clear HO_259005; clear HO_273005; clear BK248; clear BK258; clear BK272; clear HB; have HO_249005 := n0_; have HO_259005 := n1_; have HO_273005 := n2_; have BK248 := n3_; have BK258 := n4_; have BK272 := n5_; have HB := n6_; clear n0_ n1_ n2_ n3_ n4_ n5_ n6_; (try clear hb); (try clear hb2); (try clear hk); (try clear hi)))
            go_ret
            exact ⟨by first | rfl | (simp [errW_none, errW_some] <;> rfl) | (simp [*, errW_none, errW_some] <;> rfl), by repeat (first | (with_reducible first | exact HB.out | apply below_alloc | apply pw_below_drewN | apply below_drew1 | refine below_set ?_ GE248.out | refine below_set ?_ GE258.out | refine below_set ?_ GE272.out) | exact HB.out)⟩
           ·
            rw [if_neg c69] at H
            have c69b0 : (t274 == t260) = false := beq_eq_false_iff_ne.mpr c69
            have c69b1 : (t274 != t260) = true := bne_iff_ne.mpr c69
            obtain rfl := Option.some.inj H
            have hnb74 := NB258_248.out
            have hnc74 := NB248_258.out
            have hnb75 := NB258_272.out
            have hnc75 := NB272_258.out
            have hcz76_0 : wc.cell? ⟨gb258, 0, none⟩ = some (.string t249) := (blk_cell BK258.out 0).trans rfl
            have hcz76_1 : wc.cell? ⟨gb258, 1, none⟩ = some (.int .i64 t250) := (blk_cell BK258.out 1).trans rfl
            have hcz76_2 : wc.cell? ⟨gb258, 2, none⟩ = some (.int .i64 t251) := (blk_cell BK258.out 2).trans rfl
            have hcz76_3 : wc.cell? ⟨gb258, 3, none⟩ = some (.int .i64 t252) := (blk_cell BK258.out 3).trans rfl
            have hcz76_4 : wc.cell? ⟨gb258, 4, none⟩ = some (.int .i64 t253) := (blk_cell BK258.out 4).trans rfl
            have hcz76_5 : wc.cell? ⟨gb258, 5, none⟩ = some (.slice Ao14 t261.length co14) := (blk_cell BK258.out 5).trans rfl
            have hfz76_0 := blk_frozen BK258.out 0
            have hfz76_1 := blk_frozen BK258.out 1
            have hfz76_2 := blk_frozen BK258.out 2
            have hfz76_3 := blk_frozen BK258.out 3
            have hfz76_4 := blk_frozen BK258.out 4
            have hfz76_5 := blk_frozen BK258.out 5
            go_wp2_with (first | ((with_reducible refine gate_callee (f := 27) rfl ?_); refine goesL_ (some 60) rfl rfl Tryd.func27 (by kernel_rfl) rfl #[.agg #[.string t249, .int .i64 t250, .int .i64 t251, .int .i64 t252, .int .i64 t253, .slice Ao14 t261.length co14], .int .i64 1] rfl (by (try simp only [List.map_toArray, List.map_cons, List.map_nil]); first | done | rfl | (simp only [List.length_drop, List.length_take]; rfl)) ?_; (with_reducible refine (laws_heldBuilding.calls kj35 t249 t250 t251 t252 t253 _ _ t261 1 t274 _ ?side1 ?side2 A63.out).mono ?_); (case side1 => repeat (first | exact (Kd.R_reads' HO_259005.out).2.2 | (with_reducible refine Kd.C_alloc ?_ _) | (with_reducible refine Kd.C_drewN ?_ _) | (with_reducible refine Kd.C_drew ?_))); (case side2 => exact (Kd.R_reads' HO_259005.out).2.1); rintro e w77 ⟨rfl, hb⟩; refine ⟨_, rfl, ?_⟩; have n0_ := Aside0.mk (Kd.R_below (by (with_reducible repeat (first | apply Kd.R_alloc | apply Kd.R_drewN | apply Kd.R_drew)); exact HO_249005.out) hb); have n1_ := Aside0.mk (Kd.R_below (by (with_reducible repeat (first | apply Kd.R_alloc | apply Kd.R_drewN | apply Kd.R_drew)); exact HO_259005.out) hb); have n2_ := Aside0.mk (Kd.R_below (by (with_reducible repeat (first | apply Kd.R_alloc | apply Kd.R_drewN | apply Kd.R_drew)); exact HO_273005.out) hb); have n3_ := Aside0.mk (blk_below (g := gb248) (o := .cells #[.string t239, .int .i64 t240, .int .i64 t241, .int .i64 t242, .int .i64 t243, .slice Ao9 t244.length co9] 51 (0, 0)) (by (with_reducible repeat (first | refine blk_drewN ?_ _ | refine blk_drew ?_ | refine blk_alloc ?_ _)); exact BK248.out) hb); have n4_ := Aside0.mk (blk_below (g := gb258) (o := .cells #[.string t249, .int .i64 t250, .int .i64 t251, .int .i64 t252, .int .i64 t253, .slice Ao14 t261.length co14] 51 (0, 0)) (by (with_reducible repeat (first | refine blk_drewN ?_ _ | refine blk_drew ?_ | refine blk_alloc ?_ _)); exact BK258.out) hb); have n5_ := Aside0.mk (blk_below (g := gb272) (o := .cells #[.string t263, .int .i64 t264, .int .i64 t265, .int .i64 t266, .int .i64 t267, .slice Ao47 t268.length co47] 51 (0, 0)) (by (with_reducible repeat (first | refine blk_drewN ?_ _ | refine blk_drew ?_ | refine blk_alloc ?_ _)); exact BK272.out) hb); have n6_ := Aside0.mk (below_step (by repeat (first | (with_reducible first | exact HB.out | apply below_alloc | apply pw_below_drewN | apply below_drew1 | refine below_set ?_ GE248.out | refine below_set ?_ GE258.out | refine below_set ?_ GE272.out) | exact HB.out)) hb); clear HO_249005; clear HO_259005; clear HO_273005; clear BK248; clear BK258; clear BK272; clear HB; have HO_249005 := n0_; have HO_259005 := n1_; have HO_273005 := n2_; have BK248 := n3_; have BK258 := n4_; have BK272 := n5_; have HB := n6_; clear n0_ n1_ n2_ n3_ n4_ n5_ n6_; (try clear hb); (try clear hb2); (try clear hk); (try clear hi)))
            go_ret
            exact ⟨by first | rfl | (simp [errW_none, errW_some] <;> rfl) | (simp [*, errW_none, errW_some] <;> rfl), by repeat (first | (with_reducible first | exact HB.out | apply below_alloc | apply pw_below_drewN | apply below_drew1 | refine below_set ?_ GE248.out | refine below_set ?_ GE258.out | refine below_set ?_ GE272.out) | exact HB.out)⟩
      ·
       rw [if_neg c34] at H
       have c34b0 : (t262 == t260) = false := beq_eq_false_iff_ne.mpr c34
       have c34b1 : (t262 != t260) = true := bne_iff_ne.mpr c34
       obtain rfl := Option.some.inj H
       have hnb78 := NB258_248.out
       have hnc78 := NB248_258.out
       have hcz79_0 : wc.cell? ⟨gb258, 0, none⟩ = some (.string t249) := (blk_cell BK258.out 0).trans rfl
       have hcz79_1 : wc.cell? ⟨gb258, 1, none⟩ = some (.int .i64 t250) := (blk_cell BK258.out 1).trans rfl
       have hcz79_2 : wc.cell? ⟨gb258, 2, none⟩ = some (.int .i64 t251) := (blk_cell BK258.out 2).trans rfl
       have hcz79_3 : wc.cell? ⟨gb258, 3, none⟩ = some (.int .i64 t252) := (blk_cell BK258.out 3).trans rfl
       have hcz79_4 : wc.cell? ⟨gb258, 4, none⟩ = some (.int .i64 t253) := (blk_cell BK258.out 4).trans rfl
       have hcz79_5 : wc.cell? ⟨gb258, 5, none⟩ = some (.slice Ao14 t254.length co14) := (blk_cell BK258.out 5).trans rfl
       have hfz79_0 := blk_frozen BK258.out 0
       have hfz79_1 := blk_frozen BK258.out 1
       have hfz79_2 := blk_frozen BK258.out 2
       have hfz79_3 := blk_frozen BK258.out 3
       have hfz79_4 := blk_frozen BK258.out 4
       have hfz79_5 := blk_frozen BK258.out 5
       go_wp2_with (first | ((with_reducible refine gate_callee (f := 26) rfl ?_); refine goesL_ (some 35) rfl rfl Tryd.func26 (by kernel_rfl) rfl #[.agg #[.string t249, .int .i64 t250, .int .i64 t251, .int .i64 t252, .int .i64 t253, .slice Ao14 t254.length co14], .int .i64 1] rfl (by (try simp only [List.map_toArray, List.map_cons, List.map_nil]); first | done | rfl | (simp only [List.length_drop, List.length_take]; rfl)) ?_; (with_reducible refine (laws_markBuilding.calls kj4 t249 t250 t251 t252 t253 (fun k_ => some k_ = (.slice Ao14 t254.length co14 : Value).ownBlock) (.slice Ao14 t254.length co14) t254 1 t260 t261 w _ ?side1 ?side2 A26.out).mono ?_); (case side1 => repeat (first | (with_reducible first | exact HB.out | apply below_alloc | apply pw_below_drewN | apply below_drew1 | refine below_set ?_ GE248.out | refine below_set ?_ GE258.out) | exact HB.out)); (case side2 => exact Kd.R_tight rfl HO_259005.out); rintro e w80 ⟨rfl, hy0, hb, hkp⟩; refine ⟨_, rfl, ?_⟩; have n0_ := Aside0.mk (Kd.R_mono (ok' := fun k_ => some k_ ≠ (.slice Ao14 t254.length co14 : Value).ownBlock) (Kd.R_keptB (HO_249005.out) hkp (fun k_ hk_ hs_ => (hk_) hs_)) (fun k_ hk_ => hk_.1)); have n1_ := Aside0.mk (Kd.R_reok rfl hy0 (fun k_ e_ => HO_259005.out.1 k_ e_)); have n2_ := Aside0.mk (blk_kept (by (with_reducible repeat (first | refine blk_drewN ?_ _ | refine blk_drew ?_ | refine blk_alloc ?_ _)); exact BK248.out) hkp (fun hs_ => (fun e_ => (Kd.R_ne HO_259005.out BK248.out (by decide)) e_) hs_)); have n3_ := Aside0.mk (blk_kept (by (with_reducible repeat (first | refine blk_drewN ?_ _ | refine blk_drew ?_ | refine blk_alloc ?_ _)); exact BK258.out) hkp (fun hs_ => (fun e_ => (Kd.R_ne HO_259005.out BK258.out (by decide)) e_) hs_)); have n4_ := Aside0.mk (hb); clear HO_249005; clear HO_259005; clear BK248; clear BK258; clear HB; have HO_249005 := n0_; have HO_259005 := n1_; have BK248 := n2_; have BK258 := n3_; have HB := n4_; clear n0_ n1_ n2_ n3_ n4_; (try clear hb); (try clear hkp); (try clear hy0); have hcz81_0 : w80.cell? ⟨gb258, 0, none⟩ = some (.string t249) := (blk_cell BK258.out 0).trans rfl; have hcz81_1 : w80.cell? ⟨gb258, 1, none⟩ = some (.int .i64 t250) := (blk_cell BK258.out 1).trans rfl; have hcz81_2 : w80.cell? ⟨gb258, 2, none⟩ = some (.int .i64 t251) := (blk_cell BK258.out 2).trans rfl; have hcz81_3 : w80.cell? ⟨gb258, 3, none⟩ = some (.int .i64 t252) := (blk_cell BK258.out 3).trans rfl; have hcz81_4 : w80.cell? ⟨gb258, 4, none⟩ = some (.int .i64 t253) := (blk_cell BK258.out 4).trans rfl; have hcz81_5 : w80.cell? ⟨gb258, 5, none⟩ = some (.slice Ao14 t254.length co14) := (blk_cell BK258.out 5).trans rfl; have hfz81_0 := blk_frozen BK258.out 0; have hfz81_1 := blk_frozen BK258.out 1; have hfz81_2 := blk_frozen BK258.out 2; have hfz81_3 := blk_frozen BK258.out 3; have hfz81_4 := blk_frozen BK258.out 4; have hfz81_5 := blk_frozen BK258.out 5) | ((with_reducible refine gate_callee (f := 27) rfl ?_); refine goesL_ (some 38) rfl rfl Tryd.func27 (by kernel_rfl) rfl #[.agg #[.string t249, .int .i64 t250, .int .i64 t251, .int .i64 t252, .int .i64 t253, .slice Ao14 t261.length co14], .int .i64 1] rfl (by (try simp only [List.map_toArray, List.map_cons, List.map_nil]); first | done | (rw [show t261.length = t254.length from (Kd.R_reads' HO_259005.out).1.symm] <;> rfl) | rfl | (simp only [List.length_drop, List.length_take]; rfl)) ?_; (with_reducible refine (laws_heldBuilding.calls kj4 t249 t250 t251 t252 t253 _ _ t261 1 t262 _ ?side1 ?side2 A27.out).mono ?_); (case side1 => repeat (first | exact (Kd.R_reads' HO_259005.out).2.2 | (with_reducible refine Kd.C_alloc ?_ _) | (with_reducible refine Kd.C_drewN ?_ _) | (with_reducible refine Kd.C_drew ?_))); (case side2 => rw [show t261.length = t254.length from (Kd.R_reads' HO_259005.out).1.symm]; exact (Kd.R_reads' HO_259005.out).2.1); rintro e w82 ⟨rfl, hb⟩; refine ⟨_, rfl, ?_⟩; have n0_ := Aside0.mk (Kd.R_below (by (with_reducible repeat (first | apply Kd.R_alloc | apply Kd.R_drewN | apply Kd.R_drew)); exact HO_249005.out) hb); have n1_ := Aside0.mk (Kd.R_below (by (with_reducible repeat (first | apply Kd.R_alloc | apply Kd.R_drewN | apply Kd.R_drew)); exact HO_259005.out) hb); have n2_ := Aside0.mk (blk_below (g := gb248) (o := .cells #[.string t239, .int .i64 t240, .int .i64 t241, .int .i64 t242, .int .i64 t243, .slice Ao9 t244.length co9] 51 (0, 0)) (by (with_reducible repeat (first | refine blk_drewN ?_ _ | refine blk_drew ?_ | refine blk_alloc ?_ _)); exact BK248.out) hb); have n3_ := Aside0.mk (blk_below (g := gb258) (o := .cells #[.string t249, .int .i64 t250, .int .i64 t251, .int .i64 t252, .int .i64 t253, .slice Ao14 t254.length co14] 51 (0, 0)) (by (with_reducible repeat (first | refine blk_drewN ?_ _ | refine blk_drew ?_ | refine blk_alloc ?_ _)); exact BK258.out) hb); have n4_ := Aside0.mk (below_step (by repeat (first | (with_reducible first | exact HB.out | apply below_alloc | apply pw_below_drewN | apply below_drew1 | refine below_set ?_ GE248.out | refine below_set ?_ GE258.out) | exact HB.out)) hb); clear HO_249005; clear HO_259005; clear BK248; clear BK258; clear HB; have HO_249005 := n0_; have HO_259005 := n1_; have BK248 := n2_; have BK258 := n3_; have HB := n4_; clear n0_ n1_ n2_ n3_ n4_; (try clear hb); (try clear hb2); (try clear hk); (try clear hi)))
       go_ret
       exact ⟨by first | rfl | (simp [errW_none, errW_some] <;> rfl) | (simp [*, errW_none, errW_some] <;> rfl), by repeat (first | (with_reducible first | exact HB.out | apply below_alloc | apply pw_below_drewN | apply below_drew1 | refine below_set ?_ GE248.out | refine below_set ?_ GE258.out) | exact HB.out)⟩

/-- THE ONE PURE STATEMENT of laws_FnExactReadBuilding: yours. -/
def laws_FnExactReadBuilding.Pure : Prop := ∀ (a0 : ByteArray), a0.size ≤ 140737488351232 → ∃ k, laws_FnExactReadBuilding.f k a0 = some true
theorem laws_FnExactReadBuilding.walk (P : laws_FnExactReadBuilding.Pure) (a0 : ByteArray) (w : World) (w0 : a0.size ≤ 140737488351232) (ht_ : WOK w) :
  Calls Tryd.prog 4 #[.string a0] w fun e w' => e = .returned (.bool true) ∧ Below w.heap.size w w' := by
 obtain ⟨k, h⟩ := P a0 w0
 refine (laws_FnExactReadBuilding.calls k a0 true w ht_ h).mono ?_
 rintro e w' ⟨rfl, hd⟩
 exact ⟨rfl, hd⟩

end Go.Proofs.YtgkmfgkkmahmoaaDoor.PFnExactReadBuilding
