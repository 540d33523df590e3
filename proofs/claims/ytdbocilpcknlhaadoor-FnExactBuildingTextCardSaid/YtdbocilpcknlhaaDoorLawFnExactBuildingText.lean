/- The row of the law FnExactBuildingText, out of its pure statement and the walk: written by a program of this session. -/
import Derived.Test.YtdbocilpcknlhaaDoorRows
import Derived.Test.YtdbocilpcknlhaaDoorPFnExactBuildingTextx7
import Derived.Test.YtdbocilpcknlhaaDoorPureFnExactBuildingText
import Derived.Test.YtdbocilpcknlhaaDoorCards
import Derived.Test.YtdbocilpcknlhaaDoorTie
import Derived.WalkKit
import Derived.Handy
import Derived.Stop.LaidErr
import Derived.Lib.LaidTab
import Derived.Shelf.Vars
import Derived.Lay
import Derived.SevenTiedAt
import Derived.ProofKit
import Derived.OpenShut
import Derived.ShutString
import Derived.ChangeOld
import Derived.Below
import Derived.SizedLaws
import Derived.Deep.Slices
import Derived.ChangeArms
namespace Go.Proofs.YtdbocilpcknlhaaDoor.fnExactBuildingText
open Go.ChangeShapes Go.WideShapes Go.ChangeAt Go.RowKit Go.Deep Go.Proofs.YtdbocilpcknlhaaDoor.PFnExactBuildingText Go.Proofs.YtdbocilpcknlhaaDoorW.PrintWords
open Go.ChangeMaps (open_string shut_string)
set_option linter.unusedVariables false
set_option linter.unusedSimpArgs false
theorem own : ownKnob Tryd.prog.godebug = none := by kernel_rfl
theorem laidOut : laidOutB Tryd.prog = true := by kernel_rfl
/-- What is read of a type's cells: a value of this kind, of this form. -/
def Opn {α : Type} (P : Program) (t : TypeId) (d : Kd α) (wf : α → Prop) : Prop :=
 ∀ (H : Type) (enc : TypeId × Value → H) (W : World) (spare : Nat → Bool) (held : Bool) (fuel : Nat) (cs : List Value) (y : DataW H × List MemPlace), DataW.trod enc P W 0 spare held fuel t cs = some y → ∃ x, d.K W x cs ∧ wf x
theorem opn_int {P : Program} {t : TypeId} {k : IntKind} (ht : P.underlying t = some (.int k)) : Opn P t (Kd.int k) (fun x => (Lit.int k x).wf = true) := by
 intro H enc W spare held fuel cs y h
 obtain ⟨n, rfl, _, hw⟩ := DataW.trod_int ht h
 exact ⟨n, rfl, hw⟩
theorem opn_bool {P : Program} {t : TypeId} (ht : P.underlying t = some .bool) : Opn P t Kd.bool (fun _ => True) := by
 intro H enc W spare held fuel cs y h
 obtain ⟨b, rfl, _⟩ := DataW.trod_bool ht h
 exact ⟨b, rfl, trivial⟩
theorem opn_string {P : Program} {t : TypeId} (ht : P.underlying t = some .string) : Opn P t Kd.string (fun x => x.size ≤ maxLen) := by
 intro H enc W spare held fuel cs y h
 obtain ⟨s, rfl, _, hs⟩ := DataW.trod_string ht h
 exact ⟨s, rfl, hs⟩
theorem opn_slice {α : Type} {P : Program} {t e : TypeId} {d : Kd α} {wf : α → Prop} (ht : P.underlying t = some (.slice e)) (hc : P.cellsOf e = d.sz) (he : Opn P e d wf) : Opn P t (Kd.slice e d) (fun xs => xs.length ≤ maxLen ∧ ∀ x ∈ xs, wf x) := by
 intro H enc W spare held fuel cs y h
 rcases open_slice ht h with ⟨rfl, _⟩ | ⟨a, len, cap, m, n, D, Pl, rfl, _, hl, hm, hmm, _, hx⟩
 ·
  exact ⟨[], ⟨none, 0, rfl, Nat.le_refl _, ⟨rfl, by simp, fun h => absurd h (Nat.lt_irrefl _)⟩⟩, Nat.zero_le _, (fun x hx => by cases hx)⟩
 ·
  have hle : len ≤ m := by rw [hmm]; split <;> omega
  have key : ∀ i, i < len → ∃ x c, W.cells? 0 (a.add (i * d.sz)) d.sz = some c ∧ d.K W x c ∧ wf x := by
   intro i hi
   obtain ⟨cs', h1, h2⟩ := hx i (by omega)
   obtain ⟨x, hK, hw⟩ := he H enc W spare held n cs' _ h2
   rw [hc] at h1
   exact ⟨x, cs', h1, hK, hw⟩
  have one : ∀ n, n ≤ len → ∃ xs : List α, xs.length = n ∧ (∀ x ∈ xs, wf x) ∧ ∀ j p, xs[j]? = some p → ∃ c, W.cells? 0 (a.add (j * d.sz)) d.sz = some c ∧ d.K W p c := by
   intro n
   induction n with
   | zero => exact fun _ => ⟨[], rfl, (fun x hx => by cases hx), (fun j p hj => by simp at hj)⟩
   | succ n ih =>
    intro hn
    obtain ⟨xs, hxl, hxw, hxr⟩ := ih (by omega)
    obtain ⟨x, c, h1, h2, h3⟩ := key n (by omega)
    refine ⟨xs ++ [x], by simp [hxl], fun z hz => ?_, fun j p hj => ?_⟩
    ·
     rcases List.mem_append.1 hz with hz | hz
     ·
      exact hxw z hz
     ·
      rw [List.mem_singleton.1 hz]; exact h3
    ·
     rcases Nat.lt_or_ge j xs.length with hjl | hjl
     ·
      rw [List.getElem?_append_left hjl] at hj
      exact hxr j p hj
     ·
      have hj2 : j = n := by
       have := (List.getElem?_eq_some_iff.1 hj).1
       simp at this; omega
      subst hj2
      rw [List.getElem?_append_right hjl, hxl] at hj
      simp at hj
      subst hj
      exact ⟨c, h1, h2⟩
  obtain ⟨xs, hxl, hxw, hxr⟩ := one len (Nat.le_refl _)
  refine ⟨xs, ⟨some a, cap, by rw [hxl], by omega, ?_⟩, by unfold maxLen at hm ⊢; omega, hxw⟩
  refine ⟨rfl, by rw [hxl]; unfold maxLen at hm; omega, fun _ => ⟨a, rfl, fun j p hj => ?_⟩⟩
  obtain ⟨c, h1, h2⟩ := hxr j p hj
  obtain ⟨_, hcl, hcc⟩ := World.cells?_some h1
  refine ⟨c, hcl, h2, fun i u hu => ?_⟩
  have hi : i < d.sz := by rw [← hcl]; exact (List.getElem?_eq_some_iff.1 hu).1
  have := hcc i hi
  rw [Go.Deep.add_add] at this
  rw [this, hu]
/-- A row of fields, one behind the other, from cell o on. -/
def OpnF {α : Type} (P : Program) (fs : List Field) (o : Nat) (d : Kd α) (wf : α → Prop) : Prop :=
 ∀ (H : Type) (enc : TypeId × Value → H) (W : World) (spare : Nat → Bool) (held : Bool) (fuel : Nat) (cs : List Value), o + d.sz ≤ cs.length → (∀ (i : Nat) (f : Field), fs[i]? = some f → ∃ y, DataW.trod enc P W 0 spare held fuel f.type ((cs.drop f.offset).take (P.cellsOf f.type)) = some y) → ∃ x, d.K W x ((cs.drop o).take d.sz) ∧ wf x
theorem opnF_one {α : Type} {P : Program} {f : Field} {o : Nat} {d : Kd α} {wf : α → Prop} (h0 : f.offset = o) (hc : P.cellsOf f.type = d.sz) (he : Opn P f.type d wf) : OpnF P [f] o d wf := by
 intro H enc W spare held fuel cs hl h
 obtain ⟨y, hy⟩ := h 0 f rfl
 rw [h0, hc] at hy
 exact he H enc W spare held fuel _ y hy
theorem opnF_cons {α β : Type} {P : Program} {f : Field} {fs : List Field} {o : Nat} {d : Kd α} {d' : Kd β} {wf : α → Prop} {wf' : β → Prop} (h0 : f.offset = o) (hc : P.cellsOf f.type = d.sz) (he : Opn P f.type d wf) (hr : OpnF P fs (o + d.sz) d' wf') :
  OpnF P (f :: fs) o (Kd.pair d d') (fun x => wf x.1 ∧ wf' x.2) := by
 intro H enc W spare held fuel cs hl h
 have hl' : o + (d.sz + d'.sz) ≤ cs.length := hl
 obtain ⟨y, hy⟩ := h 0 f rfl
 rw [h0, hc] at hy
 obtain ⟨x, hK, hw⟩ := he H enc W spare held fuel _ y hy
 obtain ⟨x', hK', hw'⟩ := hr H enc W spare held fuel cs (by omega) (fun i f' hi => h (i + 1) f' hi)
 refine ⟨(x, x'), ⟨_, _, ?_, hK, hK'⟩, hw, hw'⟩
 show (cs.drop o).take (d.sz + d'.sz) = _
 rw [List.take_add, List.drop_drop]
theorem opn_struct {α β : Type} {P : Program} {t : TypeId} {fs : Array Field} {d : Kd α} {wf : α → Prop} {f : β → α} (g : α → β) (hfg : ∀ x, f (g x) = x) (ht : P.underlying t = some (.struct fs)) (hc : P.cellsOf t = d.sz) (hf : OpnF P fs.toList 0 d wf) : Opn P t (Kd.iso d f) (fun x => wf (f x)) := by
 intro H enc W spare held fuel cs y h
 obtain ⟨xs, n, rfl, _, hl, hxl, hx⟩ := DataW.trod_struct ht h
 rw [hc] at hl
 obtain ⟨x, hK, hw⟩ := hf H enc W spare held n cs (by omega) (fun i f hi => by
  have hi' : fs[i]? = some f := by simpa using hi
  have := hx i f hi'
  have hlt : i < xs.length := by rw [hxl]; exact (Array.getElem?_eq_some_iff.1 hi').1
  rw [List.getElem?_eq_getElem hlt] at this
  exact ⟨_, this⟩)
 refine ⟨g x, ?_, by show wf (f (g x)); rw [hfg]; exact hw⟩
 show d.K W (f (g x)) cs
 rw [hfg]
 rw [List.drop_zero, List.take_of_length_le (by omega)] at hK
 exact hK

theorem opn9 : Opn Tryd.prog 9 Kd.string (fun x => x.size ≤ maxLen) := opn_string Tryd.underlying9
theorem opn2 : Opn Tryd.prog 2 (Kd.int .i64) (fun x => (Lit.int .i64 x).wf = true) := opn_int Tryd.underlying2
theorem opn28 : Opn Tryd.prog 28 (Kd.slice 2 (Kd.int .i64)) (fun xs => xs.length ≤ maxLen ∧ ∀ x ∈ xs, (fun x => (Lit.int .i64 x).wf = true) x) := opn_slice Tryd.underlying28 (by kernel_rfl) opn2
theorem opn30 : Opn Tryd.prog 30 k30 (fun x : S30 => (fun x => x.size ≤ maxLen) x.f0 ∧ (fun x => (Lit.int .i64 x).wf = true) x.f1 ∧ (fun x => (Lit.int .i64 x).wf = true) x.f2 ∧ (fun x => (Lit.int .i64 x).wf = true) x.f3 ∧ (fun x => (Lit.int .i64 x).wf = true) x.f4 ∧ (fun xs => xs.length ≤ maxLen ∧ ∀ x ∈ xs, (fun x => (Lit.int .i64 x).wf = true) x) x.f5) := opn_struct (fun z => (⟨z.1, z.2.1, z.2.2.1, z.2.2.2.1, z.2.2.2.2.1, z.2.2.2.2.2⟩ : S30)) (fun _ => rfl) Tryd.underlying30 (by kernel_rfl) (opnF_cons rfl (by kernel_rfl) opn9 (opnF_cons rfl (by kernel_rfl) opn2 (opnF_cons rfl (by kernel_rfl) opn2 (opnF_cons rfl (by kernel_rfl) opn2 (opnF_cons rfl (by kernel_rfl) opn2 (opnF_one rfl (by kernel_rfl) opn28))))))
set_option maxHeartbeats 4000000 in
/-- The wrap with a condition on the world beside the shape (after the kit's returnsInHanded_of_change_and and _shaped). -/
theorem handed_and_shaped {H : Type} {enc : TypeId × Value → H} {a : Assume} {C : Checked} {os : Os} {f : FuncId} {fn : Func} {s : ChangeSpec} {conds : List PathCond} {apart fresh handsOn again : Bool} {X : World → Array Value → Prop}
  (hX : ∀ (w w' : World) (args : Array Value), w.heap = w'.heap → X w args → X w' args)
  (own : ownKnob C.prog.godebug = none) (started : os.Started) (noInit : C.prog.inits.idxOf? f = none) (hfn : C.prog.funcs[f]? = some fn)
  (witness : ∃ (w : World) (tape : Tape) (i : Input), w.os = os ∧ (w.forCall tape i).Shaped C.prog ∧ i.vars = [] ∧ Input.okWide C.prog (w.forCall tape i) .any w.heap.size f i ∧
   ((s.pre enc C.prog fn conds apart (w.forCall tape i).memory i.args ∧ X (w.forCall tape i).memory i.args) ∧ sizedMet enc C.prog fn (OpenSpec.ofChange s) apart (w.forCall tape i).memory i.args) ∧ a.holds C.prog (lone (Frame.enter C.prog f i.args .normal) [] (w.forCall tape i)))
  (contract : ∀ (W : World) (base : Nat) (args : Array Value) (ds gs : List (DataW H)) (before : List MemPlace),
   (∀ (j : Nat) t v, fn.params[j]? = some t → args[j]? = some v → Value.okWide C.prog W .any base t v) →
   DataW.Whole enc C.prog fn.params.toList s.vars apart W args.toList ds gs before →
   conds.all (PathCond.test C.prog ⟨fn.params.toList, ds, s.plain.varTypes C.prog, gs⟩) = true →
   (DataW.weightsEach C.prog (fn.params.toList ++ s.plain.varTypes C.prog) (ds ++ gs)).all (· ≤ reachBytes) = true → X W args → W.ShapedOpen C.prog →
   a.holds C.prog (lone (Frame.enter C.prog f args .normal) [] W) →
   Calls C.prog f args W fun e W' => ∃ v, e = .returned v ∧ s.post enc C.prog fn apart fresh handsOn again W args v W') :
  ReturnsInHanded a C os f .any (fun w args => (s.pre enc C.prog fn conds apart w args ∧ X w args) ∧ sizedMet enc C.prog fn (OpenSpec.ofChange s) apart w args) (s.post enc C.prog fn apart fresh handsOn again) := by
 refine returnsInHanded_of_calls own started noInit witness ?_
 intro w tape i _ hsh _ hok hpre hholds
 obtain ⟨_, _, _, fn', hfn', _, _, _, _, hval⟩ := hok
 have e : fn' = fn := Option.some.inj (hfn'.symm.trans hfn)
 subst e
 obtain ⟨⟨⟨ds, gs, before, hw, hc⟩, hx⟩, hz⟩ := hpre
 have hw' := DataW.Whole.of_heap (w' := w.forCall tape i) (by rfl) hw
 refine (contract (w.forCall tape i) w.heap.size i.args ds gs before hval hw' hc (hz.weights hw) (hX _ _ _ (by rfl) hx) hsh hholds).mono fun e W' ⟨v, he, hp⟩ => ?_
 subst he
 exact ChangeSpec.post_blind hp
theorem errStar : "*" ++ "errors.errorString" = "*errors.errorString" := by decide
theorem errRow (u : TypeId) (h : Tryd.prog.typeName? 3 u = some "*errors.errorString") : u = 189 :=
 typeName_ptr_named (nm := "errors.errorString") (by rw [errStar]; kernel_rfl) (by kernel_rfl) (by decide) u (by rw [errStar]; exact h)
/-- What the walk asks of Go's library's variables, out of the laid data and the world's shape. -/
theorem wok_of {W : World} (hL : laidMet Tryd.prog Rows.fnExactBuildingTextRow.laid W) (hS : W.ShapedOpen Tryd.prog) : PFnExactBuildingText.WOK W := by
 refine ⟨Lib.tabIs_of_head (P := Tryd.prog) (g := 3) (t := 185) (e := 160) (k := .u64) (zs := Lib.pow10Tab) (by kernel_rfl) (by kernel_rfl) Tryd.underlying185 Tryd.underlying160 (by kernel_rfl) (by kernel_rfl) (hL.tail.tail), Go.Proofs.cell_of_shapedOpen_int (zero := #[.int .i64 0]) (t := 3) hS (of_decide_eq_true (by kernel_rfl)) (by kernel_rfl) rfl (by kernel_rfl) (by kernel_rfl) Tryd.underlying3, trivial⟩
set_option maxRecDepth 100000 in
theorem lifted (os : Os) (started : os.Started) (H : Type) (enc : TypeId × Value → H) :
  ReturnsInHanded {} Tryd.checked os 4 .any (fun w args => (Rows.fnExactBuildingTextSpec.pre enc Tryd.prog Tryd.f4 [] false w args ∧ laidMetH Tryd.prog Rows.fnExactBuildingTextRow.laid w) ∧ sizedMet enc Tryd.prog Tryd.f4 (OpenSpec.ofChange Rows.fnExactBuildingTextSpec) false w args) (Rows.fnExactBuildingTextSpec.post enc Tryd.prog Tryd.f4 false true false false) := by
 refine handed_and_shaped (C := Tryd.checked) (X := fun w _ => laidMetH Tryd.prog Rows.fnExactBuildingTextRow.laid w) (fun _ _ _ hh h => h.of_heap hh) own started (by kernel_rfl) Tryd.func4
  (ChangeSpec.witness_shaped (enc := enc) (C := Tryd.checked) (os := os) (X := fun w _ => laidMetH Tryd.prog Rows.fnExactBuildingTextRow.laid w) false (World.laidAll Tryd.prog os Rows.fnExactBuildingTextRow.laid) #[.agg #[.string ByteArray.empty, .int .i64 0, .int .i64 0, .int .i64 0, .int .i64 0, .slice none 0 0]] 8 (World.laidAll_os _ _ _)
   (World.shaped_of_ZipB (by kernel_rfl) (by kernel_rfl)) (by kernel_rfl) (by kernel_rfl) (by kernel_rfl)
   (by rw [MakeChecks.laidMetH_plain _ _ _ (by kernel_rfl)]; exact laidMet_laidAll _ (by kernel_rfl) (by kernel_rfl))) ?_
 intro W base args ds gs before hval0 hW hcnd hsz0 hL_ hS_ _
 have ht_ : PFnExactBuildingText.WOK W := wok_of (by rw [← MakeChecks.laidMetH_plain _ _ _ (by kernel_rfl)]; exact hL_) hS_
 have hsz : (DataW.weightsEach Tryd.prog (Tryd.f4.params.toList ++ Rows.fnExactBuildingTextSpec.plain.varTypes Tryd.prog) (ds ++ gs)).all (· ≤ reachBytes) = true := hsz0
 have hval : ∀ (j : Nat) t v, Tryd.f4.params[j]? = some t → args[j]? = some v → Value.okWide Tryd.prog W .any base t v := hval0
 have hW' := hW
 obtain ⟨p, q, hA0, hV, rfl, hfz, hnd⟩ := hW
 have hA : DataW.TrodAll enc Tryd.prog W 0 (fun _ => true) true Tryd.f4.params.toList args.toList ds p := hA0
 rw [Tryd.params4] at hA hval hsz
 obtain ⟨v0, vs0, d0, ds0, p0, q0, hargs, rfl, rfl, h0, r0⟩ := trodAll_cons hA
 obtain ⟨rfl, rfl, rfl⟩ := trodAll_nil r0
 obtain rfl : args = #[v0] := by cases args; simp_all
 obtain ⟨rfl, rfl⟩ := trodVars_none hV
 obtain ⟨cs0, rfl, hsz0⟩ := okWide_struct Tryd.underlying30 (hval 0 30 v0 rfl rfl)
 have k0 := h0
 have lt0 : ∀ x ∈ p0, x.block < W.heap.size := by obtain ⟨m, hm⟩ := k0; exact DataW.trod_lt m _ _ _ hm
 obtain ⟨fuel0, hf0⟩ := h0
 obtain ⟨x0, hK0, wf0⟩ := opn30 H enc W _ _ _ _ _ hf0
 obtain ⟨A0_5, c0_5, he0, hc0_5, hr0_5⟩ := k30_open hK0
 obtain rfl : cs0 = #[.string x0.f0, .int .i64 x0.f1, .int .i64 x0.f2, .int .i64 x0.f3, .int .i64 x0.f4, .slice A0_5 (x0.f5).length c0_5] := by apply Array.ext'; exact he0
 clear hA0 hval0 hsz0 hsz
 refine (PFnExactBuildingText.laws_FnExactBuildingText.walk Pure.FnExactBuildingText x0.f0 x0.f1 x0.f2 x0.f3 x0.f4 A0_5 c0_5 x0.f5 W wf0.1 wf0.2.1 wf0.2.2.1 wf0.2.2.2.1 wf0.2.2.2.2.1 wf0.2.2.2.2.2 hr0_5 hc0_5 ht_).mono fun e W' ⟨he, bel⟩ => ?_
 subst he
 exact ⟨_, rfl, _, _, _, [], _, [], hW', trodAll_mk1 (shut_bool Tryd.underlying4 _), (trodAll_cons_mk (Below.trod laidOut (by kernel_rfl) (of_decide_eq_true (by kernel_rfl)) k0 bel lt0) trodAll_mk0), rfl, bel.frame _, fun h => by cases h⟩
theorem over : Rows.fnExactBuildingTextRow.holds Tryd.pinned (OpenSpec.ofChange Rows.fnExactBuildingTextSpec) :=
 OpenClaim.holds_of_wide 4 Tryd.f4 rfl rfl rfl rfl rfl rfl rfl ⟨rfl, rfl, rfl, rfl, rfl⟩ rfl rfl rfl rfl rfl (by kernel_rfl) Tryd.func4 (by kernel_rfl)
  (of_decide_eq_true (by kernel_rfl)) (by unfold Func.isWrapper; first | (rw [if_pos (by decide +kernel)]; kernel_rfl) | (rw [if_neg (by decide +kernel)]; exact ⟨rfl, rfl⟩))
  (fun os started H enc _ => lifted os started H enc)
theorem proved : Rows.FnExactBuildingTextSaid := over
theorem card : Rows.FnExactBuildingTextCardSaid :=
 Claim7.holds_tied_plain_at .later [] [.data, .data, .data] true (true, "3b46a002cec0e2b5a73f5f356d7502b6fd1fc41c6b272e25341572e307149476") true over (fun _ h => by cases h) (by kernel_rfl) (fun _ h => by cases h) fnExactBuildingText_row_tie rfl ⟨rfl, rfl⟩ (by kernel_rfl) rfl
  (fun f fn hf hfn => by
   obtain rfl : f = 4 := Option.some.inj ((show Tryd.prog.funcNamed "loop.example/g01011/laws.FnExactBuildingText" = some 4 by kernel_rfl).symm.trans hf) |>.symm
   obtain rfl : fn = Tryd.f4 := (Option.some.inj (Tryd.func4.symm.trans hfn)).symm
   exact ⟨by kernel_rfl, fun j t ht => by
    have hm := Array.mem_of_getElem? ht
    have hall : (Tryd.f4.params.toList.all fun u => !Tryd.prog.wantsStandIn u) = true := by kernel_rfl
    exact (show Tryd.prog.wantsStandIn t = false by simpa using List.all_eq_true.1 hall t (Array.mem_toList_iff.2 hm))⟩)
  (by kernel_rfl)
#print axioms card
end Go.Proofs.YtdbocilpcknlhaaDoor.fnExactBuildingText
namespace Go.Proofs.YtdbocilpcknlhaaDoor
/-- The card, under a short name, for the claim. -/
theorem fnExactBuildingText_holds : Rows.FnExactBuildingTextCardSaid := fnExactBuildingText.card
end Go.Proofs.YtdbocilpcknlhaaDoor
