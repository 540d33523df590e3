/- The row of the law FnExactApplyChanges, out of its pure statement and the walk: written by a program of this session. -/
import Derived.Test.YtobhjkpegcfdfaaRows
import Derived.Test.YtobhjkpegcfdfaaLwFnExactApplyChanges
import Derived.WalkKit
import Derived.ProofKit
import Derived.OpenShut
import Derived.ShutString
import Derived.ChangeOld
import Derived.Below
import Derived.SizedLaws
import Derived.Deep.Slices
import Derived.ChangeArms
namespace Go.Proofs.Ytobhjkpegcfdfaa.fnExactApplyChanges
open Go.ChangeShapes Go.WideShapes Go.ChangeAt Go.RowKit Go.Deep Go.Proofs.Ytobhjkpegcfdfaa.PFnExactApplyChanges Go.Proofs.YtobhjkpegcfdfaaW.PrintWords
open Go.ChangeMaps (open_string shut_string)
set_option linter.unusedVariables false
set_option linter.unusedSimpArgs false
theorem own : ownKnob Try.prog.godebug = none := by kernel_rfl
theorem laidOut : laidOutB Try.prog = true := by kernel_rfl
/-- What is read of a type's cells: a value of this kind, of this form. -/
def Opn {α : Type} (P : Program) (t : TypeId) (d : Kd α) (wf : α → Prop) : Prop :=
 ∀ (H : Type) (enc : TypeId × Value → H) (W : World) (spare : Nat → Bool) (held : Bool) (fuel : Nat) (cs : List Value) (y : DataW H × List MemPlace), DataW.trod enc P W 0 spare held fuel t cs = some y → ∃ x, d.K W x cs ∧ wf x
theorem opn_int {P : Program} {t : TypeId} {k : IntKind} (ht : P.underlying t = some (.int k)) : Opn P t (Kd.int k) (fun x => (Lit.int k x).wf = true) := by
 intro H enc W spare held fuel cs y h
 obtain ⟨n, rfl, _, hw⟩ := DataW.trod_int ht h
 exact ⟨n, rfl, hw⟩
theorem opn_bool {P : Program} {t : TypeId} (ht : P.underlying t = some .bool) : Opn P t Kd.bool (fun _ => True) := by
 intro H enc W spare held fuel cs y h
 obtain ⟨b, rfl, _⟩ := DataW.trod_bool ht h
 exact ⟨b, rfl, trivial⟩
theorem opn_string {P : Program} {t : TypeId} (ht : P.underlying t = some .string) : Opn P t Kd.string (fun x => x.size ≤ maxLen) := by
 intro H enc W spare held fuel cs y h
 obtain ⟨s, rfl, _, hs⟩ := DataW.trod_string ht h
 exact ⟨s, rfl, hs⟩
theorem opn_slice {α : Type} {P : Program} {t e : TypeId} {d : Kd α} {wf : α → Prop} (ht : P.underlying t = some (.slice e)) (hc : P.cellsOf e = d.sz) (he : Opn P e d wf) : Opn P t (Kd.slice e d) (fun xs => xs.length ≤ maxLen ∧ ∀ x ∈ xs, wf x) := by
 intro H enc W spare held fuel cs y h
 rcases open_slice ht h with ⟨rfl, _⟩ | ⟨a, len, cap, m, n, D, Pl, rfl, _, hl, hm, hmm, _, hx⟩
 ·
  exact ⟨[], ⟨none, 0, rfl, Nat.le_refl _, ⟨rfl, by simp, fun h => absurd h (Nat.lt_irrefl _)⟩⟩, Nat.zero_le _, (fun x hx => by cases hx)⟩
 ·
  have hle : len ≤ m := by rw [hmm]; split <;> omega
  have key : ∀ i, i < len → ∃ x c, W.cells? 0 (a.add (i * d.sz)) d.sz = some c ∧ d.K W x c ∧ wf x := by
   intro i hi
   obtain ⟨cs', h1, h2⟩ := hx i (by omega)
   obtain ⟨x, hK, hw⟩ := he H enc W spare held n cs' _ h2
   rw [hc] at h1
   exact ⟨x, cs', h1, hK, hw⟩
  have one : ∀ n, n ≤ len → ∃ xs : List α, xs.length = n ∧ (∀ x ∈ xs, wf x) ∧ ∀ j p, xs[j]? = some p → ∃ c, W.cells? 0 (a.add (j * d.sz)) d.sz = some c ∧ d.K W p c := by
   intro n
   induction n with
   | zero => exact fun _ => ⟨[], rfl, (fun x hx => by cases hx), (fun j p hj => by simp at hj)⟩
   | succ n ih =>
    intro hn
    obtain ⟨xs, hxl, hxw, hxr⟩ := ih (by omega)
    obtain ⟨x, c, h1, h2, h3⟩ := key n (by omega)
    refine ⟨xs ++ [x], by simp [hxl], fun z hz => ?_, fun j p hj => ?_⟩
    ·
     rcases List.mem_append.1 hz with hz | hz
     ·
      exact hxw z hz
     ·
      rw [List.mem_singleton.1 hz]; exact h3
    ·
     rcases Nat.lt_or_ge j xs.length with hjl | hjl
     ·
      rw [List.getElem?_append_left hjl] at hj
      exact hxr j p hj
     ·
      have hj2 : j = n := by
       have := (List.getElem?_eq_some_iff.1 hj).1
       simp at this; omega
      subst hj2
      rw [List.getElem?_append_right hjl, hxl] at hj
      simp at hj
      subst hj
      exact ⟨c, h1, h2⟩
  obtain ⟨xs, hxl, hxw, hxr⟩ := one len (Nat.le_refl _)
  refine ⟨xs, ⟨some a, cap, by rw [hxl], by omega, ?_⟩, by unfold maxLen at hm ⊢; omega, hxw⟩
  refine ⟨rfl, by rw [hxl]; unfold maxLen at hm; omega, fun _ => ⟨a, rfl, fun j p hj => ?_⟩⟩
  obtain ⟨c, h1, h2⟩ := hxr j p hj
  obtain ⟨_, hcl, hcc⟩ := World.cells?_some h1
  refine ⟨c, hcl, h2, fun i u hu => ?_⟩
  have hi : i < d.sz := by rw [← hcl]; exact (List.getElem?_eq_some_iff.1 hu).1
  have := hcc i hi
  rw [Go.Deep.add_add] at this
  rw [this, hu]
/-- A row of fields, one behind the other, from cell o on. -/
def OpnF {α : Type} (P : Program) (fs : List Field) (o : Nat) (d : Kd α) (wf : α → Prop) : Prop :=
 ∀ (H : Type) (enc : TypeId × Value → H) (W : World) (spare : Nat → Bool) (held : Bool) (fuel : Nat) (cs : List Value), o + d.sz ≤ cs.length → (∀ (i : Nat) (f : Field), fs[i]? = some f → ∃ y, DataW.trod enc P W 0 spare held fuel f.type ((cs.drop f.offset).take (P.cellsOf f.type)) = some y) → ∃ x, d.K W x ((cs.drop o).take d.sz) ∧ wf x
theorem opnF_one {α : Type} {P : Program} {f : Field} {o : Nat} {d : Kd α} {wf : α → Prop} (h0 : f.offset = o) (hc : P.cellsOf f.type = d.sz) (he : Opn P f.type d wf) : OpnF P [f] o d wf := by
 intro H enc W spare held fuel cs hl h
 obtain ⟨y, hy⟩ := h 0 f rfl
 rw [h0, hc] at hy
 exact he H enc W spare held fuel _ y hy
theorem opnF_cons {α β : Type} {P : Program} {f : Field} {fs : List Field} {o : Nat} {d : Kd α} {d' : Kd β} {wf : α → Prop} {wf' : β → Prop} (h0 : f.offset = o) (hc : P.cellsOf f.type = d.sz) (he : Opn P f.type d wf) (hr : OpnF P fs (o + d.sz) d' wf') :
  OpnF P (f :: fs) o (Kd.pair d d') (fun x => wf x.1 ∧ wf' x.2) := by
 intro H enc W spare held fuel cs hl h
 have hl' : o + (d.sz + d'.sz) ≤ cs.length := hl
 obtain ⟨y, hy⟩ := h 0 f rfl
 rw [h0, hc] at hy
 obtain ⟨x, hK, hw⟩ := he H enc W spare held fuel _ y hy
 obtain ⟨x', hK', hw'⟩ := hr H enc W spare held fuel cs (by omega) (fun i f' hi => h (i + 1) f' hi)
 refine ⟨(x, x'), ⟨_, _, ?_, hK, hK'⟩, hw, hw'⟩
 show (cs.drop o).take (d.sz + d'.sz) = _
 rw [List.take_add, List.drop_drop]
theorem opn_struct {α β : Type} {P : Program} {t : TypeId} {fs : Array Field} {d : Kd α} {wf : α → Prop} {f : β → α} (g : α → β) (hfg : ∀ x, f (g x) = x) (ht : P.underlying t = some (.struct fs)) (hc : P.cellsOf t = d.sz) (hf : OpnF P fs.toList 0 d wf) : Opn P t (Kd.iso d f) (fun x => wf (f x)) := by
 intro H enc W spare held fuel cs y h
 obtain ⟨xs, n, rfl, _, hl, hxl, hx⟩ := DataW.trod_struct ht h
 rw [hc] at hl
 obtain ⟨x, hK, hw⟩ := hf H enc W spare held n cs (by omega) (fun i f hi => by
  have hi' : fs[i]? = some f := by simpa using hi
  have := hx i f hi'
  have hlt : i < xs.length := by rw [hxl]; exact (Array.getElem?_eq_some_iff.1 hi').1
  rw [List.getElem?_eq_getElem hlt] at this
  exact ⟨_, this⟩)
 refine ⟨g x, ?_, by show wf (f (g x)); rw [hfg]; exact hw⟩
 show d.K W (f (g x)) cs
 rw [hfg]
 rw [List.drop_zero, List.take_of_length_le (by omega)] at hK
 exact hK

theorem opn9 : Opn Try.prog 9 Kd.string (fun x => x.size ≤ maxLen) := opn_string Try.underlying9
theorem opn2 : Opn Try.prog 2 (Kd.int .i64) (fun x => (Lit.int .i64 x).wf = true) := opn_int Try.underlying2
theorem opn143 : Opn Try.prog 143 k143 (fun x : S143 => (fun x => x.size ≤ maxLen) x.f0 ∧ (fun x => (Lit.int .i64 x).wf = true) x.f1) := opn_struct (fun z => (⟨z.1, z.2⟩ : S143)) (fun _ => rfl) Try.underlying143 (by kernel_rfl) (opnF_cons rfl (by kernel_rfl) opn9 (opnF_one rfl (by kernel_rfl) opn2))
theorem opn49 : Opn Try.prog 49 (Kd.slice 143 k143) (fun xs => xs.length ≤ maxLen ∧ ∀ x ∈ xs, (fun x : S143 => (fun x => x.size ≤ maxLen) x.f0 ∧ (fun x => (Lit.int .i64 x).wf = true) x.f1) x) := opn_slice Try.underlying49 (by kernel_rfl) opn143
theorem opn146 : Opn Try.prog 146 k146 (fun x : S146 => (fun x => (Lit.int .i64 x).wf = true) x.f0 ∧ (fun x : S143 => (fun x => x.size ≤ maxLen) x.f0 ∧ (fun x => (Lit.int .i64 x).wf = true) x.f1) x.f1) := opn_struct (fun z => (⟨z.1, z.2⟩ : S146)) (fun _ => rfl) Try.underlying146 (by kernel_rfl) (opnF_cons rfl (by kernel_rfl) opn2 (opnF_one rfl (by kernel_rfl) opn143))
theorem opn50 : Opn Try.prog 50 (Kd.slice 146 k146) (fun xs => xs.length ≤ maxLen ∧ ∀ x ∈ xs, (fun x : S146 => (fun x => (Lit.int .i64 x).wf = true) x.f0 ∧ (fun x : S143 => (fun x => x.size ≤ maxLen) x.f0 ∧ (fun x => (Lit.int .i64 x).wf = true) x.f1) x.f1) x) := opn_slice Try.underlying50 (by kernel_rfl) opn146
set_option maxHeartbeats 4000000 in
set_option maxRecDepth 100000 in
theorem lifted (os : Os) (started : os.Started) (H : Type) (enc : TypeId × Value → H) :
  ReturnsInHanded {} Try.checked os 6 .any (Rows.fnExactApplyChangesSpec.pre6 enc Try.prog Try.f6 Rows.fnExactApplyChangesRow.domain false) (Rows.fnExactApplyChangesSpec.post enc Try.prog Try.f6 false true false false) := by
 refine returnsInHanded_of_change_sized (C := Try.checked) own started (by kernel_rfl) Try.func6
  (ChangeSpec.witness6 (enc := enc) (C := Try.checked) false ⟨#[], #[.slice none 0 0, .slice none 0 0], []⟩ 8 (by kernel_rfl) (by kernel_rfl) (by kernel_rfl) (by kernel_rfl)) ?_
 intro W base args ds gs before hval0 hW hcnd hsz0 _
 have hsz : (DataW.weightsEach Try.prog (Try.f6.params.toList ++ Rows.fnExactApplyChangesSpec.plain.varTypes Try.prog) (ds ++ gs)).all (· ≤ reachBytes) = true := hsz0
 have hval : ∀ (j : Nat) t v, Try.f6.params[j]? = some t → args[j]? = some v → Value.okWide Try.prog W .any base t v := hval0
 have hW' := hW
 obtain ⟨p, q, hA0, hV, rfl, hfz, hnd⟩ := hW
 have hA : DataW.TrodAll enc Try.prog W 0 (fun _ => true) true Try.f6.params.toList args.toList ds p := hA0
 rw [Try.params6] at hA hval hsz
 obtain ⟨v0, vs0, d0, ds0, p0, q0, hargs, rfl, rfl, h0, r0⟩ := trodAll_cons hA
 obtain ⟨v1, vs1, d1, ds1, p1, q1, rfl, rfl, rfl, h1, r1⟩ := trodAll_cons r0
 obtain ⟨rfl, rfl, rfl⟩ := trodAll_nil r1
 obtain rfl : args = #[v0, v1] := by cases args; simp_all
 obtain ⟨rfl, rfl⟩ := trodVars_none hV
 obtain ⟨a0, len0, cap0, rfl⟩ := okWide_slice Try.underlying49 (hval 0 49 v0 rfl rfl)
 have k0 := h0
 have lt0 : ∀ x ∈ p0, x.block < W.heap.size := by obtain ⟨m, hm⟩ := k0; exact DataW.trod_lt m _ _ _ hm
 obtain ⟨fuel0, hf0⟩ := h0
 obtain ⟨l0, hK0, wf0⟩ := opn49 H enc W _ _ _ _ _ hf0
 obtain ⟨A0, c0, he0, hc0, hr0⟩ := hK0
 obtain ⟨rfl, rfl, rfl⟩ : a0 = A0 ∧ len0 = l0.length ∧ cap0 = c0 := by simpa [Value.cells] using he0
 obtain ⟨a1, len1, cap1, rfl⟩ := okWide_slice Try.underlying50 (hval 1 50 v1 rfl rfl)
 have k1 := h1
 have lt1 : ∀ x ∈ p1, x.block < W.heap.size := by obtain ⟨m, hm⟩ := k1; exact DataW.trod_lt m _ _ _ hm
 obtain ⟨fuel1, hf1⟩ := h1
 obtain ⟨l1, hK1, wf1⟩ := opn50 H enc W _ _ _ _ _ hf1
 obtain ⟨A1, c1, he1, hc1, hr1⟩ := hK1
 obtain ⟨rfl, rfl, rfl⟩ : a1 = A1 ∧ len1 = l1.length ∧ cap1 = c1 := by simpa [Value.cells] using he1
 clear hA0 hval0 hsz0 hsz
 refine (LwFnExactApplyChanges.walk a0 cap0 l0 a1 cap1 l1 W wf0 wf1 hr0 hc0 hr1 hc1).mono fun e W' ⟨he, bel⟩ => ?_
 subst he
 exact ⟨_, rfl, _, _, _, [], _, [], hW', trodAll_mk1 (shut_bool Try.underlying4 _), (trodAll_cons_mk (Below.trod laidOut (by kernel_rfl) (of_decide_eq_true (by kernel_rfl)) k0 bel lt0) (trodAll_cons_mk (Below.trod laidOut (by kernel_rfl) (of_decide_eq_true (by kernel_rfl)) k1 bel lt1) trodAll_mk0)), rfl, bel.frame _, fun h => by cases h⟩
set_option maxHeartbeats 4000000 in
theorem over : Rows.fnExactApplyChangesRow.holds Try.pinned (OpenSpec.ofChange Rows.fnExactApplyChangesSpec) :=
 OpenClaim.holds_of_wide 6 Try.f6 rfl rfl rfl rfl rfl rfl rfl ⟨rfl, rfl, rfl, rfl, rfl⟩ rfl rfl rfl rfl rfl (by as_aux_lemma => kernel_rfl) Try.func6 (by as_aux_lemma => kernel_rfl)
  (of_decide_eq_true (by as_aux_lemma => kernel_rfl)) (by as_aux_lemma => unfold Func.isWrapper; first | (rw [if_pos (by decide +kernel)]; kernel_rfl) | (rw [if_neg (by decide +kernel)]; exact ⟨rfl, rfl⟩))
  (fun os started H enc _ => lifted os started H enc)
theorem proved : Rows.FnExactApplyChangesSaid := over
#print axioms proved
end Go.Proofs.Ytobhjkpegcfdfaa.fnExactApplyChanges
namespace Go.Proofs.Ytobhjkpegcfdfaa
/-- The row, under a short name, for the claim. -/
theorem fnExactApplyChanges_holds : Rows.FnExactApplyChangesSaid := fnExactApplyChanges.proved
end Go.Proofs.Ytobhjkpegcfdfaa
