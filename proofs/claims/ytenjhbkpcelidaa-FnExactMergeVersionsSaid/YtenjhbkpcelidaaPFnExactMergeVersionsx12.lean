-- PRINTED by print.py (a twelfth state) out of the translation. Not trusted: Lean checks it.
import Derived.Test.YtenjhbkpcelidaaPFnExactMergeVersionsx0
import Derived.Test.YtenjhbkpcelidaaPFnExactMergeVersionsx11
namespace Go.Proofs.Ytenjhbkpcelidaa.PFnExactMergeVersions
open Go.RowKit Go.Proofs.YtenjhbkpcelidaaW.PrintWords Go.Proofs.YtenjhbkpcelidaaW.PrintLast Go.Proofs.YtenjhbkpcelidaaW.PrintMore
attribute [local go_sem] max2_int min2_int max_two min_two max_three min_three max_four min_four   -- for this text's walks alone
set_option linter.unusedVariables false
set_option linter.unusedSimpArgs false

/-! ### impl_conflictsOf: function 63 -/
theorem bcell_ {W w1 : World} (hb : Below W.heap.size W w1) : (∀ b o, b < W.heap.size → w1.cell? ⟨b, o, none⟩ = W.cell? ⟨b, o, none⟩) ∧ (∀ b o, b < W.heap.size → w1.frozen? ⟨b, o, none⟩ = W.frozen? ⟨b, o, none⟩) :=
 ⟨fun b o h => hb.cell (p := ⟨b, o, none⟩) h, fun b o h => hb.frozen (p := ⟨b, o, none⟩) h⟩

def GivesB (P : Program) (g : Nat) (lb : Array Value) (w0 : World) (x : Value) (b : Bool) : Prop :=
 ∀ W, Below w0.heap.size w0 W → Calls P g (#[x] ++ lb) W fun e w' => e = .returned (.bool b) ∧ Below w0.heap.size w0 w'
def idxF {α : Type} (p : α → Bool) : List α → Nat → Int
 | [], _ => -1
 | x :: xs, n => if p x then n else idxF p xs (n + 1)
theorem idxF_drop_hit {α : Type} (p : α → Bool) (d : α) : ∀ (l : List α) (k n : Nat), k < l.length → (∀ j, j < k → p (l.getD j d) = false) → p (l.getD k d) = true → idxF p l n = ((n + k : Nat) : Int)
 | [], k, n, h, _, _ => absurd h (by simp)
 | x :: xs, 0, n, h, h1, h2 => by simp at h2; simp [idxF, h2]
 | x :: xs, k + 1, n, h, h1, h2 => by
  have h0 := h1 0 (by omega)
  simp at h0
  simp only [idxF, h0]
  have := idxF_drop_hit p d xs k (n + 1) (by simpa using h) (fun j hj => by have := h1 (j + 1) (by omega); simpa using this) (by simpa using h2)
  simp only [Bool.false_eq_true, if_false, this]
  congr 1; omega
theorem idxF_miss {α : Type} (p : α → Bool) (d : α) : ∀ (l : List α) (n : Nat), (∀ j, j < l.length → p (l.getD j d) = false) → idxF p l n = -1
 | [], n, _ => rfl
 | x :: xs, n, h1 => by
  have h0 := h1 0 (by simp)
  simp at h0
  simp only [idxF, h0]
  have := idxF_miss p d xs (n + 1) (fun j hj => by have := h1 (j + 1) (by simpa using hj); simpa using this)
  simpa using this
theorem idxF_any {α : Type} (p : α → Bool) : ∀ (l : List α) (n : Nat), decide (0 ≤ idxF p l n) = l.any p
 | [], n => by simp [idxF]
 | x :: xs, n => by
  unfold idxF
  by_cases h : p x = true
  ·
   simp [h]
  ·
   simp only [Bool.not_eq_true] at h
   simp only [h, Bool.false_eq_true, if_false, List.any_cons, Bool.false_or]
   exact idxF_any p xs (n + 1)

/-- What a predicate that is handed over says of a value, in every world in which what was there stays. -/
def Gives2 (P : Program) (g : Nat) (lb : Array Value) (w0 : World) (x : Value) (b : Bool) : Prop :=
 ∀ W, Below w0.heap.size w0 W → Calls P g (#[x] ++ lb) W fun e w' => e = .returned (.bool b) ∧ Below W.heap.size W w'
theorem Gives2.later {P : Program} {g : Nat} {lb : Array Value} {w0 W : World} {x : Value} {b : Bool} (h : Gives2 P g lb w0 x b) (hb : Below w0.heap.size w0 W) : Gives2 P g lb W x b :=
 fun W2 h2 => h W2 (hb.trans (h2.mono hb.size))

set_option maxHeartbeats 2000000 in
theorem slices_IndexFunc_str (p : ByteArray → Bool) (g : Nat) (lb : Array Value) (eg : ∀ args w, (callFunc g args).run Try.prog w = .ok (.enter g args) w)
  (A : Option Addr) (c : Nat) (l : List ByteArray) (w : World) (hr : Kd.C Kd.string w A l.length l) (hbig : l.length < 9223372036854775807)
  (hp : ∀ x, x ∈ l → Gives2 Try.prog g lb w (.string x) (p x)) :
  Calls Try.prog 117 #[.slice A l.length c, .func (.func g) #[] lb] w fun e w' => e = .returned (.int .i64 (idxF p l 0)) ∧ Below w.heap.size w w' := by
 have HR := Aside0.mk hr
 have HP := Aside0.mk hp
 clear hr hp
 go_enter Try.func117, Try.ntmps117
 go_wp2
 go_loopg [5, 8] l.length (fun gg _ s8 wr => ∃ kk : Nat, kk ≤ l.length ∧ l.length - kk ≤ gg ∧ s8 = .int .i64 kk ∧ Aside0 (Below w.heap.size w wr) ∧ Aside0 (∀ j, j < kk → p (l.getD j ByteArray.empty) = false))
 case atStart => exact ⟨0, Nat.zero_le _, by omega, rfl, ⟨Below.refl _ w⟩, ⟨fun j hj => absurd hj (Nat.not_lt_zero _)⟩⟩
 case round =>
  obtain ⟨kk, hkk, hg, rfl, BW, A0⟩ := hrel
  by_cases hlt : kk < l.length
  ·
   have hltz : (kk : Int) < (l.length : Int) := by omega
   have HR1 := Aside0.mk (Kd.C_below HR.out BW.out)
   obtain ⟨ad, rfl, hx⟩ := Kd.at_string HR1.out (kk : Int) (by omega) hltz
   rw [Int.toNat_natCast] at hx
   have hmem : rdOf ByteArray.empty l (kk : Int) ∈ l := by
    unfold rdOf
    rw [Int.toNat_natCast, List.getD_eq_getElem?_getD, List.getElem?_eq_getElem hlt]
    exact List.getElem_mem _
   have hcall := HP.out _ hmem wr BW.out
   have ey : rdOf ByteArray.empty l (kk : Int) = l.getD kk ByteArray.empty := by unfold rdOf; rw [Int.toNat_natCast]
   generalize rdOf ByteArray.empty l (kk : Int) = y at hx hcall ey
   have B := Aside0.mk ey
   clear ey hmem
   cases hq : p y with
   | true =>
    rw [hq] at hcall
    have HQ := Aside0.mk hq
    clear hq
    go_wp2_with (go_at_fn g; refine hcall.mono ?_; rintro e w' ⟨rfl, hb'⟩)
    go_ret
    refine ⟨?_, BW.out.trans (hb'.mono BW.out.size)⟩
    rw [idxF_drop_hit p ByteArray.empty l kk 0 hlt A0.out (by rw [← B.out]; exact HQ.out), Nat.zero_add]
    rfl
   | false =>
    rw [hq] at hcall
    have HQ := Aside0.mk hq
    clear hq
    go_wp2_with (go_at_fn g; refine hcall.mono ?_; rintro e w' ⟨rfl, hb'⟩)
    go_roundg (l.length - (kk + 1))
    case measure => omega
    case rel =>
     refine ⟨kk + 1, by omega, by omega, by go_num, ⟨BW.out.trans (hb'.mono BW.out.size)⟩, ⟨fun j hj => ?_⟩⟩
     by_cases e : j = kk
     ·
      subst e
      rw [← B.out]; exact HQ.out
     ·
      exact A0.out j (by omega)
  ·
   have hltz : ¬ (kk : Int) < (l.length : Int) := by omega
   have : kk = l.length := by omega
   subst this
   go_wp2
   go_ret
   refine ⟨?_, BW.out⟩
   rw [idxF_miss p ByteArray.empty l 0 A0.out]
   rfl

theorem idxF_split {α : Type} (p : α → Bool) (d : α) : ∀ (l : List α), (idxF p l 0 = -1 ∧ l.filter (fun x => !p x) = l) ∨ ∃ k, k < l.length ∧ idxF p l 0 = (k : Int) ∧ (l.take (k + 1)).filter (fun x => !p x) = l.take k ∧ p (l.getD k d) = true := by
 intro l
 by_cases h : ∃ k, k < l.length ∧ p (l.getD k d) = true
 ·
  obtain ⟨k, hk, hm⟩ : ∃ k, (k < l.length ∧ p (l.getD k d) = true) ∧ ∀ j, j < k → ¬ (j < l.length ∧ p (l.getD j d) = true) := by
   obtain ⟨k0, hk0⟩ := h
   induction k0 using Nat.strongRecOn with
   | ind k0 ih =>
    by_cases h2 : ∃ j, j < k0 ∧ (j < l.length ∧ p (l.getD j d) = true)
    ·
     obtain ⟨j, hj, hj2⟩ := h2
     exact ih j hj hj2
    ·
     exact ⟨k0, hk0, fun j hj h3 => h2 ⟨j, hj, h3⟩⟩
  have hb : ∀ j, j < k → p (l.getD j d) = false := fun j hj => by
   have := hm j hj
   cases hpj : p (l.getD j d) with
   | false => rfl
   | true => exact absurd ⟨by omega, hpj⟩ this
  refine .inr ⟨k, hk.1, ?_, ?_, hk.2⟩
  ·
   rw [idxF_drop_hit p d l k 0 hk.1 hb hk.2, Nat.zero_add]
  ·
   rw [List.take_succ_eq_append_getElem hk.1, List.filter_append]
   have h1 : l[k] = l.getD k d := by rw [List.getD_eq_getElem?_getD, List.getElem?_eq_getElem hk.1]; rfl
   rw [h1, List.filter_cons, hk.2]
   simp only [Bool.not_true, Bool.false_eq_true, if_false, List.filter_nil, List.append_nil]
   rw [List.filter_eq_self]
   intro a ha
   obtain ⟨j, hj, rfl⟩ := List.mem_iff_getElem.1 ha
   rw [List.length_take] at hj
   have h2 := hb j (by omega)
   rw [List.getD_eq_getElem?_getD, List.getElem?_eq_getElem (by omega)] at h2
   simp only [Option.getD_some] at h2
   simp [h2]
 ·
  have hb : ∀ j, j < l.length → p (l.getD j d) = false := fun j hj => by
   cases hpj : p (l.getD j d) with
   | false => rfl
   | true => exact absurd ⟨j, hj, hpj⟩ h
  refine .inl ⟨idxF_miss p d l 0 hb, ?_⟩
  rw [List.filter_eq_self]
  intro a ha
  obtain ⟨j, hj, rfl⟩ := List.mem_iff_getElem.1 ha
  have h2 := hb j hj
  rw [List.getD_eq_getElem?_getD, List.getElem?_eq_getElem hj] at h2
  simp only [Option.getD_some] at h2
  simp [h2]
theorem R_clear_str {e base g n cap : Nat} {ok : Nat → Prop} (z : ByteArray) : ∀ (m i : Nat) (W : World) (xs : List ByteArray), Kd.R Kd.string e W base ok (.slice (some ⟨g, 0, none⟩) n cap) xs → i + m ≤ n →
  ∃ ys, Kd.R Kd.string e (W.setCells g i (List.replicate m (.string z))) base ok (.slice (some ⟨g, 0, none⟩) n cap) ys ∧ ys.take i = xs.take i ∧ ys.length = xs.length ∧ W.grownBy (W.setCells g i (List.replicate m (.string z))) (some g)
 | 0, i, W, xs, h, hi => ⟨xs, h, rfl, rfl, World.grownBy.refl _ _⟩
 | m + 1, i, W, xs, h, hi => by
  obtain ⟨h1, h2⟩ := Kd.R_putg h (i : Int) z
  rw [Int.toNat_natCast] at h1 h2
  obtain ⟨ys, h3, h4, h5, h6⟩ := R_clear_str z m (i + 1) _ _ h1 (by omega)
  refine ⟨ys, h3, ?_, by rw [h5, List.length_set], h2.trans h6⟩
  have h7 := congrArg (List.take i) h4
  rw [List.take_take, List.take_take, Nat.min_eq_left (by omega)] at h7
  rw [h7, List.take_set_of_le (by omega)]
set_option maxHeartbeats 4000000 in
set_option maxRecDepth 100000 in
theorem slices_DeleteFunc_str (p : ByteArray → Bool) (g : Nat) (lb : Array Value) (eg : ∀ args w, (callFunc g args).run Try.prog w = .ok (.enter g args) w)
  (v : Value) (l : List ByteArray) (ok : Nat → Prop) (w0 w : World) (hB : Below w0.heap.size w0 w) (hR : Kd.R Kd.string 9 w w0.heap.size ok v l) (hbig : l.length ≤ 1048576)
  (hp : ∀ x, x ∈ l → Gives2 Try.prog g lb w0 (.string x) (p x)) :
  Calls Try.prog 96 #[v, .func (.func g) #[] lb] w fun e w' => ∃ v', e = .returned v' ∧ Kd.R Kd.string 9 w' w0.heap.size ok v' (l.filter fun x => !p x) ∧ Below w0.heap.size w0 w' := by
 have HR := Aside0.mk hR
 have HP := Aside0.mk hp
 have HB := Aside0.mk hB
 clear hR hp hB
 rcases idxF_split p ByteArray.empty l with ⟨e1, e2⟩ | ⟨k0, hk0, e1, e2, _⟩
 ·
  obtain ⟨A, c, rfl⟩ := Kd.R_slice HR.out
  have hidx := slices_IndexFunc_str p g lb eg A c l w (Kd.R_reads' HR.out).2.2 (by omega) (fun x hx => (HP.out x hx).later HB.out)
  rw [e1] at hidx
  rw [e2]
  clear e1 e2
  go_enter Try.func96, Try.ntmps96
  go_wp2_with (go_at_call 117; refine hidx.mono ?_; rintro e w' ⟨rfl, hb'⟩)
  go_ret
  exact ⟨_, rfl, Kd.R_below HR.out hb', HB.out.trans (hb'.mono HB.out.size)⟩
 ·
  obtain ⟨gb, cap, rfl, gb0, gb1, gb2⟩ := Kd.R_form HR.out (by omega)
  have hidx := slices_IndexFunc_str p g lb eg _ cap l w (Kd.R_reads' HR.out).2.2 (by omega) (fun x hx => (HP.out x hx).later HB.out)
  rw [e1] at hidx
  have hcap : l.length ≤ cap := (Kd.R_reads' HR.out).2.1
  have E2 := Aside0.mk e2
  clear e1 e2 gb1 gb2
  have hk0z : (k0 : Int) < (l.length : Int) := by omega
  have hneq : ((k0 : Int) == -1) = false := beq_eq_false_iff_ne.2 (by omega)
  have GB0 := Aside0.mk gb0
  clear gb0
  go_enter Try.func96, Try.ntmps96
  go_wp2_with (go_at_call 117; refine hidx.mono ?_; rintro e w1 ⟨rfl, hb'⟩)
  have HR1 := Aside0.mk (Kd.R_below HR.out hb')
  have HB1 := Aside0.mk (HB.out.trans (hb'.mono HB.out.size))
  clear HR hidx hb' hneq
  go_loopg [5, 6, 7] l.length (fun gg s5 s6 _ wr => ∃ (i j : Nat) (ys : List ByteArray), i < j ∧ j ≤ l.length ∧ l.length - j ≤ gg ∧ s5 = .int .i64 i ∧ s6 = .int .i64 j ∧ Aside0 (Kd.R Kd.string 9 wr w0.heap.size ok (.slice (some ⟨gb, 0, none⟩) l.length cap) ys) ∧ Aside0 (Below w0.heap.size w0 wr) ∧ Aside0 (ys.length = l.length ∧ ys.take i = (l.take j).filter (fun x => !p x) ∧ ys.drop j = l.drop j))
  case atStart => exact ⟨k0, k0 + 1, l, by omega, by omega, by omega, rfl, by go_num, HR1, HB1, ⟨rfl, E2.out.symm, rfl⟩⟩
  case round =>
   obtain ⟨i, j, ys, hij, hj, hg, rfl, rfl, HRr, HBr, HY⟩ := hrel
   clear HR1 HB1
   by_cases hlt : j < l.length
   ·
    have hltz : (j : Int) < (l.length : Int) := by omega
    have hyl := HY.out.1
    obtain ⟨hx, hxf⟩ := Kd.R_celln ByteArray.empty HRr.out (j : Int) (by omega) (by omega)
    rw [Int.toNat_natCast] at hx hxf
    have ey : rdOf ByteArray.empty ys (j : Int) = l.getD j ByteArray.empty := by
     unfold rdOf
     rw [Int.toNat_natCast]
     have h1 := congrArg (fun z => z.getD 0 ByteArray.empty) HY.out.2.2
     simpa [List.getD_eq_getElem?_getD] using h1
    have hmem : rdOf ByteArray.empty ys (j : Int) ∈ l := by
     rw [ey, List.getD_eq_getElem?_getD, List.getElem?_eq_getElem hlt]
     exact List.getElem_mem _
    have hcall := HP.out _ hmem wr HBr.out
    have hmk : l.take (j + 1) = l.take j ++ [rdOf ByteArray.empty ys (j : Int)] := by
     rw [ey, List.take_succ_eq_append_getElem hlt, List.getD_eq_getElem?_getD, List.getElem?_eq_getElem hlt]
     rfl
    generalize rdOf ByteArray.empty ys (j : Int) = y at hx hcall ey hmk
    have HM := Aside0.mk hmk
    have HE := Aside0.mk ey
    clear hmk ey hmem hxf
    cases hq : p y with
    | true =>
     rw [hq] at hcall
     have HQ := Aside0.mk hq
     clear hq hyl
     go_wp2_with (go_at_fn g; refine hcall.mono ?_; rintro e w2 ⟨rfl, hb2⟩)
     go_roundg (l.length - (j + 1))
     case measure => omega
     case rel =>
      refine ⟨i, j + 1, ys, by omega, by omega, by omega, rfl, by go_num, ⟨Kd.R_below HRr.out hb2⟩, ⟨HBr.out.trans (hb2.mono HBr.out.size)⟩, ⟨HY.out.1, ?_, ?_⟩⟩
      ·
       rw [HM.out, List.filter_append, HY.out.2.1, List.filter_cons, HQ.out]
       simp
      ·
       have h1 := congrArg (List.drop 1) HY.out.2.2
       rw [List.drop_drop, List.drop_drop] at h1
       exact h1
    | false =>
     rw [hq] at hcall
     have HQ := Aside0.mk hq
     clear hq hyl
     go_wp2_with (go_at_fn g; refine hcall.mono ?_; rintro e w2 ⟨rfl, hb2⟩; have HR2 := Aside0.mk (Kd.R_below HRr.out hb2); have hiz : (i : Int) < (l.length : Int) := (by omega); have hxi := Kd.R_celln ByteArray.empty HR2.out (i : Int) (by omega) (by omega); rw [Int.toNat_natCast] at hxi; obtain ⟨hxi1, hxi2⟩ := hxi)
     have hp2 := Kd.R_putg HR2.out (i : Int) y
     rw [Int.toNat_natCast] at hp2
     go_roundg (l.length - (j + 1))
     case measure => omega
     case rel =>
      refine ⟨i + 1, j + 1, ys.set i y, by omega, by omega, by omega, by go_num, by go_num, ⟨hp2.1⟩, ⟨(HBr.out.trans (hb2.mono HBr.out.size)).grown hp2.2 (HBr.out.trans (hb2.mono HBr.out.size)).size (fun k hk => by cases hk; exact GB0.out)⟩, ⟨by rw [List.length_set]; exact HY.out.1, ?_, ?_⟩⟩
      ·
       rw [HM.out, List.filter_append, ← HY.out.2.1, List.filter_cons, HQ.out]
       have hil : i < ys.length := by rw [HY.out.1]; omega
       rw [List.take_succ_eq_append_getElem (by rw [List.length_set]; exact hil), List.getElem_set_self, List.take_set_of_le (Nat.le_refl _)]
       simp
      ·
       rw [List.drop_set_of_lt (by omega)]
       have h1 := congrArg (List.drop 1) HY.out.2.2
       rw [List.drop_drop, List.drop_drop] at h1
       exact h1
   ·
    have hltz : ¬ (j : Int) < (l.length : Int) := by omega
    have : j = l.length := by omega
    subst this
    have hcne : ¬ cap = i := by omega
    have hcf : ∀ W : World, (Instr.slice 37 (.slice (some ⟨gb, 0, none⟩) l.length cap) (some (.int .i64 (i : Int))) none none).run Try.prog W = .ok (.slice (some ⟨gb, i, none⟩) (l.length - i) (cap - i)) W := fun W => by
     obtain ⟨i0, hi0, hz0, hz1, hz2⟩ := info_parts info9
     have h1 := cut_from (P := Try.prog) 37 9 .i64 Try.underlying37 hi0 1 hz1 (some ⟨gb, 0, none⟩) l.length cap (i : Int) (by omega) (by omega) W
     rw [Int.toNat_natCast, if_neg hcne] at h1
     rw [h1]
     by_cases hi0 : i = 0
     ·
      subst hi0; rfl
     ·
      simp [Addr.add, hi0]
    have hcl : ∀ ty, (Builtin.clear_ #[37] ty #[.slice (some ⟨gb, i, none⟩) (l.length - i) (cap - i)]).run Try.prog wr = .ok (.tuple #[]) (wr.setCells gb i (List.replicate (l.length - i) (.string ⟨#[]⟩))) :=
     fun ty => Lib.run_clear_slice wr _ 9 ty (.string ⟨#[]⟩) Try.underlying37 (fun w => by kernel_rfl) rfl rfl gb i _ _ (by omega)
      (fun m hm => by have h1 := (Kd.R_celln ByteArray.empty HRr.out ((i + m : Nat) : Int) (by omega) (by omega)).1; rw [Int.toNat_natCast] at h1; rw [h1]; rfl)
      (fun m hm => by have h1 := (Kd.R_celln ByteArray.empty HRr.out ((i + m : Nat) : Int) (by omega) (by omega)).2; rw [Int.toNat_natCast] at h1; exact h1)
    obtain ⟨zs, hz1, hz2, hz3, hz4⟩ := R_clear_str ⟨#[]⟩ (l.length - i) i wr ys HRr.out (by omega)
    have HZ1 := Aside0.mk hz1
    have HZ2 := Aside0.mk hz2
    have HZ3 := Aside0.mk hz3
    have HZ4 := Aside0.mk hz4
    clear hz1 hz2 hz3 hz4 hcne
    have hiz : (i : Int) ≤ (l.length : Int) := by omega
    go_wp2
    go_ret
    have hf : zs.take i = l.filter (fun x => !p x) := by
     rw [HZ2.out, HY.out.2.1, List.take_length]
    refine ⟨_, rfl, ?_, HBr.out.grown HZ4.out HBr.out.size (fun k hk => by cases hk; exact GB0.out)⟩
    rw [← hf]
    exact Kd.R_take HZ1.out (by rw [HZ3.out, HY.out.1]; omega)

/-- A region in whatever order: what every step keeps holds behind it. -/
theorem wpAny_inv {P : Program} {md : Region.Mode} {ops : Array Oper} {Q : Exit → Act → World → Prop} (I : Array Bool → Act → World → Prop)
  (hstep : ∀ (listed : Array Bool) a w i, I listed a w → i ∈ Region.ready md ops listed → wpOp P ops Q i (fun a' w' => I (listed.setIfInBounds i true) a' w') a w)
  (hend : ∀ listed a w, I listed a w → Region.ready md ops listed = [] → Q .normal a w) :
  ∀ (fuel : Nat) (listed : Array Bool) a w, listed.toList.countP (fun b => !b) ≤ fuel → I listed a w → wpAny P md ops Q fuel listed a w
 | 0, listed, a, w, hc, hI => by
  have hr : Region.ready md ops listed = [] := by
   refine List.eq_nil_iff_forall_not_mem.2 fun i hi => ?_
   obtain ⟨h0, _⟩ := mem_ready.1 hi
   have hlt : i < listed.size := by
    refine Classical.byContradiction fun h => ?_
    rw [Array.getD_eq_getD_getElem?, Array.getElem?_eq_none (by omega)] at h0
    cases h0
   have h1 : listed[i] = false := by
    rw [Array.getD_eq_getD_getElem?, Array.getElem?_eq_getElem hlt] at h0
    exact h0
   have h2 : listed.toList.countP (fun b => !b) = 0 := by omega
   rw [List.countP_eq_zero] at h2
   have h3 := h2 listed[i] (by simp)
   rw [h1] at h3
   exact h3 rfl
  exact ⟨hr, hend listed a w hI hr⟩
 | fuel + 1, listed, a, w, hc, hI => by
  refine ⟨hend listed a w hI, fun i hi => wpOp_mono (fun a' w' h => wpAny_inv I hstep hend fuel _ a' w' ?_ h) (hstep listed a w i hI hi)⟩
  obtain ⟨h0, _⟩ := mem_ready.1 hi
  have hlt : i < listed.size := by
   refine Classical.byContradiction fun h => ?_
   rw [Array.getD_eq_getD_getElem?, Array.getElem?_eq_none (by omega)] at h0
   cases h0
  have h1 : listed[i] = false := by
   rw [Array.getD_eq_getD_getElem?, Array.getElem?_eq_getElem hlt] at h0
   exact h0
  rw [Array.toList_setIfInBounds, List.countP_set (by simpa using hlt)]
  have h4 : listed.toList[i]'(by simpa using hlt) = false := by simpa using h1
  rw [h4]
  have h5 : 0 < listed.toList.countP (fun b => !b) := List.countP_pos_iff.2 ⟨listed[i], by simp, by rw [h1]; rfl⟩
  simp only [Bool.not_false, Bool.not_true, if_true, Bool.false_eq_true, if_false]
  omega
theorem not_ready {md : Region.Mode} {ops : Array Oper} {listed : Array Bool} {i : Nat} {o : Oper} (hr : Region.ready md ops listed = []) (h0 : listed.getD i true = false) (ho : ops[i]? = some o) (he : ∀ e ∈ o.after, Region.binds md e = true → listed.getD e.on false = true) : False := by
 have h := mem_ready.2 ⟨h0, o, ho, he⟩
 rw [hr] at h
 cases h
theorem wpOp_val {P : Program} {ops : Array Oper} {Q : Exit → Act → World → Prop} {i : Nat} {K : Act → World → Prop} {a : Act} {w w' : World} {o : Oper} {v : Value} (hi : ops[i]? = some o) (hw : Region.wanted o (yielded ops a.tmps) = true)
  (hrun : (execOp a.eval o).run P w = .ok (.value v) w') (h : K (a.put o.dst v) w') : wpOp P ops Q i K a w := by
 unfold wpOp
 simp only [hi, hw, if_true, Oper.wp, hrun, Oper.upon]
 exact .inl h
theorem wpOp_skip {P : Program} {ops : Array Oper} {Q : Exit → Act → World → Prop} {i : Nat} {K : Act → World → Prop} {a : Act} {w w' : World} {o : Oper} (hi : ops[i]? = some o) (hw : Region.wanted o (yielded ops a.tmps) = true)
  (hrun : (execOp a.eval o).run P w = .ok .skip w') (h : K (a.put o.dst undef) w') : wpOp P ops Q i K a w := by
 unfold wpOp
 simp only [hi, hw, if_true, Oper.wp, hrun, Oper.upon]
 exact .inl h
theorem wpOp_call {P : Program} {ops : Array Oper} {Q : Exit → Act → World → Prop} {i : Nat} {K : Act → World → Prop} {a : Act} {w : World} {o : Oper} {f : FuncId} {args : Array Value} {v : Value} {R : World → Prop} (hi : ops[i]? = some o) (hw : Region.wanted o (yielded ops a.tmps) = true)
  (hrun : (execOp a.eval o).run P w = .ok (.enter f args) w) (hc : Calls P f args w fun e w' => e = .returned v ∧ R w') (h : ∀ w', R w' → K (a.put o.dst v) w') : wpOp P ops Q i K a w := by
 unfold wpOp
 simp only [hi, hw, if_true, Oper.wp, hrun, Oper.upon]
 refine .inl (hc.mono ?_)
 rintro e w' ⟨rfl, hR⟩
 exact h w' hR
def czT (b : Bool) (u : Int) (v : Bool) : Array Value := if b then #[.int .i64 u, .bool v] else #[.int .i64 0, .bool false]

theorem eqC_thing (d : Nat) (w : World) (x0 y0 : Int) (x1 y1 : Bool) :
  (Op.equalIn (d + 2) 93 (.agg #[.int .i64 x0, .bool x1]) (.agg #[.int .i64 y0, .bool y1])).run Try.prog w = .ok (x0 == y0 && (x1 == y1)) w := by
 refine eqA_of Try.underlying93 (by kernel_rfl) ?_
 refine eqf_cons (by rfl) (by go_simp; rfl) (by go_simp; rfl) (by go_simp) ?_
 exact eqf_last (by rfl) (by go_simp; rfl) (by go_simp; rfl) (by go_simp)
def sameT (x y : Int × Bool) : Bool := x.1 == y.1 && (x.2 == y.2)
def keepT (x y z : Int × Bool) : Bool := sameT y z || (sameT y x || sameT z x)
attribute [local go_sem high] eqC_thing in
set_option maxHeartbeats 8000000 in
theorem conflictsOf_1 (k : Nat) (w : World) (B1 B2 B3 : Nat) (A0 : Option Addr) (c0 : Nat) (l0 : List S71) (A1 : Option Addr) (c1 : Nat) (l1 : List S71) (A2 : Option Addr) (c2 : Nat) (l2 : List S71)
  (b1 : B1 < w.heap.size) (b2 : B2 < w.heap.size) (b3 : B3 < w.heap.size) (h1 : w.cell? ⟨B1, 0, none⟩ = some (.slice A0 l0.length c0)) (h2 : w.cell? ⟨B2, 0, none⟩ = some (.slice A1 l1.length c1)) (h3 : w.cell? ⟨B3, 0, none⟩ = some (.slice A2 l2.length c2))
  (hr0 : Kd.C k71 w A0 l0.length l0) (hc0 : l0.length ≤ c0) (hr1 : Kd.C k71 w A1 l1.length l1) (hc1 : l1.length ≤ c1) (hr2 : Kd.C k71 w A2 l2.length l2) (hc2 : l2.length ≤ c2)
  (a : ByteArray) (x0 : Int) (x1 : Bool) (y0 : Int) (y1 : Bool) (z0 : Int) (z1 : Bool) (t0 : impl_thingAt.f k l0 a = some (x0, x1)) (t1 : impl_thingAt.f k l1 a = some (y0, y1)) (t2 : impl_thingAt.f k l2 a = some (z0, z1)) :
  Gives2 Try.prog 97 #[.pointer (some ⟨B1, 0, none⟩), .pointer (some ⟨B2, 0, none⟩), .pointer (some ⟨B3, 0, none⟩)] w (.string a) (keepT (x0, x1) (y0, y1) (z0, z1)) := fun W hbel => by
 have g1 : W.cell? ⟨B1, 0, none⟩ = some (.slice A0 l0.length c0) := (hbel.cell (p := ⟨B1, 0, none⟩) b1).trans h1
 have g2 : W.cell? ⟨B2, 0, none⟩ = some (.slice A1 l1.length c1) := (hbel.cell (p := ⟨B2, 0, none⟩) b2).trans h2
 have g3 : W.cell? ⟨B3, 0, none⟩ = some (.slice A2 l2.length c2) := (hbel.cell (p := ⟨B3, 0, none⟩) b3).trans h3
 have e1 : B1 < W.heap.size := Nat.lt_of_lt_of_le b1 hbel.size
 have e2 : B2 < W.heap.size := Nat.lt_of_lt_of_le b2 hbel.size
 have e3 : B3 < W.heap.size := Nat.lt_of_lt_of_le b3 hbel.size
 have q0 := fun (V : World) (hV : Below w.heap.size w V) => impl_thingAt.calls k A0 c0 l0 a x0 x1 V (Kd.C_below hr0 hV) hc0 t0
 have q1 := fun (V : World) (hV : Below w.heap.size w V) => impl_thingAt.calls k A1 c1 l1 a y0 y1 V (Kd.C_below hr1 hV) hc1 t1
 have q2 := fun (V : World) (hV : Below w.heap.size w V) => impl_thingAt.calls k A2 c2 l2 a z0 z1 V (Kd.C_below hr2 hV) hc2 t2
 have HB := Aside0.mk hbel
 have G1 := Aside0.mk g1
 have G2 := Aside0.mk g2
 have G3 := Aside0.mk g3
 clear h1 h2 h3 hr0 hr1 hr2 t0 t1 t2 hbel b1 b2 b3 g1 g2 g3
 go_enter Try.func97, Try.ntmps97
 go_wp2
 refine wp_region_any (by kernel_rfl) ?_
 refine wpAny_inv (fun listed act V => ∃ (b0 b1 b2 b3 b4 b5 b6 b7 b8 b9 b10 b11 b12 b13 b14 : Bool) (t6 t7 t8 t9 t10 t11 t12 t13 t14 t15 t16 t17 : Value) (n0 n1 n2 : Nat), listed = #[b0, b1, b2, b3, b4, b5, b6, b7, b8, b9, b10, b11, b12, b13, b14] ∧ act = { tmps := #[.string a, .pointer (some ⟨B1, 0, none⟩), .pointer (some ⟨B2, 0, none⟩), .pointer (some ⟨B3, 0, none⟩), undef, .bool false, t6, t7, t8, t9, t10, t11, t12, t13, t14, t15, t16, t17, undef, undef, undef, undef, undef, undef, undef, undef, undef, undef, undef, undef, undef], defers := [] } ∧ (Below W.heap.size W V) ∧ (b0 = true → t9 = (Value.slice A0 l0.length c0)) ∧ (b1 = true → t10 = (Value.string a)) ∧ (b2 = true → t11 = (Value.agg #[.int .i64 x0, .bool x1])) ∧ (b3 = true → t12 = (Value.slice A1 l1.length c1)) ∧ (b4 = true → t13 = (Value.string a)) ∧ (b5 = true → t14 = (Value.agg #[.int .i64 y0, .bool y1])) ∧ (b6 = true → t15 = (Value.slice A2 l2.length c2)) ∧ (b7 = true → t16 = (Value.string a)) ∧ (b8 = true → t17 = (Value.agg #[.int .i64 z0, .bool z1])) ∧ (b9 = true → t6 = .pointer (some ⟨n0, 0, none⟩) ∧ W.heap.size ≤ n0 ∧ V.heap[n0]? = some (.cells (czT b12 x0 x1) 93 (0, 0))) ∧ (b10 = true → t7 = .pointer (some ⟨n1, 0, none⟩) ∧ W.heap.size ≤ n1 ∧ V.heap[n1]? = some (.cells (czT b13 y0 y1) 93 (0, 0))) ∧ (b11 = true → t8 = .pointer (some ⟨n2, 0, none⟩) ∧ W.heap.size ≤ n2 ∧ V.heap[n2]? = some (.cells (czT b14 z0 z1) 93 (0, 0))) ∧ (b9 = true → b10 = true → n0 ≠ n1) ∧ (b9 = true → b11 = true → n0 ≠ n2) ∧ (b10 = true → b11 = true → n1 ≠ n2) ∧ (b12 = true → b9 = true) ∧ (b13 = true → b10 = true) ∧ (b14 = true → b11 = true)) ?hstep ?hend _ _ _ _ (by decide) ?hI
 case hI => exact ⟨false, false, false, false, false, false, false, false, false, false, false, false, false, false, false, undef, undef, undef, undef, undef, undef, undef, undef, undef, undef, undef, undef, 0, 0, 0, rfl, rfl, below_drew1 (Below.refl _ _), (fun h => by cases h), (fun h => by cases h), (fun h => by cases h), (fun h => by cases h), (fun h => by cases h), (fun h => by cases h), (fun h => by cases h), (fun h => by cases h), (fun h => by cases h), (fun h => by cases h), (fun h => by cases h), (fun h => by cases h), (fun h => by cases h), (fun h => by cases h), (fun h => by cases h), (fun h => by cases h), (fun h => by cases h), (fun h => by cases h)⟩
 case hstep =>
  rintro listed act V i ⟨b0, b1, b2, b3, b4, b5, b6, b7, b8, b9, b10, b11, b12, b13, b14, t6, t7, t8, t9, t10, t11, t12, t13, t14, t15, t16, t17, n0, n1, n2, rfl, rfl, HW, v0, v1, v2, v3, v4, v5, v6, v7, v8, k0, k1, k2, d1, d2, d3, m0, m1, m2⟩ hi
  have hi2 := mem_ready.1 hi
  clear hi
  obtain ⟨hl, o, ho, he⟩ := hi2
  have hlt : i < 15 := by
   refine Classical.byContradiction fun h => ?_
   rw [Array.getD_eq_getD_getElem?, Array.getElem?_eq_none (by simp; omega)] at hl
   cases hl
  have hw0 := Aside0.mk HW
  match i, hlt, hl, ho with
  | 0, _, hl, ho =>
   have hb : b0 = false := hl
   obtain rfl := hb
   obtain rfl := Option.some.inj ho
   have g := (HW.cell (p := ⟨B1, 0, none⟩) e1).trans G1.out
   refine wpOp_val (v := (Value.slice A0 l0.length c0)) (w' := V) rfl rfl (by first | (go_simp; done) | (go_simp; rfl)) ?_
   exact ⟨true, b1, b2, b3, b4, b5, b6, b7, b8, b9, b10, b11, b12, b13, b14, t6, t7, t8, (Value.slice A0 l0.length c0), t10, t11, t12, t13, t14, t15, t16, t17, n0, n1, n2, rfl, rfl, HW, fun _ => rfl, v1, v2, v3, v4, v5, v6, v7, v8, k0, k1, k2, d1, d2, d3, m0, m1, m2⟩
  | 1, _, hl, ho =>
   have hb : b1 = false := hl
   obtain rfl := hb
   obtain rfl := Option.some.inj ho
   refine wpOp_val (v := (Value.string a)) (w' := V) rfl rfl (by first | (go_simp; done) | (go_simp; rfl)) ?_
   exact ⟨b0, true, b2, b3, b4, b5, b6, b7, b8, b9, b10, b11, b12, b13, b14, t6, t7, t8, t9, (Value.string a), t11, t12, t13, t14, t15, t16, t17, n0, n1, n2, rfl, rfl, HW, v0, fun _ => rfl, v2, v3, v4, v5, v6, v7, v8, k0, k1, k2, d1, d2, d3, m0, m1, m2⟩
  | 2, _, hl, ho =>
   have hb : b2 = false := hl
   obtain rfl := hb
   obtain rfl := Option.some.inj ho
   have ed0 : b0 = true := he ⟨0, .data⟩ (by simp) rfl
   have ed1 : b1 = true := he ⟨1, .data⟩ (by simp) rfl
   obtain rfl := v0 ed0
   obtain rfl := v1 ed1
   refine wpOp_call (v := (Value.agg #[.int .i64 x0, .bool x1])) (f := 66) (args := #[(Value.slice A0 l0.length c0), .string a]) (R := fun w' => Below V.heap.size V w') rfl rfl (by first | (go_simp; done) | (go_simp; rfl)) (q0 V (HB.out.trans (HW.mono HB.out.size))) (fun V2 hb2 => ?_)
   exact ⟨b0, b1, true, b3, b4, b5, b6, b7, b8, b9, b10, b11, b12, b13, b14, t6, t7, t8, (Value.slice A0 l0.length c0), (Value.string a), (Value.agg #[.int .i64 x0, .bool x1]), t12, t13, t14, t15, t16, t17, n0, n1, n2, rfl, rfl, below_step HW hb2, fun _ => rfl, fun _ => rfl, fun _ => rfl, v3, v4, v5, v6, v7, v8, fun h => ⟨(k0 h).1, (k0 h).2.1, blk_below (k0 h).2.2 hb2⟩, fun h => ⟨(k1 h).1, (k1 h).2.1, blk_below (k1 h).2.2 hb2⟩, fun h => ⟨(k2 h).1, (k2 h).2.1, blk_below (k2 h).2.2 hb2⟩, d1, d2, d3, m0, m1, m2⟩
  | 3, _, hl, ho =>
   have hb : b3 = false := hl
   obtain rfl := hb
   obtain rfl := Option.some.inj ho
   have g := (HW.cell (p := ⟨B2, 0, none⟩) e2).trans G2.out
   refine wpOp_val (v := (Value.slice A1 l1.length c1)) (w' := V) rfl rfl (by first | (go_simp; done) | (go_simp; rfl)) ?_
   exact ⟨b0, b1, b2, true, b4, b5, b6, b7, b8, b9, b10, b11, b12, b13, b14, t6, t7, t8, t9, t10, t11, (Value.slice A1 l1.length c1), t13, t14, t15, t16, t17, n0, n1, n2, rfl, rfl, HW, v0, v1, v2, fun _ => rfl, v4, v5, v6, v7, v8, k0, k1, k2, d1, d2, d3, m0, m1, m2⟩
  | 4, _, hl, ho =>
   have hb : b4 = false := hl
   obtain rfl := hb
   obtain rfl := Option.some.inj ho
   refine wpOp_val (v := (Value.string a)) (w' := V) rfl rfl (by first | (go_simp; done) | (go_simp; rfl)) ?_
   exact ⟨b0, b1, b2, b3, true, b5, b6, b7, b8, b9, b10, b11, b12, b13, b14, t6, t7, t8, t9, t10, t11, t12, (Value.string a), t14, t15, t16, t17, n0, n1, n2, rfl, rfl, HW, v0, v1, v2, v3, fun _ => rfl, v5, v6, v7, v8, k0, k1, k2, d1, d2, d3, m0, m1, m2⟩
  | 5, _, hl, ho =>
   have hb : b5 = false := hl
   obtain rfl := hb
   obtain rfl := Option.some.inj ho
   have ed3 : b3 = true := he ⟨3, .data⟩ (by simp) rfl
   have ed4 : b4 = true := he ⟨4, .data⟩ (by simp) rfl
   have ed2 : b2 = true := he ⟨2, .chain⟩ (by simp) rfl
   obtain rfl := v3 ed3
   obtain rfl := v4 ed4
   refine wpOp_call (v := (Value.agg #[.int .i64 y0, .bool y1])) (f := 66) (args := #[(Value.slice A1 l1.length c1), .string a]) (R := fun w' => Below V.heap.size V w') rfl rfl (by first | (go_simp; done) | (go_simp; rfl)) (q1 V (HB.out.trans (HW.mono HB.out.size))) (fun V2 hb2 => ?_)
   exact ⟨b0, b1, b2, b3, b4, true, b6, b7, b8, b9, b10, b11, b12, b13, b14, t6, t7, t8, t9, t10, t11, (Value.slice A1 l1.length c1), (Value.string a), (Value.agg #[.int .i64 y0, .bool y1]), t15, t16, t17, n0, n1, n2, rfl, rfl, below_step HW hb2, v0, v1, v2, fun _ => rfl, fun _ => rfl, fun _ => rfl, v6, v7, v8, fun h => ⟨(k0 h).1, (k0 h).2.1, blk_below (k0 h).2.2 hb2⟩, fun h => ⟨(k1 h).1, (k1 h).2.1, blk_below (k1 h).2.2 hb2⟩, fun h => ⟨(k2 h).1, (k2 h).2.1, blk_below (k2 h).2.2 hb2⟩, d1, d2, d3, m0, m1, m2⟩
  | 6, _, hl, ho =>
   have hb : b6 = false := hl
   obtain rfl := hb
   obtain rfl := Option.some.inj ho
   have g := (HW.cell (p := ⟨B3, 0, none⟩) e3).trans G3.out
   refine wpOp_val (v := (Value.slice A2 l2.length c2)) (w' := V) rfl rfl (by first | (go_simp; done) | (go_simp; rfl)) ?_
   exact ⟨b0, b1, b2, b3, b4, b5, true, b7, b8, b9, b10, b11, b12, b13, b14, t6, t7, t8, t9, t10, t11, t12, t13, t14, (Value.slice A2 l2.length c2), t16, t17, n0, n1, n2, rfl, rfl, HW, v0, v1, v2, v3, v4, v5, fun _ => rfl, v7, v8, k0, k1, k2, d1, d2, d3, m0, m1, m2⟩
  | 7, _, hl, ho =>
   have hb : b7 = false := hl
   obtain rfl := hb
   obtain rfl := Option.some.inj ho
   refine wpOp_val (v := (Value.string a)) (w' := V) rfl rfl (by first | (go_simp; done) | (go_simp; rfl)) ?_
   exact ⟨b0, b1, b2, b3, b4, b5, b6, true, b8, b9, b10, b11, b12, b13, b14, t6, t7, t8, t9, t10, t11, t12, t13, t14, t15, (Value.string a), t17, n0, n1, n2, rfl, rfl, HW, v0, v1, v2, v3, v4, v5, v6, fun _ => rfl, v8, k0, k1, k2, d1, d2, d3, m0, m1, m2⟩
  | 8, _, hl, ho =>
   have hb : b8 = false := hl
   obtain rfl := hb
   obtain rfl := Option.some.inj ho
   have ed6 : b6 = true := he ⟨6, .data⟩ (by simp) rfl
   have ed7 : b7 = true := he ⟨7, .data⟩ (by simp) rfl
   have ed5 : b5 = true := he ⟨5, .chain⟩ (by simp) rfl
   obtain rfl := v6 ed6
   obtain rfl := v7 ed7
   refine wpOp_call (v := (Value.agg #[.int .i64 z0, .bool z1])) (f := 66) (args := #[(Value.slice A2 l2.length c2), .string a]) (R := fun w' => Below V.heap.size V w') rfl rfl (by first | (go_simp; done) | (go_simp; rfl)) (q2 V (HB.out.trans (HW.mono HB.out.size))) (fun V2 hb2 => ?_)
   exact ⟨b0, b1, b2, b3, b4, b5, b6, b7, true, b9, b10, b11, b12, b13, b14, t6, t7, t8, t9, t10, t11, t12, t13, t14, (Value.slice A2 l2.length c2), (Value.string a), (Value.agg #[.int .i64 z0, .bool z1]), n0, n1, n2, rfl, rfl, below_step HW hb2, v0, v1, v2, v3, v4, v5, fun _ => rfl, fun _ => rfl, fun _ => rfl, fun h => ⟨(k0 h).1, (k0 h).2.1, blk_below (k0 h).2.2 hb2⟩, fun h => ⟨(k1 h).1, (k1 h).2.1, blk_below (k1 h).2.2 hb2⟩, fun h => ⟨(k2 h).1, (k2 h).2.1, blk_below (k2 h).2.2 hb2⟩, d1, d2, d3, m0, m1, m2⟩
  | 9, _, hl, ho =>
   have hb : b9 = false := hl
   obtain rfl := hb
   obtain rfl := Option.some.inj ho
   have mb : b12 = false := by cases hq : b12 with | false => rfl | true => exact absurd (m0 hq) (by simp)
   obtain rfl := mb
   refine wpOp_val (v := .pointer (some ⟨V.heap.size, 0, none⟩)) (w' := V.alloc (.cells #[.int .i64 0, .bool false] 93 (0, 0))) rfl rfl (by first | (go_simp; done) | (go_simp; rfl)) ?_
   exact ⟨b0, b1, b2, b3, b4, b5, b6, b7, b8, true, b10, b11, false, b13, b14, .pointer (some ⟨V.heap.size, 0, none⟩), t7, t8, t9, t10, t11, t12, t13, t14, t15, t16, t17, V.heap.size, n1, n2, rfl, rfl, below_alloc HW _, v0, v1, v2, v3, v4, v5, v6, v7, v8, fun _ => ⟨rfl, HW.size, blk_new V _⟩, fun h => ⟨(k1 h).1, (k1 h).2.1, blk_alloc (k1 h).2.2 _⟩, fun h => ⟨(k2 h).1, (k2 h).2.1, blk_alloc (k2 h).2.2 _⟩, fun _ h => Nat.ne_of_gt (blk_lt (k1 h).2.2), fun _ h => Nat.ne_of_gt (blk_lt (k2 h).2.2), d3, fun _ => rfl, m1, m2⟩
  | 10, _, hl, ho =>
   have hb : b10 = false := hl
   obtain rfl := hb
   obtain rfl := Option.some.inj ho
   have mb : b13 = false := by cases hq : b13 with | false => rfl | true => exact absurd (m1 hq) (by simp)
   obtain rfl := mb
   refine wpOp_val (v := .pointer (some ⟨V.heap.size, 0, none⟩)) (w' := V.alloc (.cells #[.int .i64 0, .bool false] 93 (0, 0))) rfl rfl (by first | (go_simp; done) | (go_simp; rfl)) ?_
   exact ⟨b0, b1, b2, b3, b4, b5, b6, b7, b8, b9, true, b11, b12, false, b14, t6, .pointer (some ⟨V.heap.size, 0, none⟩), t8, t9, t10, t11, t12, t13, t14, t15, t16, t17, n0, V.heap.size, n2, rfl, rfl, below_alloc HW _, v0, v1, v2, v3, v4, v5, v6, v7, v8, fun h => ⟨(k0 h).1, (k0 h).2.1, blk_alloc (k0 h).2.2 _⟩, fun _ => ⟨rfl, HW.size, blk_new V _⟩, fun h => ⟨(k2 h).1, (k2 h).2.1, blk_alloc (k2 h).2.2 _⟩, fun h _ => Nat.ne_of_lt (blk_lt (k0 h).2.2), d2, fun _ h => Nat.ne_of_gt (blk_lt (k2 h).2.2), m0, fun _ => rfl, m2⟩
  | 11, _, hl, ho =>
   have hb : b11 = false := hl
   obtain rfl := hb
   obtain rfl := Option.some.inj ho
   have mb : b14 = false := by cases hq : b14 with | false => rfl | true => exact absurd (m2 hq) (by simp)
   obtain rfl := mb
   refine wpOp_val (v := .pointer (some ⟨V.heap.size, 0, none⟩)) (w' := V.alloc (.cells #[.int .i64 0, .bool false] 93 (0, 0))) rfl rfl (by first | (go_simp; done) | (go_simp; rfl)) ?_
   exact ⟨b0, b1, b2, b3, b4, b5, b6, b7, b8, b9, b10, true, b12, b13, false, t6, t7, .pointer (some ⟨V.heap.size, 0, none⟩), t9, t10, t11, t12, t13, t14, t15, t16, t17, n0, n1, V.heap.size, rfl, rfl, below_alloc HW _, v0, v1, v2, v3, v4, v5, v6, v7, v8, fun h => ⟨(k0 h).1, (k0 h).2.1, blk_alloc (k0 h).2.2 _⟩, fun h => ⟨(k1 h).1, (k1 h).2.1, blk_alloc (k1 h).2.2 _⟩, fun _ => ⟨rfl, HW.size, blk_new V _⟩, d1, fun h _ => Nat.ne_of_lt (blk_lt (k0 h).2.2), fun h _ => Nat.ne_of_lt (blk_lt (k1 h).2.2), m0, m1, fun _ => rfl⟩
  | 12, _, hl, ho =>
   have hb : b12 = false := hl
   obtain rfl := hb
   obtain rfl := Option.some.inj ho
   have ed9 : b9 = true := he ⟨9, .data⟩ (by simp) rfl
   have ed2 : b2 = true := he ⟨2, .data⟩ (by simp) rfl
   obtain ⟨p1, p2, p3⟩ := k0 ed9
   subst p1
   obtain rfl := v2 ed2
   replace p3 : V.heap[n0]? = some (.cells #[.int .i64 0, .bool false] 93 (0, 0)) := p3
   have f0 := (blk_frozen p3 0)
   have f1 := (blk_frozen p3 1)
   have g0 : V.cell? ⟨n0, 0, none⟩ = some (.int .i64 0) := blk_cell p3 0
   have g1 : V.cell? ⟨n0, 1, none⟩ = some (.bool false) := blk_cell p3 1
   refine wpOp_skip (w' := (V.setCell ⟨n0, 0, none⟩ (.int .i64 x0)).setCell ⟨n0, 1, none⟩ (.bool x1)) rfl rfl (by first | (go_simp; done) | (go_simp; rfl)) ?_
   have p4 := blk_put (blk_put p3 0 (.int .i64 x0) (cs' := #[.int .i64 x0, .bool false]) rfl) 1 (.bool x1) (cs' := #[.int .i64 x0, .bool x1]) rfl
   exact ⟨b0, b1, b2, b3, b4, b5, b6, b7, b8, b9, b10, b11, true, b13, b14, .pointer (some ⟨n0, 0, none⟩), t7, t8, t9, t10, (Value.agg #[.int .i64 x0, .bool x1]), t12, t13, t14, t15, t16, t17, n0, n1, n2, rfl, rfl, (HW.setCell (p := ⟨n0, 0, none⟩) p2 _).setCell (p := ⟨n0, 1, none⟩) p2 _, v0, v1, fun _ => rfl, v3, v4, v5, v6, v7, v8, fun _ => ⟨rfl, p2, p4⟩, fun h => ⟨(k1 h).1, (k1 h).2.1, blk_far (blk_far (k1 h).2.2 (p := ⟨n0, 0, none⟩) (fun e => d1 ed9 h e.symm) _) (p := ⟨n0, 1, none⟩) (fun e => d1 ed9 h e.symm) _⟩, fun h => ⟨(k2 h).1, (k2 h).2.1, blk_far (blk_far (k2 h).2.2 (p := ⟨n0, 0, none⟩) (fun e => d2 ed9 h e.symm) _) (p := ⟨n0, 1, none⟩) (fun e => d2 ed9 h e.symm) _⟩, d1, d2, d3, fun _ => ed9, m1, m2⟩
  | 13, _, hl, ho =>
   have hb : b13 = false := hl
   obtain rfl := hb
   obtain rfl := Option.some.inj ho
   have ed10 : b10 = true := he ⟨10, .data⟩ (by simp) rfl
   have ed5 : b5 = true := he ⟨5, .data⟩ (by simp) rfl
   have ed12 : b12 = true := he ⟨12, .chain⟩ (by simp) rfl
   obtain ⟨p1, p2, p3⟩ := k1 ed10
   subst p1
   obtain rfl := v5 ed5
   replace p3 : V.heap[n1]? = some (.cells #[.int .i64 0, .bool false] 93 (0, 0)) := p3
   have f0 := (blk_frozen p3 0)
   have f1 := (blk_frozen p3 1)
   have g0 : V.cell? ⟨n1, 0, none⟩ = some (.int .i64 0) := blk_cell p3 0
   have g1 : V.cell? ⟨n1, 1, none⟩ = some (.bool false) := blk_cell p3 1
   refine wpOp_skip (w' := (V.setCell ⟨n1, 0, none⟩ (.int .i64 y0)).setCell ⟨n1, 1, none⟩ (.bool y1)) rfl rfl (by first | (go_simp; done) | (go_simp; rfl)) ?_
   have p4 := blk_put (blk_put p3 0 (.int .i64 y0) (cs' := #[.int .i64 y0, .bool false]) rfl) 1 (.bool y1) (cs' := #[.int .i64 y0, .bool y1]) rfl
   exact ⟨b0, b1, b2, b3, b4, b5, b6, b7, b8, b9, b10, b11, b12, true, b14, t6, .pointer (some ⟨n1, 0, none⟩), t8, t9, t10, t11, t12, t13, (Value.agg #[.int .i64 y0, .bool y1]), t15, t16, t17, n0, n1, n2, rfl, rfl, (HW.setCell (p := ⟨n1, 0, none⟩) p2 _).setCell (p := ⟨n1, 1, none⟩) p2 _, v0, v1, v2, v3, v4, fun _ => rfl, v6, v7, v8, fun h => ⟨(k0 h).1, (k0 h).2.1, blk_far (blk_far (k0 h).2.2 (p := ⟨n1, 0, none⟩) (d1 h ed10) _) (p := ⟨n1, 1, none⟩) (d1 h ed10) _⟩, fun _ => ⟨rfl, p2, p4⟩, fun h => ⟨(k2 h).1, (k2 h).2.1, blk_far (blk_far (k2 h).2.2 (p := ⟨n1, 0, none⟩) (fun e => d3 ed10 h e.symm) _) (p := ⟨n1, 1, none⟩) (fun e => d3 ed10 h e.symm) _⟩, d1, d2, d3, m0, fun _ => ed10, m2⟩
  | 14, _, hl, ho =>
   have hb : b14 = false := hl
   obtain rfl := hb
   obtain rfl := Option.some.inj ho
   have ed11 : b11 = true := he ⟨11, .data⟩ (by simp) rfl
   have ed8 : b8 = true := he ⟨8, .data⟩ (by simp) rfl
   have ed13 : b13 = true := he ⟨13, .chain⟩ (by simp) rfl
   obtain ⟨p1, p2, p3⟩ := k2 ed11
   subst p1
   obtain rfl := v8 ed8
   replace p3 : V.heap[n2]? = some (.cells #[.int .i64 0, .bool false] 93 (0, 0)) := p3
   have f0 := (blk_frozen p3 0)
   have f1 := (blk_frozen p3 1)
   have g0 : V.cell? ⟨n2, 0, none⟩ = some (.int .i64 0) := blk_cell p3 0
   have g1 : V.cell? ⟨n2, 1, none⟩ = some (.bool false) := blk_cell p3 1
   refine wpOp_skip (w' := (V.setCell ⟨n2, 0, none⟩ (.int .i64 z0)).setCell ⟨n2, 1, none⟩ (.bool z1)) rfl rfl (by first | (go_simp; done) | (go_simp; rfl)) ?_
   have p4 := blk_put (blk_put p3 0 (.int .i64 z0) (cs' := #[.int .i64 z0, .bool false]) rfl) 1 (.bool z1) (cs' := #[.int .i64 z0, .bool z1]) rfl
   exact ⟨b0, b1, b2, b3, b4, b5, b6, b7, b8, b9, b10, b11, b12, b13, true, t6, t7, .pointer (some ⟨n2, 0, none⟩), t9, t10, t11, t12, t13, t14, t15, t16, (Value.agg #[.int .i64 z0, .bool z1]), n0, n1, n2, rfl, rfl, (HW.setCell (p := ⟨n2, 0, none⟩) p2 _).setCell (p := ⟨n2, 1, none⟩) p2 _, v0, v1, v2, v3, v4, v5, v6, v7, fun _ => rfl, fun h => ⟨(k0 h).1, (k0 h).2.1, blk_far (blk_far (k0 h).2.2 (p := ⟨n2, 0, none⟩) (d2 h ed11) _) (p := ⟨n2, 1, none⟩) (d2 h ed11) _⟩, fun h => ⟨(k1 h).1, (k1 h).2.1, blk_far (blk_far (k1 h).2.2 (p := ⟨n2, 0, none⟩) (d3 h ed11) _) (p := ⟨n2, 1, none⟩) (d3 h ed11) _⟩, fun _ => ⟨rfl, p2, p4⟩, d1, d2, d3, m0, m1, fun _ => ed11⟩
  | i + 15, hlt, _, _ => omega
 case hend =>
  rintro listed act V ⟨b0, b1, b2, b3, b4, b5, b6, b7, b8, b9, b10, b11, b12, b13, b14, t6, t7, t8, t9, t10, t11, t12, t13, t14, t15, t16, t17, n0, n1, n2, rfl, rfl, HW, v0, v1, v2, v3, v4, v5, v6, v7, v8, k0, k1, k2, d1, d2, d3, m0, m1, m2⟩ hr
  obtain rfl : b0 = true := by
   cases hq : b0 with
   | true => rfl
   | false =>
    subst hq
    refine (not_ready (i := 0) hr rfl rfl ?_).elim
    intro e he _
    simp at he
  obtain rfl : b1 = true := by
   cases hq : b1 with
   | true => rfl
   | false =>
    subst hq
    refine (not_ready (i := 1) hr rfl rfl ?_).elim
    intro e he _
    simp at he
  obtain rfl : b2 = true := by
   cases hq : b2 with
   | true => rfl
   | false =>
    subst hq
    refine (not_ready (i := 2) hr rfl rfl ?_).elim
    intro e he _
    simp at he
    rcases he with rfl | rfl <;> rfl
  obtain rfl : b3 = true := by
   cases hq : b3 with
   | true => rfl
   | false =>
    subst hq
    refine (not_ready (i := 3) hr rfl rfl ?_).elim
    intro e he _
    simp at he
  obtain rfl : b4 = true := by
   cases hq : b4 with
   | true => rfl
   | false =>
    subst hq
    refine (not_ready (i := 4) hr rfl rfl ?_).elim
    intro e he _
    simp at he
  obtain rfl : b5 = true := by
   cases hq : b5 with
   | true => rfl
   | false =>
    subst hq
    refine (not_ready (i := 5) hr rfl rfl ?_).elim
    intro e he _
    simp at he
    rcases he with rfl | rfl | rfl <;> rfl
  obtain rfl : b6 = true := by
   cases hq : b6 with
   | true => rfl
   | false =>
    subst hq
    refine (not_ready (i := 6) hr rfl rfl ?_).elim
    intro e he _
    simp at he
  obtain rfl : b7 = true := by
   cases hq : b7 with
   | true => rfl
   | false =>
    subst hq
    refine (not_ready (i := 7) hr rfl rfl ?_).elim
    intro e he _
    simp at he
  obtain rfl : b8 = true := by
   cases hq : b8 with
   | true => rfl
   | false =>
    subst hq
    refine (not_ready (i := 8) hr rfl rfl ?_).elim
    intro e he _
    simp at he
    rcases he with rfl | rfl | rfl <;> rfl
  obtain rfl : b9 = true := by
   cases hq : b9 with
   | true => rfl
   | false =>
    subst hq
    refine (not_ready (i := 9) hr rfl rfl ?_).elim
    intro e he _
    simp at he
  obtain rfl : b10 = true := by
   cases hq : b10 with
   | true => rfl
   | false =>
    subst hq
    refine (not_ready (i := 10) hr rfl rfl ?_).elim
    intro e he _
    simp at he
  obtain rfl : b11 = true := by
   cases hq : b11 with
   | true => rfl
   | false =>
    subst hq
    refine (not_ready (i := 11) hr rfl rfl ?_).elim
    intro e he _
    simp at he
  obtain rfl : b12 = true := by
   cases hq : b12 with
   | true => rfl
   | false =>
    subst hq
    refine (not_ready (i := 12) hr rfl rfl ?_).elim
    intro e he _
    simp at he
    rcases he with rfl | rfl | rfl | rfl | rfl | rfl | rfl | rfl | rfl | rfl | rfl | rfl | rfl | rfl | rfl <;> rfl
  obtain rfl : b13 = true := by
   cases hq : b13 with
   | true => rfl
   | false =>
    subst hq
    refine (not_ready (i := 13) hr rfl rfl ?_).elim
    intro e he _
    simp at he
    rcases he with rfl | rfl | rfl | rfl | rfl | rfl | rfl | rfl | rfl | rfl | rfl | rfl | rfl | rfl | rfl | rfl <;> rfl
  obtain rfl : b14 = true := by
   cases hq : b14 with
   | true => rfl
   | false =>
    subst hq
    refine (not_ready (i := 14) hr rfl rfl ?_).elim
    intro e he _
    simp at he
    rcases he with rfl | rfl | rfl | rfl | rfl | rfl | rfl | rfl | rfl | rfl | rfl | rfl | rfl | rfl | rfl | rfl | rfl <;> rfl
  obtain rfl := v0 rfl
  obtain rfl := v1 rfl
  obtain rfl := v2 rfl
  obtain rfl := v3 rfl
  obtain rfl := v4 rfl
  obtain rfl := v5 rfl
  obtain rfl := v6 rfl
  obtain rfl := v7 rfl
  obtain rfl := v8 rfl
  obtain ⟨p0, r0, s0⟩ := k0 rfl
  subst p0
  obtain ⟨p1, r1, s1⟩ := k1 rfl
  subst p1
  obtain ⟨p2, r2, s2⟩ := k2 rfl
  subst p2
  have g00 : V.cell? ⟨n0, 0, none⟩ = some (.int .i64 x0) := blk_cell s0 0
  have g01 : V.cell? ⟨n0, 1, none⟩ = some (.bool x1) := blk_cell s0 1
  have g10 : V.cell? ⟨n1, 0, none⟩ = some (.int .i64 y0) := blk_cell s1 0
  have g11 : V.cell? ⟨n1, 1, none⟩ = some (.bool y1) := blk_cell s1 1
  have g20 : V.cell? ⟨n2, 0, none⟩ = some (.int .i64 z0) := blk_cell s2 0
  have g21 : V.cell? ⟨n2, 1, none⟩ = some (.bool z1) := blk_cell s2 1
  have HZ := Aside0.mk HW
  clear HW d1 d2 d3 m0 m1 m2 k0 k1 k2 r0 r1 r2 s0 s1 s2 hr
  cases h1 : (y0 == z0 && (y1 == z1)) with
  | true =>
   go_wp2
   go_ret
   exact ⟨by simp [keepT, sameT, h1], HZ.out⟩
  | false =>
   cases h2 : (y0 == x0 && (y1 == x1)) with
   | true =>
    go_wp2
    go_ret
    exact ⟨by simp [keepT, sameT, h1, h2], HZ.out⟩
   | false =>
    cases h3 : (z0 == x0 && (z1 == x1)) with
    | true =>
     go_wp2
     go_ret
     exact ⟨by simp [keepT, sameT, h1, h2, h3], HZ.out⟩
    | false =>
     go_wp2
     go_ret
     exact ⟨by simp [keepT, sameT, h1, h2, h3], HZ.out⟩
def thgT (k : Nat) (l : List S71) (x : ByteArray) : Int × Bool := (impl_thingAt.f k l x).getD (0, false)
theorem thgT_of {k : Nat} {l : List S71} {x : ByteArray} (h : impl_thingAt.f k l x ≠ none) : impl_thingAt.f k l x = some ((thgT k l x).1, (thgT k l x).2) := by
 unfold thgT
 cases hq : impl_thingAt.f k l x with
 | none => exact absurd hq h
 | some q => rfl
theorem C_lit3 {α : Type} {d : Kd α} {e : Nat} {W : World} {g : Nat} {A0 A1 A2 : Option Addr} {c0 c1 c2 : Nat} {l0 l1 l2 : List α} (x0 : W.cell? ⟨g, 0, none⟩ = some (.slice A0 l0.length c0)) (x1 : W.cell? ⟨g, 1, none⟩ = some (.slice A1 l1.length c1)) (x2 : W.cell? ⟨g, 2, none⟩ = some (.slice A2 l2.length c2))
  (hr0 : Kd.C d W A0 l0.length l0) (hc0 : l0.length ≤ c0) (hr1 : Kd.C d W A1 l1.length l1) (hc1 : l1.length ≤ c1) (hr2 : Kd.C d W A2 l2.length l2) (hc2 : l2.length ≤ c2) : Kd.C (Kd.slice e d) W (some ⟨g, 0, none⟩) 3 [l0, l1, l2] := by
 refine ⟨rfl, by decide, fun _ => ⟨_, rfl, fun j p hj => ?_⟩⟩
 match j, hj with
 | 0, hj =>
  injection hj with hj
  subst hj
  refine ⟨[.slice A0 l0.length c0], rfl, ⟨A0, c0, rfl, hc0, hr0⟩, fun i u hu => ?_⟩
  match i, hu with
  | 0, hu =>
   injection hu with hu
   subst hu
   exact x0
  | i + 1, hu => simp at hu
 | 1, hj =>
  injection hj with hj
  subst hj
  refine ⟨[.slice A1 l1.length c1], rfl, ⟨A1, c1, rfl, hc1, hr1⟩, fun i u hu => ?_⟩
  match i, hu with
  | 0, hu =>
   injection hu with hu
   subst hu
   exact x1
  | i + 1, hu => simp at hu
 | 2, hj =>
  injection hj with hj
  subst hj
  refine ⟨[.slice A2 l2.length c2], rfl, ⟨A2, c2, rfl, hc2, hr2⟩, fun i u hu => ?_⟩
  match i, hu with
  | 0, hu =>
   injection hu with hu
   subst hu
   exact x2
  | i + 1, hu => simp at hu
 | j + 3, hj => simp at hj
theorem thgT_mono {k : Nat} {l : List S71} {x : ByteArray} (h : impl_thingAt.f k l x ≠ none) : impl_thingAt.f (k + 1) l x ≠ none ∧ thgT (k + 1) l x = thgT k l x := by
 have h1 := thgT_of h
 have h2 := impl_thingAt.mono l x k _ h1
 refine ⟨by rw [h2]; simp, ?_⟩
 unfold thgT at h2 ⊢
 rw [h2]
 rfl
def impl_conflictsOf.f (k : Nat) (l0 l1 l2 : List S71) : Option (List ByteArray) :=
 (impl_namesOf.f [l0, l1, l2]).bind fun ns => if ns.length ≤ 1048576 ∧ ∀ x ∈ ns, impl_thingAt.f k l0 x ≠ none ∧ impl_thingAt.f k l1 x ≠ none ∧ impl_thingAt.f k l2 x ≠ none then some (ns.filter fun x => !keepT (thgT k l0 x) (thgT k l1 x) (thgT k l2 x)) else none
theorem impl_conflictsOf.mono : ∀ a0 a1 a2 k, LeO (impl_conflictsOf.f k a0 a1 a2) (impl_conflictsOf.f (k + 1) a0 a1 a2) := by
 intro a0 a1 a2 k r h
 unfold impl_conflictsOf.f at h ⊢
 obtain ⟨ns, hns, h⟩ := Option.bind_eq_some_iff.mp h
 rw [hns]
 simp only [Option.bind_some]
 split at h
 ·
  rename_i hall
  rw [if_pos ⟨hall.1, fun x hx => ⟨(thgT_mono (hall.2 x hx).1).1, (thgT_mono (hall.2 x hx).2.1).1, (thgT_mono (hall.2 x hx).2.2).1⟩⟩, ← h]
  congr 1
  refine List.filter_congr fun x hx => ?_
  rw [(thgT_mono (hall.2 x hx).1).2, (thgT_mono (hall.2 x hx).2.1).2, (thgT_mono (hall.2 x hx).2.2).2]
 ·
  cases h
set_option maxHeartbeats 8000000 in
theorem impl_conflictsOf.calls (k : Nat) (A0 : Option Addr) (c0 : Nat) (l0 : List S71) (A1 : Option Addr) (c1 : Nat) (l1 : List S71) (A2 : Option Addr) (c2 : Nat) (l2 : List S71) (r : List ByteArray) (w : World)
  (hr0 : Kd.C k71 w A0 l0.length l0) (hc0 : l0.length ≤ c0) (hr1 : Kd.C k71 w A1 l1.length l1) (hc1 : l1.length ≤ c1) (hr2 : Kd.C k71 w A2 l2.length l2) (hc2 : l2.length ≤ c2) (h : impl_conflictsOf.f k l0 l1 l2 = some r) :
  Calls Try.prog 63 #[.slice A0 l0.length c0, .slice A1 l1.length c1, .slice A2 l2.length c2] w fun e w' => ∃ v0_ : Value, e = .returned (v0_) ∧ Kd.R Kd.string 9 w' w.heap.size (fun _ => True) v0_ r ∧ Below w.heap.size w w' := by
 unfold impl_conflictsOf.f at h
 obtain ⟨ns, hns, h⟩ := Option.bind_eq_some_iff.mp h
 split at h
 ·
  rename_i hall
  obtain rfl := Option.some.inj h
  have R0 := Aside0.mk hr0
  have R1 := Aside0.mk hr1
  have R2 := Aside0.mk hr2
  have HN := Aside0.mk hns
  have HA := Aside0.mk hall
  have HC := Aside0.mk (And.intro hc0 (And.intro hc1 hc2))
  clear h hall hns hr0 hr1 hr2 hc0 hc1 hc2
  have hnm := fun (W : World) (hb : Below w.heap.size w W) (x0 : W.cell? ⟨w.heap.size + 1 + 1 + 1, 0, none⟩ = some (.slice A0 l0.length c0)) (x1 : W.cell? ⟨w.heap.size + 1 + 1 + 1, 1, none⟩ = some (.slice A1 l1.length c1)) (x2 : W.cell? ⟨w.heap.size + 1 + 1 + 1, 2, none⟩ = some (.slice A2 l2.length c2)) =>
   show Calls Try.prog 65 #[.slice (some ⟨w.heap.size + 1 + 1 + 1, 0, none⟩) 3 3] W fun e w' => ∃ v0_ : Value, e = .returned (v0_) ∧ Kd.R Kd.string 9 w' W.heap.size (fun _ => True) v0_ ns ∧ Below W.heap.size W w' from
   impl_namesOf.calls (some ⟨w.heap.size + 1 + 1 + 1, 0, none⟩) 3 [l0, l1, l2] ns W (C_lit3 x0 x1 x2 (Kd.C_below R0.out hb) HC.out.1 (Kd.C_below R1.out hb) HC.out.2.1 (Kd.C_below R2.out hb) HC.out.2.2) (by simp) HN.out
  have hdel := fun (w0 W : World) (v : Value) (hB : Below w0.heap.size w0 W) (hR : Kd.R Kd.string 9 W w0.heap.size (fun _ => True) v ns) (hb : Below w.heap.size w w0) (b1 : w.heap.size < w0.heap.size) (b2 : w.heap.size + 1 < w0.heap.size) (b3 : w.heap.size + 1 + 1 < w0.heap.size) (x0 : w0.cell? ⟨w.heap.size, 0, none⟩ = some (.slice A0 l0.length c0)) (x1 : w0.cell? ⟨w.heap.size + 1, 0, none⟩ = some (.slice A1 l1.length c1)) (x2 : w0.cell? ⟨w.heap.size + 1 + 1, 0, none⟩ = some (.slice A2 l2.length c2)) =>
   slices_DeleteFunc_str (fun x => keepT (thgT k l0 x) (thgT k l1 x) (thgT k l2 x)) 97 #[.pointer (some ⟨w.heap.size, 0, none⟩), .pointer (some ⟨w.heap.size + 1, 0, none⟩), .pointer (some ⟨w.heap.size + 1 + 1, 0, none⟩)] (enters_of Try.func97 (by kernel_rfl) rfl) v ns (fun _ => True) w0 W hB hR HA.out.1
    (fun x hx => conflictsOf_1 k w0 _ _ _ A0 c0 l0 A1 c1 l1 A2 c2 l2 b1 b2 b3 x0 x1 x2 (Kd.C_below R0.out hb) HC.out.1 (Kd.C_below R1.out hb) HC.out.2.1 (Kd.C_below R2.out hb) HC.out.2.2 x _ _ _ _ _ _ (thgT_of (HA.out.2 x hx).1) (thgT_of (HA.out.2 x hx).2.1) (thgT_of (HA.out.2 x hx).2.2))
  have z1 := Aside0.mk (show Below w.heap.size w ((((w.alloc (.cells #[.slice A0 l0.length c0] 26 (0, 0))).alloc (.cells #[.slice A1 l1.length c1] 26 (0, 0))).alloc (.cells #[.slice A2 l2.length c2] 26 (0, 0))).alloc (.cells #[.slice A0 l0.length c0, .slice A1 l1.length c1, .slice A2 l2.length c2] 26 (0, 0))) from by repeat (first | exact Below.refl _ _ | apply below_alloc))
  have z2 := Aside0.mk (show w.heap.size < (World.heap ((((w.alloc (.cells #[.slice A0 l0.length c0] 26 (0, 0))).alloc (.cells #[.slice A1 l1.length c1] 26 (0, 0))).alloc (.cells #[.slice A2 l2.length c2] 26 (0, 0))).alloc (.cells #[.slice A0 l0.length c0, .slice A1 l1.length c1, .slice A2 l2.length c2] 26 (0, 0)))).size ∧ w.heap.size + 1 < (World.heap ((((w.alloc (.cells #[.slice A0 l0.length c0] 26 (0, 0))).alloc (.cells #[.slice A1 l1.length c1] 26 (0, 0))).alloc (.cells #[.slice A2 l2.length c2] 26 (0, 0))).alloc (.cells #[.slice A0 l0.length c0, .slice A1 l1.length c1, .slice A2 l2.length c2] 26 (0, 0)))).size ∧ w.heap.size + 1 + 1 < (World.heap ((((w.alloc (.cells #[.slice A0 l0.length c0] 26 (0, 0))).alloc (.cells #[.slice A1 l1.length c1] 26 (0, 0))).alloc (.cells #[.slice A2 l2.length c2] 26 (0, 0))).alloc (.cells #[.slice A0 l0.length c0, .slice A1 l1.length c1, .slice A2 l2.length c2] 26 (0, 0)))).size from by simp only [World.alloc, Array.size_push]; omega)
  have y0 := Aside0.mk (show World.cell? ((((w.alloc (.cells #[.slice A0 l0.length c0] 26 (0, 0))).alloc (.cells #[.slice A1 l1.length c1] 26 (0, 0))).alloc (.cells #[.slice A2 l2.length c2] 26 (0, 0))).alloc (.cells #[.slice A0 l0.length c0, .slice A1 l1.length c1, .slice A2 l2.length c2] 26 (0, 0))) ⟨w.heap.size + 1 + 1 + 1, 0, none⟩ = some (.slice A0 l0.length c0) from by (simp only [World.cell?, World.alloc, Array.getElem?_push, Array.size_push]; simp [show ¬ w.heap.size = w.heap.size + 1 + 1 + 1 by omega, show ¬ w.heap.size = w.heap.size + 1 + 1 by omega]))
  have y1 := Aside0.mk (show World.cell? ((((w.alloc (.cells #[.slice A0 l0.length c0] 26 (0, 0))).alloc (.cells #[.slice A1 l1.length c1] 26 (0, 0))).alloc (.cells #[.slice A2 l2.length c2] 26 (0, 0))).alloc (.cells #[.slice A0 l0.length c0, .slice A1 l1.length c1, .slice A2 l2.length c2] 26 (0, 0))) ⟨w.heap.size + 1 + 1 + 1, 1, none⟩ = some (.slice A1 l1.length c1) from by (simp only [World.cell?, World.alloc, Array.getElem?_push, Array.size_push]; simp [show ¬ w.heap.size = w.heap.size + 1 + 1 + 1 by omega, show ¬ w.heap.size = w.heap.size + 1 + 1 by omega]))
  have y2 := Aside0.mk (show World.cell? ((((w.alloc (.cells #[.slice A0 l0.length c0] 26 (0, 0))).alloc (.cells #[.slice A1 l1.length c1] 26 (0, 0))).alloc (.cells #[.slice A2 l2.length c2] 26 (0, 0))).alloc (.cells #[.slice A0 l0.length c0, .slice A1 l1.length c1, .slice A2 l2.length c2] 26 (0, 0))) ⟨w.heap.size + 1 + 1 + 1, 2, none⟩ = some (.slice A2 l2.length c2) from by (simp only [World.cell?, World.alloc, Array.getElem?_push, Array.size_push]; simp [show ¬ w.heap.size = w.heap.size + 1 + 1 + 1 by omega, show ¬ w.heap.size = w.heap.size + 1 + 1 by omega]))
  have x0 := Aside0.mk (show World.cell? ((((w.alloc (.cells #[.slice A0 l0.length c0] 26 (0, 0))).alloc (.cells #[.slice A1 l1.length c1] 26 (0, 0))).alloc (.cells #[.slice A2 l2.length c2] 26 (0, 0))).alloc (.cells #[.slice A0 l0.length c0, .slice A1 l1.length c1, .slice A2 l2.length c2] 26 (0, 0))) ⟨w.heap.size, 0, none⟩ = some (.slice A0 l0.length c0) from by (simp only [World.cell?, World.alloc, Array.getElem?_push, Array.size_push]; simp [show ¬ w.heap.size = w.heap.size + 1 + 1 + 1 by omega, show ¬ w.heap.size = w.heap.size + 1 + 1 by omega]))
  have x1 := Aside0.mk (show World.cell? ((((w.alloc (.cells #[.slice A0 l0.length c0] 26 (0, 0))).alloc (.cells #[.slice A1 l1.length c1] 26 (0, 0))).alloc (.cells #[.slice A2 l2.length c2] 26 (0, 0))).alloc (.cells #[.slice A0 l0.length c0, .slice A1 l1.length c1, .slice A2 l2.length c2] 26 (0, 0))) ⟨w.heap.size + 1, 0, none⟩ = some (.slice A1 l1.length c1) from by (simp only [World.cell?, World.alloc, Array.getElem?_push, Array.size_push]; simp [show ¬ w.heap.size = w.heap.size + 1 + 1 + 1 by omega, show ¬ w.heap.size = w.heap.size + 1 + 1 by omega]))
  have x2 := Aside0.mk (show World.cell? ((((w.alloc (.cells #[.slice A0 l0.length c0] 26 (0, 0))).alloc (.cells #[.slice A1 l1.length c1] 26 (0, 0))).alloc (.cells #[.slice A2 l2.length c2] 26 (0, 0))).alloc (.cells #[.slice A0 l0.length c0, .slice A1 l1.length c1, .slice A2 l2.length c2] 26 (0, 0))) ⟨w.heap.size + 1 + 1, 0, none⟩ = some (.slice A2 l2.length c2) from by (simp only [World.cell?, World.alloc, Array.getElem?_push, Array.size_push]; simp [show ¬ w.heap.size = w.heap.size + 1 + 1 + 1 by omega, show ¬ w.heap.size = w.heap.size + 1 + 1 by omega]))
  have hdel2 := fun (W : World) (v : Value) (hB : Below (World.heap ((((w.alloc (.cells #[.slice A0 l0.length c0] 26 (0, 0))).alloc (.cells #[.slice A1 l1.length c1] 26 (0, 0))).alloc (.cells #[.slice A2 l2.length c2] 26 (0, 0))).alloc (.cells #[.slice A0 l0.length c0, .slice A1 l1.length c1, .slice A2 l2.length c2] 26 (0, 0)))).size ((((w.alloc (.cells #[.slice A0 l0.length c0] 26 (0, 0))).alloc (.cells #[.slice A1 l1.length c1] 26 (0, 0))).alloc (.cells #[.slice A2 l2.length c2] 26 (0, 0))).alloc (.cells #[.slice A0 l0.length c0, .slice A1 l1.length c1, .slice A2 l2.length c2] 26 (0, 0))) W) (hR : Kd.R Kd.string 9 W (World.heap ((((w.alloc (.cells #[.slice A0 l0.length c0] 26 (0, 0))).alloc (.cells #[.slice A1 l1.length c1] 26 (0, 0))).alloc (.cells #[.slice A2 l2.length c2] 26 (0, 0))).alloc (.cells #[.slice A0 l0.length c0, .slice A1 l1.length c1, .slice A2 l2.length c2] 26 (0, 0)))).size (fun _ => True) v ns) => hdel _ W v hB hR z1.out z2.out.1 z2.out.2.1 z2.out.2.2 x0.out x1.out x2.out
  go_enter Try.func63, Try.ntmps63
  go_wp2_with (first | (go_at_call 65; refine (hnm _ z1.out y0.out y1.out y2.out).mono ?_; rintro e w1 ⟨v1, rfl, hR1, hB1⟩; have hd := hdel2 _ _ hB1 hR1; obtain ⟨A9, c9, hv9⟩ := Kd.R_slice hR1; subst hv9; clear hR1 hB1) | (go_at_call 96; refine hd.mono ?_; rintro e w4 ⟨v4, rfl, hR4, hB4⟩))
  go_ret
  exact ⟨_, rfl, Kd.R_lower hR4 z1.out.size, below_step z1.out hB4⟩
 ·
  cases h

end Go.Proofs.Ytenjhbkpcelidaa.PFnExactMergeVersions
