-- PRINTED by print.py (a twelfth state) out of the translation. Not trusted: Lean checks it.
import Derived.Test.YtobhjkpegcfdfaaPFnExactHotSpotsx0
import Derived.Test.YtobhjkpegcfdfaaPFnExactHotSpotsx3
namespace Go.Proofs.Ytobhjkpegcfdfaa.PFnExactHotSpots
open Go.RowKit Go.Proofs.YtobhjkpegcfdfaaW.PrintWords Go.Proofs.YtobhjkpegcfdfaaW.PrintLast Go.Proofs.YtobhjkpegcfdfaaW.PrintMore
attribute [local go_sem] max2_int min2_int max_two min_two max_three min_three max_four min_four   -- for this text's walks alone
set_option linter.unusedVariables false
set_option linter.unusedSimpArgs false

/-! ### impl_besides: function 90 -/
def besT : Nat → Int × Int
 | 0 => (-1, 0)
 | 1 => (0, -1)
 | 2 => (0, 1)
 | _ => (1, 0)
def nearB (l : List (List Int)) (y z : Int) : Bool := decide (0 ≤ y) && (decide (y < (l.length : Int)) && (decide (0 ≤ z) && decide (z < ((l.getD 0 []).length : Int))))
def nearL (l : List (List Int)) (r c : Int) (i : Nat) : List S123 := ((List.range i).map fun j => (⟨r + (besT j).1, c + (besT j).2⟩ : S123)).filter fun x => nearB l x.f0 x.f1
theorem nearL_succ (l : List (List Int)) (r c : Int) (i : Nat) : nearL l r c (i + 1) = nearL l r c i ++ (if nearB l (r + (besT i).1) (c + (besT i).2) = true then [(⟨r + (besT i).1, c + (besT i).2⟩ : S123)] else []) := by
 unfold nearL
 rw [List.range_succ, List.map_append, List.filter_append]
 congr 1
 simp only [List.map_cons, List.map_nil, List.filter_cons, List.filter_nil]
theorem nearL_len (l : List (List Int)) (r c : Int) (i : Nat) : (nearL l r c i).length ≤ i := by
 unfold nearL
 refine Nat.le_trans (List.length_filter_le _ _) ?_
 simp
def impl_besides.f (l0 : List (List Int)) (a1_0 : Int) (a1_1 : Int) : Option (List S123) :=
 if 0 < l0.length ∧ 0 ≤ a1_0 ∧ a1_0 ≤ 1048576 ∧ 0 ≤ a1_1 ∧ a1_1 ≤ 1048576 then some (nearL l0 a1_0 a1_1 4) else none
set_option maxHeartbeats 8000000 in
set_option maxRecDepth 100000 in
theorem impl_besides.calls (A0 : Option Addr) (c0 : Nat) (l0 : List (List Int)) (a1_0 : Int) (a1_1 : Int) (r : List S123) (w : World) (hr0 : Kd.C (Kd.slice 2 (Kd.int .i64)) w A0 l0.length l0) (hc0 : l0.length ≤ c0) (h : impl_besides.f l0 a1_0 a1_1 = some r) :
  Calls Try.prog 90 #[.slice A0 l0.length c0, .agg #[.int .i64 a1_0, .int .i64 a1_1]] w fun e w' => ∃ v0_ : Value, e = .returned (v0_) ∧ Kd.R k123 123 w' w.heap.size (fun _ => True) v0_ r ∧ Below w.heap.size w w' := by
 unfold impl_besides.f at h
 split at h
 ·
  rename_i hpre
  obtain ⟨hl, hr, hr1, hc, hc1⟩ := hpre
  have HV := Aside0.mk (Option.some.inj h)
  have hmax := Kd.C_max hr0
  clear h hc0
  obtain ⟨ad, cs, e, _, hK, hcc⟩ := Kd.C_get hr0 ([] : List Int) 0 (by omega) (by omega)
  obtain ⟨A1, c1, rfl, _, _⟩ := hK
  have hx0 := hcc 0 _ rfl
  rw [show ((0 : Int).toNat * (Kd.slice 2 (Kd.int .i64)).sz + 0) = 0 from rfl] at hx0
  subst e
  have HX := Aside0.mk hx0
  clear hcc hx0 hr0
  have hidx : ∀ i : Nat, i < 4 → ∀ w, (Instr.index 234 (.agg #[.int .i64 (-1), .int .i64 0, .int .i64 0, .int .i64 (-1), .int .i64 0, .int .i64 1, .int .i64 1, .int .i64 0]) (.int .i64 i)).run Try.prog w = .ok (.agg #[.int .i64 (besT i).1, .int .i64 (besT i).2]) w := by
   intro i hi
   match i, hi with
   | 0, _ => exact fun _ => by kernel_rfl
   | 1, _ => exact fun _ => by kernel_rfl
   | 2, _ => exact fun _ => by kernel_rfl
   | 3, _ => exact fun _ => by kernel_rfl
  have HI := Aside0.mk hidx
  clear hidx
  have hbt : ∀ i : Nat, -1 ≤ (besT i).1 ∧ (besT i).1 ≤ 1 ∧ -1 ≤ (besT i).2 ∧ (besT i).2 ≤ 1 := by
   intro i
   match i with
   | 0 => decide
   | 1 => decide
   | 2 => decide
   | n + 3 => exact ⟨by show (-1 : Int) ≤ 1; decide, by show (1 : Int) ≤ 1; decide, by show (-1 : Int) ≤ 0; decide, by show (0 : Int) ≤ 1; decide⟩
  have HT := Aside0.mk hbt
  clear hbt
  obtain ⟨W1, hW1⟩ : ∃ W1 : World, W1 = w.alloc (.cells #[.int .i64 a1_0, .int .i64 a1_1] 123) := ⟨_, rfl⟩
  have hsz : w.heap.size < W1.heap.size := by rw [hW1]; simp
  have hp0 : W1.cell? ⟨w.heap.size, 0, none⟩ = some (.int .i64 a1_0) := by rw [hW1]; simp
  have hp1 : W1.cell? ⟨w.heap.size, 1, none⟩ = some (.int .i64 a1_1) := by rw [hW1]; simp
  have hx1 : W1.cell? (ad.add 0) = some (.slice A1 (l0.getD 0 []).length c1) := (Below.cell (below_alloc (Below.refl _ w) _) (World.block_lt_of_cell? w _ HX.out)).trans HX.out |> fun h => by rw [hW1]; exact h
  have HWB := Aside0.mk (show Below w.heap.size w W1 from by rw [hW1]; exact below_alloc (Below.refl _ _) _)
  have HP0 := Aside0.mk hp0
  have HP1 := Aside0.mk hp1
  have HX1 := Aside0.mk hx1
  have HSZ := Aside0.mk hsz
  clear hp0 hp1 hx1 hsz HX
  go_enter Try.func90, Try.ntmps90
  go_wp2
  rw [← hW1]
  clear hW1
  go_loopg [5, 14] 4 (fun gg s5 s14 wr => ∃ i : Nat, i ≤ 4 ∧ 4 - i ≤ gg ∧ s14 = .int .i64 i ∧ Aside0 (Kd.R k123 123 wr W1.heap.size (fun _ => True) s5 (nearL l0 a1_0 a1_1 i)) ∧ Aside0 (Below W1.heap.size W1 wr))
  case atStart =>
   refine ⟨0, by omega, by omega, rfl, ⟨Kd.R_nil _ _ _ _ _⟩, ⟨Below.refl _ _⟩⟩
  case round =>
   obtain ⟨i, hi, hg, rfl, HN, BW⟩ := hrel
   by_cases hlt : i < 4
   ·
    have hltz : (i : Int) < 4 := by omega
    have hix := HI.out i hlt
    obtain ⟨hb1, hb2, hb3, hb4⟩ := HT.out i
    have HNS := Aside0.mk (nearL_succ l0 a1_0 a1_1 i)
    have hq0 : ∀ o, (wr.alloc o).cell? ⟨w.heap.size, 0, none⟩ = some (.int .i64 a1_0) := fun o => by
     have h := (Below.cell (below_alloc BW.out o) HSZ.out).trans HP0.out
     exact h
    have hq1 : ∀ o, (wr.alloc o).cell? ⟨w.heap.size, 1, none⟩ = some (.int .i64 a1_1) := fun o => by
     have h := (Below.cell (below_alloc BW.out o) HSZ.out).trans HP1.out
     exact h
    have hx2 : ∀ o o', ((wr.alloc o).alloc o').cell? ad = some (.slice A1 (l0.getD 0 []).length c1) := fun o o' => by
     have h := (Below.cell (below_alloc (below_alloc BW.out o) o') (World.block_lt_of_cell? _ _ HX1.out)).trans HX1.out
     rw [show ad.add 0 = ad from by simp [Addr.add]] at h
     exact h
    generalize hb1e : (besT i).1 = b1 at *
    generalize hb2e : (besT i).2 = b2 at *
    have HB1 := Aside0.mk hb1e
    have HB2 := Aside0.mk hb2e
    clear hb1e hb2e
    generalize hm0 : (l0.getD 0 []).length = m0 at *
    have HM0 := Aside0.mk hm0
    clear hm0
    by_cases g1 : 0 ≤ a1_0 + b1 ∧ a1_0 + b1 < (l0.length : Int) ∧ 0 ≤ a1_1 + b2 ∧ a1_1 + b2 < (m0 : Int)
    ·
     obtain ⟨g1, g2, g3, g4⟩ := g1
     have d1 : decide (0 ≤ a1_0 + b1) = true := decide_eq_true g1
     have d2 : decide (a1_0 + b1 < (l0.length : Int)) = true := decide_eq_true g2
     have d3 : decide (0 ≤ a1_1 + b2) = true := decide_eq_true g3
     have d4 : decide (a1_1 + b2 < (m0 : Int)) = true := decide_eq_true g4
     go_wp2_with (fail)
     go_quiet (fail)
     have hnb : nearB l0 (a1_0 + b1) (a1_1 + b2) = true := by
      unfold nearB
      rw [d1, d2, d3, HM0.out, d4]
      rfl
     have hgl := nearL_len l0 a1_0 a1_1 i
     have NB := Aside0.mk hnb
     have NL := Aside0.mk hgl
     clear hnb hgl
     go_wp2_with ((with_reducible refine gate_builtin (b := .append) (xs := #[.tmp 52, .tmp 54]) rfl ?_); (try (refine gate_guard (by rfl) ?_; dsimp only)); at_builtin; refine Kd.R_append k123 (w0 := W1) W1.heap.size rfl (.tmp 52) (.tmp 54) 124 123 (.agg #[.int .i64 0, .int .i64 0]) 16 rfl Try.underlying124 info123 rfl (by decide) (by omega) u5 (nearL l0 a1_0 a1_1 i) (⟨a1_0 + b1, a1_1 + b2⟩ : S123) [.int .i64 (a1_0 + b1), .int .i64 (a1_1 + b2)] (fun _ => True) (fun _ => False) rfl ?aX ?aP (fun _ hk => hk.elim) (fun _ _ => trivial) ?aO ?aB ?aS ?aL ?_; (case aX => (show Value.slice (some ⟨_, 0, none⟩) 1 1 = _; simp)); (case aP => exact k123_mkM _ _ _ _); (case aO => exact (by (with_reducible repeat (first | apply Kd.R_alloc | apply Kd.R_drewN | apply Kd.R_drew)); exact HN.out)); (case aB => exact (by repeat (first | (with_reducible first | exact BW.out | apply below_alloc | apply pw_below_drewN | apply below_drew1) | exact BW.out))); (case aS => exact (below_size (by repeat (first | (with_reducible first | exact BW.out | apply below_alloc | apply pw_below_drewN | apply below_drew1) | exact BW.out)))); (case aL => have := NL.out; omega); intro v5 w5 ho hb hg hat; have HN5 := Aside0.mk ho; have BW5 := Aside0.mk hb; clear ho hb hg hat)
     go_roundg (4 - (i + 1))
     case measure => omega
     case rel =>
      refine ⟨i + 1, by omega, by omega, by go_num, ⟨?_⟩, ⟨BW5.out⟩⟩
      rw [HNS.out, NB.out]
      exact HN5.out
    ·
     have hnb : nearB l0 (a1_0 + b1) (a1_1 + b2) = false := by
      unfold nearB
      rw [HM0.out]
      simp only [Bool.and_eq_false_iff, decide_eq_false_iff_not]
      omega
     have NB := Aside0.mk hnb
     clear hnb
     by_cases g1 : 0 ≤ a1_0 + b1
     ·
      have d1 : decide (0 ≤ a1_0 + b1) = true := decide_eq_true g1
      by_cases g2 : a1_0 + b1 < (l0.length : Int)
      ·
       have d2 : decide (a1_0 + b1 < (l0.length : Int)) = true := decide_eq_true g2
       by_cases g3 : 0 ≤ a1_1 + b2
       ·
        have d3 : decide (0 ≤ a1_1 + b2) = true := decide_eq_true g3
        have d4 : decide (a1_1 + b2 < (m0 : Int)) = false := decide_eq_false (by omega)
        go_wp2_with (fail)
        go_quiet (fail)
        go_wp2
        go_roundg (4 - (i + 1))
        case measure => omega
        case rel =>
         refine ⟨i + 1, by omega, by omega, by go_num, ⟨?_⟩, ⟨?_⟩⟩
         ·
          rw [HNS.out, NB.out]
          exact (by (with_reducible repeat (first | apply Kd.R_alloc | apply Kd.R_drewN | apply Kd.R_drew)); rw [if_neg (by decide), List.append_nil]; exact HN.out)
         ·
          exact (by repeat (first | (with_reducible first | exact BW.out | apply below_alloc | apply pw_below_drewN | apply below_drew1) | exact BW.out))
       ·
        have d3 : decide (0 ≤ a1_1 + b2) = false := decide_eq_false g3
        go_wp2_with (fail)
        go_quiet (fail)
        go_wp2
        go_roundg (4 - (i + 1))
        case measure => omega
        case rel =>
         refine ⟨i + 1, by omega, by omega, by go_num, ⟨?_⟩, ⟨?_⟩⟩
         ·
          rw [HNS.out, NB.out]
          exact (by (with_reducible repeat (first | apply Kd.R_alloc | apply Kd.R_drewN | apply Kd.R_drew)); rw [if_neg (by decide), List.append_nil]; exact HN.out)
         ·
          exact (by repeat (first | (with_reducible first | exact BW.out | apply below_alloc | apply pw_below_drewN | apply below_drew1) | exact BW.out))
      ·
       have d2 : decide (a1_0 + b1 < (l0.length : Int)) = false := decide_eq_false g2
       go_wp2_with (fail)
       go_quiet (fail)
       go_wp2
       go_roundg (4 - (i + 1))
       case measure => omega
       case rel =>
        refine ⟨i + 1, by omega, by omega, by go_num, ⟨?_⟩, ⟨?_⟩⟩
        ·
         rw [HNS.out, NB.out]
         exact (by (with_reducible repeat (first | apply Kd.R_alloc | apply Kd.R_drewN | apply Kd.R_drew)); rw [if_neg (by decide), List.append_nil]; exact HN.out)
        ·
         exact (by repeat (first | (with_reducible first | exact BW.out | apply below_alloc | apply pw_below_drewN | apply below_drew1) | exact BW.out))
     ·
      have d1 : decide (0 ≤ a1_0 + b1) = false := decide_eq_false g1
      go_wp2_with (fail)
      go_quiet (fail)
      go_wp2
      go_roundg (4 - (i + 1))
      case measure => omega
      case rel =>
       refine ⟨i + 1, by omega, by omega, by go_num, ⟨?_⟩, ⟨?_⟩⟩
       ·
        rw [HNS.out, NB.out]
        exact (by (with_reducible repeat (first | apply Kd.R_alloc | apply Kd.R_drewN | apply Kd.R_drew)); rw [if_neg (by decide), List.append_nil]; exact HN.out)
       ·
        exact (by repeat (first | (with_reducible first | exact BW.out | apply below_alloc | apply pw_below_drewN | apply below_drew1) | exact BW.out))
   ·
    have hi4 : i = 4 := by omega
    subst hi4
    go_wp2
    go_ret
    have hle : w.heap.size ≤ W1.heap.size := HWB.out.size
    refine ⟨_, rfl, ?_, ?_⟩
    ·
     rw [← HV.out]
     exact Kd.R_lower HN.out hle
    ·
     exact HWB.out.trans (Below.mono BW.out hle)
 ·
  cases h

/-! ### impl_HotSpots: function 17 -/
section
open Go.Maps
/-- Block b is a map of at most n entries that reads as f (ek: how a key stands in memory, ev: how an element reads). -/
def MapF {κ ν : Type} (P : Program) (k e : TypeId) (ek : κ → Value) (ev : ν → Lit) (w : World) (b n : Nat) (f : κ → Option ν) : Prop :=
 ∃ D : DataW Unit, w.ownsMap P k (plainElem P e) b n D ∧ Go.Maps.IsMap D ∧ ∀ x kl, keyOf P k (ek x) = some kl → ∀ z, D.atKey kl z = (match f x with | some v => .lit (ev v) | none => z)
variable {κ ν : Type} {P : Program} {k e : TypeId} {ek : κ → Value} {ev : ν → Lit} {w : World} {b n : Nat} {f : κ → Option ν}
theorem mapF_made (w : World) : MapF P k e ek ev (w.alloc (.map #[] 0)) w.heap.size 0 (fun _ => none) :=
 ⟨.map [], World.ownsMap_made w P k _, isMap_empty, fun _ _ _ _ => rfl⟩
theorem mapF_move {w1 : World} (h : MapF P k e ek ev w b n f) (hb : w1.heap[b]? = w.heap[b]?) : MapF P k e ek ev w1 b n f := by
 obtain ⟨D, ⟨es, clock, h1, h2⟩, h3⟩ := h
 exact ⟨D, ⟨es, clock, hb.trans h1, h2⟩, h3⟩
theorem mapF_lt (h : MapF P k e ek ev w b n f) : b < w.heap.size := by
 obtain ⟨D, h1, _⟩ := h
 exact h1.lt
theorem mapF_is (h : MapF P k e ek ev w b n f) : ∃ es clock, w.heap[b]? = some (.map es clock) := by
 obtain ⟨D, ⟨es, clock, h1, _⟩, _⟩ := h
 exact ⟨es, clock, h1⟩
theorem mapF_below {w1 : World} (h : MapF P k e ek ev w b n f) (hb : Below w.heap.size w w1) : MapF P k e ek ev w1 b n f := mapF_move h (hb.block b (mapF_lt h))
theorem mapF_ne {g t : Nat} {cells : Array Value} {fr : Nat × Nat} (h : MapF P k e ek ev w b n f) (hg : w.heap[g]? = some (.cells cells t fr)) : b ≠ g := by
 obtain ⟨es, clock, h1⟩ := mapF_is h
 rintro rfl
 rw [hg] at h1
 cases h1
theorem mapF_mono {n' : Nat} (h : MapF P k e ek ev w b n f) (hn : n ≤ n') : MapF P k e ek ev w b n' f := by
 obtain ⟨D, h1, h2⟩ := h
 exact ⟨D, h1.mono hn, h2⟩
theorem plainElem_bool_inv {H : Type} {P : Program} {e : TypeId} (he : P.underlying e = some .bool) {v : Value} {z : DataW H × List MemPlace} (h : plainElem P e v = some z) : ∃ a, v = .bool a ∧ z = (.lit (.bool a), []) := by
 unfold plainElem at h
 rw [he] at h
 cases v <;> simp at h
 exact ⟨_, rfl, h.symm⟩
theorem mapF_get_bool {f : κ → Option Bool} {t : TypeId} (h : MapF P k e ek (fun x => Lit.bool x) w b n f) (K : Keyed P k) (ht : P.underlying t = some (.map k e)) (he : P.underlying e = some .bool) (hz : ∀ W : World, (zeroValue e).run P W = .ok (.bool false) W) (x : κ) {kl : Lit} (hkey : keyOf P k (ek x) = some kl) :
  ∀ W : World, W.heap[b]? = w.heap[b]? → (Instr.lookup t (.map (some b)) (ek x) false).run P W = .ok (.bool ((f x).getD false)) W := by
 intro W hW
 obtain ⟨D, h1, h2, h3⟩ := mapF_move h hW
 obtain ⟨v, ps, hrun, hv⟩ := h1.lookup K ht (hz W) (plainElem_bool he false) hkey
 obtain ⟨c, rfl, hc⟩ := plainElem_bool_inv he hv
 rw [hrun, h3 x kl hkey] at *
 simp only [Prod.mk.injEq] at hc
 have hc1 := hc.1
 cases hf : f x with
 | none => rw [hf] at hc1; simp at hc1; rw [← hc1]; rfl
 | some v => rw [hf] at hc1; simp at hc1; rw [← hc1]; rfl
theorem mapF_put [DecidableEq κ] (hinj : ∀ x y, ek x = ek y → x = y) {t : TypeId} (h : MapF P k e ek ev w b n f) (K : Keyed P k) (ht : P.underlying t = some (.map k e)) (hn : n < maxLen) (x : κ) {kl : Lit} (hkey : keyOf P k (ek x) = some kl) (v : ν) {vv : Value} (hv : plainElem (H := Unit) P e vv = some (.lit (ev v), [])) :
  ∃ w', (Instr.mapUpdate t (.map (some b)) (ek x) vv).run P w = .ok () w' ∧ MapF P k e ek ev w' b (n + 1) (fun y => if y = x then some v else f y) ∧ w.grownBy w' (some b) := by
 obtain ⟨D, h1, h2, h3⟩ := h
 obtain ⟨w', hr, ho, hg⟩ := h1.update K ht hn hkey hv
 refine ⟨w', hr, ⟨_, ho, h2.put _ _, fun y ky hy z => ?_⟩, hg⟩
 by_cases hxy : y = x
 ·
  subst hxy
  rw [hkey] at hy
  obtain rfl := Option.some.inj hy
  rw [atKey_put_same h2 (K.key hkey)]
  simp
 ·
  simp only [if_neg hxy]
  rw [atKey_put_other (fun he => hxy (hinj _ _ (K.inj hy (by rw [he]; exact hkey)))), h3 y ky hy]
theorem wpList_putF [DecidableEq κ] (hinj : ∀ x y, ek x = ek y → x = y) {ops : Array Oper} {rest : List Oper} {o : Oper} {a : Act} {Q : Exit → Act → World → Prop}
  (hgd : o.guard = none) (m x v : Operand) (t : TypeId) (hop : o.op = Op.mapUpdate t m x v) (K : Keyed P k) (ht : P.underlying t = some (.map k e)) (h : MapF P k e ek ev w b n f) (hn : n < maxLen) (x0 : κ) (v0 : ν) (kl : Lit)
  (hm : a.eval m = .map (some b)) (hx : a.eval x = ek x0) (hkey : keyOf P k (ek x0) = some kl) (hval : plainElem (H := Unit) P e (a.eval v) = some (.lit (ev v0), []))
  (hK : ∀ w', MapF P k e ek ev w' b (n + 1) (fun y => if y = x0 then some v0 else f y) → w.grownBy w' (some b) → wpList P ops Q rest (a.put o.dst undef) w') :
  wpList P ops Q (o :: rest) a w := by
 refine wpList_plain hgd fun K' hK' => ?_
 obtain ⟨w', hrun, r1, r2⟩ := mapF_put hinj h K ht hn x0 hkey v0 hval
 unfold Oper.wp
 simp [execOp, hop, hm, hx, hrun, Result.andThen]
 exact hK' _ _ (hK w' r1 r2)
theorem wpList_getF_bool {f : κ → Option Bool} {ops : Array Oper} {rest : List Oper} {o : Oper} {a : Act} {Q : Exit → Act → World → Prop}
  (hgd : o.guard = none) (m x : Operand) (t : TypeId) (hop : o.op = Op.lookup t m x false) (K : Keyed P k) (ht : P.underlying t = some (.map k e)) (he : P.underlying e = some .bool) (hz : ∀ W : World, (zeroValue e).run P W = .ok (.bool false) W) (h : MapF P k e ek (fun x => Lit.bool x) w b n f) (x0 : κ) (kl : Lit)
  (hm : a.eval m = .map (some b)) (hx : a.eval x = ek x0) (hkey : keyOf P k (ek x0) = some kl) (hK : wpList P ops Q rest (a.put o.dst (.bool ((f x0).getD false))) w) :
  wpList P ops Q (o :: rest) a w := by
 refine wpList_plain hgd fun K' hK' => ?_
 have hrun := mapF_get_bool h K ht he hz x0 hkey w rfl
 unfold Oper.wp
 simp [execOp, hop, hm, hx, hrun, Result.andThen]
 exact hK' _ _ hK
/-- Below a number, past which the map lies. -/
theorem mapF_grown_below {w0 w1 : World} {B : Nat} (hB : Below B w0 w) (hg : w.grownBy w1 (some b)) (hb : B ≤ b) (hs : B ≤ w.heap.size) : Below B w0 w1 := hB.grown hg hs (fun k hk => by injection hk with hk; omega)
end

theorem hot_law : Go.Maps.Keyed Try.prog 123 := Go.Maps.Keyed.of_law (deep_law_laid (by kernel_rfl) (m := 2) (by omega) (of_decide_eq_true (by kernel_rfl)) (by kernel_rfl) (by rw [Try.underlying123]))
def hotE (p : Int × Int) : Value := .agg #[.int .i64 p.1, .int .i64 p.2]
theorem hotE_inj (x y : Int × Int) (h : hotE x = hotE y) : x = y := by
 cases x; cases y
 simp only [hotE] at h
 injection h with h
 simp at h
 simp [h.1, h.2]
theorem hot_key (p : Int × Int) (h0 : 0 ≤ p.1) (h1 : p.1 ≤ 1048576) (h2 : 0 ≤ p.2) (h3 : p.2 ≤ 1048576) : ∃ kl, keyOf Try.prog 123 (hotE p) = some kl := by
 have hk : Try.prog.keyType 123 = true := by kernel_rfl
 have hw0 : (Lit.int .i64 p.1).wf = true := WalkArith.wf_i64 (by omega)
 have hw1 : (Lit.int .i64 p.2).wf = true := WalkArith.wf_i64 (by omega)
 have hc0 : Try.prog.cellsOf 123 = 2 := by kernel_rfl
 have hc1 : Try.prog.cellsOf 3 = 1 := by kernel_rfl
 have hf : (hotE p).formed Try.prog 123 = true := by simp [hotE, Value.formed, Try.underlying123, hc0]
 obtain ⟨m, hm⟩ : ∃ m, Try.prog.types.size + 1 = m + 1 + 1 := ⟨Try.prog.types.size - 1, by have : 1 ≤ Try.prog.types.size := of_decide_eq_true (by kernel_rfl); omega⟩
 unfold keyOf
 rw [Try.underlying123]
 simp only [hk, hf, Bool.and_self, if_true, hm]
 have hkl : Try.prog.keyLits (m + 1 + 1) 123 (hotE p).cells.toList = some [.int .i64 p.1, .int .i64 p.2] := by
  simp [Program.keyLits, Try.underlying123, Try.underlying3, hotE, Value.cells, hc0, hc1, hw0, hw1]
 rw [hkl]
 exact ⟨_, rfl⟩

def hotV (l : List (List Int)) (r c : Int) : Int := rd (l.getD r.toNat ([] : List Int)) c
def hotF (seen : List (Int × Int)) (p : Int × Int) : Option Bool := if p ∈ seen then some true else none
def hotN (l : List (List Int)) (lim : Int) : List S123 → List (Int × Int) → List S123 → List (Int × Int) × List S123
 | [], seen, work => (seen, work)
 | x :: xs, seen, work => if (x.f0, x.f1) ∉ seen ∧ lim < hotV l x.f0 x.f1 then hotN l lim xs (seen ++ [(x.f0, x.f1)]) (work ++ [x]) else hotN l lim xs seen work
def hotW (l : List (List Int)) (lim : Int) : Nat → List (Int × Int) → List S123 → Int → Int → Option (List (Int × Int) × Int × Int)
 | 0, _, _, _, _ => none
 | k + 1, seen, work, cells, peak => match work with
  | [] => some (seen, cells, peak)
  | x :: rest => if seen.length ≤ 1000000 ∧ (x :: rest).length ≤ 1000000 ∧ 0 ≤ cells ∧ cells ≤ 1000000 then
    hotW l lim k (hotN l lim (nearL l x.f0 x.f1 4) seen (x :: rest)).1 ((hotN l lim (nearL l x.f0 x.f1 4) seen (x :: rest)).2.drop 1) (cells + 1) (mx peak (hotV l x.f0 x.f1))
   else none
def hotC (k : Nat) (l : List (List Int)) (lim : Int) (r : Nat) : Nat → Nat → List (Int × Int) → List S116 → Option (List (Int × Int) × List S116)
 | 0, _, seen, spots => some (seen, spots)
 | m + 1, c, seen, spots => if seen.length ≤ 1000000 ∧ spots.length ≤ 1000000 then (if ((r : Int), (c : Int)) ∈ seen ∨ hotV l r c ≤ lim then hotC k l lim r m (c + 1) seen spots
   else (hotW l lim k (seen ++ [((r : Int), (c : Int))]) [⟨(r : Int), (c : Int)⟩] 0 (hotV l r c)).bind fun q => hotC k l lim r m (c + 1) q.1 (spots ++ [⟨(r : Int), (c : Int), q.2.1, q.2.2⟩])) else none
def hotR (k : Nat) (l : List (List Int)) (lim : Int) : Nat → Nat → List (Int × Int) → List S116 → Option (List (Int × Int) × List S116)
 | 0, _, seen, spots => some (seen, spots)
 | m + 1, r, seen, spots => (hotC k l lim r (l.getD r ([] : List Int)).length 0 seen spots).bind fun q => hotR k l lim m (r + 1) q.1 q.2
def hotRect (l : List (List Int)) : Bool := decide (0 < l.length) && decide (l.length ≤ 1048576) && decide ((l.getD 0 ([] : List Int)).length ≤ 1048576) && l.all fun x => decide (x.length = (l.getD 0 ([] : List Int)).length)
def impl_HotSpots.f (k : Nat) (l0 : List (List Int)) (a1 : Int) : Option (List S116 × Int) :=
 (impl_ValidImage.f k l0).bind fun t => if t = true then (if inB (-5000) 20000 a1 = true then (if hotRect l0 = true then (hotR k l0 a1 l0.length 0 [] []).bind fun q => if q.2.length > 64 then some ([], 5) else some (q.2, 0) else none) else some ([], 2)) else some ([], 1)
theorem hotW.mono (l : List (List Int)) (lim : Int) : ∀ k seen work cells peak, LeO (hotW l lim k seen work cells peak) (hotW l lim (k + 1) seen work cells peak)
 | 0, _, _, _, _ => by rw [hotW]; exact LeO.none _
 | k + 1, seen, [], cells, peak => by rw [hotW, hotW]; exact LeO.refl _
 | k + 1, seen, x :: rest, cells, peak => by
  rw [hotW, hotW]
  exact LeO.ite (hotW.mono l lim k _ _ _ _) (LeO.none _)
theorem hotC.mono (k : Nat) (l : List (List Int)) (lim : Int) (r : Nat) : ∀ m c seen spots, LeO (hotC k l lim r m c seen spots) (hotC (k + 1) l lim r m c seen spots)
 | 0, _, _, _ => by rw [hotC, hotC]; exact LeO.refl _
 | m + 1, c, seen, spots => by
  rw [hotC, hotC]
  exact LeO.ite (LeO.ite (hotC.mono k l lim r m _ _ _) (LeO.bind (hotW.mono l lim k _ _ _ _) (fun q => hotC.mono k l lim r m _ _ _))) (LeO.none _)
theorem hotR.mono (k : Nat) (l : List (List Int)) (lim : Int) : ∀ m r seen spots, LeO (hotR k l lim m r seen spots) (hotR (k + 1) l lim m r seen spots)
 | 0, _, _, _ => by rw [hotR, hotR]; exact LeO.refl _
 | m + 1, r, seen, spots => by
  rw [hotR, hotR]
  exact LeO.bind (hotC.mono k l lim r _ _ _ _) (fun q => hotR.mono k l lim m _ _ _)
theorem impl_HotSpots.mono (l0 : List (List Int)) (a1 : Int) (k : Nat) : LeO (impl_HotSpots.f k l0 a1) (impl_HotSpots.f (k + 1) l0 a1) := by
 unfold impl_HotSpots.f
 refine LeO.bind (impl_ValidImage.mono _ _) (fun t => ?_)
 refine LeO.ite (LeO.ite (LeO.ite (LeO.bind (hotR.mono k l0 a1 _ _ _ _) (fun q => LeO.refl _)) (LeO.refl _)) (LeO.refl _)) (LeO.refl _)
/-- What stands in memory while a part is being walked. -/
structure Hot1 (w0 w : World) (bm : Nat) (seen : List (Int × Int)) (vs : Value) (spots : List S116) : Prop where
 below : Below w0.heap.size w0 w
 map : MapF Try.prog 123 4 hotE (fun x : Bool => Lit.bool x) w bm seen.length (hotF seen)
 rs : Kd.R k116 116 w w0.heap.size (fun k => k ≠ bm) vs spots
 lo : w0.heap.size ≤ bm
structure Hot3 (w0 w : World) (bm bx : Nat) (row col cells peak : Int) (seen : List (Int × Int)) (vs : Value) (spots : List S116) (vw : Value) (work : List S123) : Prop where
 below : Below w0.heap.size w0 w
 map : MapF Try.prog 123 4 hotE (fun x : Bool => Lit.bool x) w bm seen.length (hotF seen)
 rs : Kd.R k116 116 w w0.heap.size (fun k => k ≠ bx ∧ k ≠ bm) vs spots
 rw : Kd.Q k123 123 w w0.heap.size (fun k => k ≠ bx ∧ k ≠ bm) vw work
 box : w.heap[bx]? = some (.cells #[.int .i64 row, .int .i64 col, .int .i64 cells, .int .i64 peak] 116 (0, 0))
 lo : w0.heap.size ≤ bm
 lx : w0.heap.size ≤ bx
theorem hotF_snoc (seen : List (Int × Int)) (p : Int × Int) : (fun y => if y = p then some true else hotF seen y) = hotF (seen ++ [p]) := by
 funext y
 unfold hotF
 by_cases h : y = p
 ·
  simp [h]
 ·
  simp [h]
theorem Hot1.move {w0 w w1 : World} {bm : Nat} {seen vs spots} (h : Hot1 w0 w bm seen vs spots) (hb : Below w.heap.size w w1) : Hot1 w0 w1 bm seen vs spots :=
 ⟨h.below.trans (hb.mono h.below.size), mapF_below h.map hb, Kd.R_below h.rs hb, h.lo⟩
theorem Hot3.move {w0 w w1 : World} {bm bx : Nat} {r c ce pe seen vs spots vw work} (h : Hot3 w0 w bm bx r c ce pe seen vs spots vw work) (hb : Below w.heap.size w w1) : Hot3 w0 w1 bm bx r c ce pe seen vs spots vw work :=
 ⟨h.below.trans (hb.mono h.below.size), mapF_below h.map hb, Kd.R_below h.rs hb, Kd.Q_below h.rw hb, (hb.block bx (blk_lt h.box)).trans h.box, h.lo, h.lx⟩
theorem Hot3.cells_ {w0 w : World} {bm bx : Nat} {r c ce pe seen vs spots vw work} (h : Hot3 w0 w bm bx r c ce pe seen vs spots vw work) (ce1 : Int) : Hot3 w0 (w.setCell ⟨bx, 2, none⟩ (.int .i64 ce1)) bm bx r c ce1 pe seen vs spots vw work := by
 have hne : bm ≠ bx := mapF_ne h.map h.box
 refine ⟨below_set h.below h.lx, mapF_move h.map (Below.heap_setCell w _ _ bm hne), Kd.R_far (p := ⟨bx, 2, none⟩) h.rs (fun k hk => hk.1) _, Kd.Q_far (p := ⟨bx, 2, none⟩) h.rw (fun k hk => hk.1) _, ?_, h.lo, h.lx⟩
 have := blk_set h.box 2 (.int .i64 ce1)
 simpa using this
theorem Hot3.peak_ {w0 w : World} {bm bx : Nat} {r c ce pe seen vs spots vw work} (h : Hot3 w0 w bm bx r c ce pe seen vs spots vw work) (pe1 : Int) : Hot3 w0 (w.setCell ⟨bx, 3, none⟩ (.int .i64 pe1)) bm bx r c ce pe1 seen vs spots vw work := by
 have hne : bm ≠ bx := mapF_ne h.map h.box
 refine ⟨below_set h.below h.lx, mapF_move h.map (Below.heap_setCell w _ _ bm hne), Kd.R_far (p := ⟨bx, 3, none⟩) h.rs (fun k hk => hk.1) _, Kd.Q_far (p := ⟨bx, 3, none⟩) h.rw (fun k hk => hk.1) _, ?_, h.lo, h.lx⟩
 have := blk_set h.box 3 (.int .i64 pe1)
 simpa using this
theorem Hot3.put_ {w0 w w1 : World} {bm bx : Nat} {r c ce pe seen vs spots vw work} (h : Hot3 w0 w bm bx r c ce pe seen vs spots vw work) (p : Int × Int)
  (hm : MapF Try.prog 123 4 hotE (fun x : Bool => Lit.bool x) w1 bm (seen.length + 1) (fun y => if y = p then some true else hotF seen y)) (hg : w.grownBy w1 (some bm)) : Hot3 w0 w1 bm bx r c ce pe (seen ++ [p]) vs spots vw work := by
 have hne : bm ≠ bx := mapF_ne h.map h.box
 rw [hotF_snoc] at hm
 exact ⟨mapF_grown_below h.below hg h.lo h.below.size, by rw [List.length_append]; exact hm, Kd.R_grown h.rs hg (fun k hk => by simpa using hk.2), Kd.Q_grown h.rw hg (fun k hk => by simpa using hk.2),
  (hg.block bx (blk_lt h.box) (by simpa using hne.symm)).trans h.box, h.lo, h.lx⟩
theorem Hot1.put_ {w0 w w1 : World} {bm : Nat} {seen vs spots} (h : Hot1 w0 w bm seen vs spots) (p : Int × Int)
  (hm : MapF Try.prog 123 4 hotE (fun x : Bool => Lit.bool x) w1 bm (seen.length + 1) (fun y => if y = p then some true else hotF seen y)) (hg : w.grownBy w1 (some bm)) : Hot1 w0 w1 bm (seen ++ [p]) vs spots := by
 rw [hotF_snoc] at hm
 exact ⟨mapF_grown_below h.below hg h.lo h.below.size, by rw [List.length_append]; exact hm, Kd.R_grown h.rs hg (fun k hk => by simpa using hk), h.lo⟩
theorem Hot3.app_ {w0 w w1 : World} {bm bx : Nat} {r c ce pe seen vs spots vw v1 work work1} (h : Hot3 w0 w bm bx r c ce pe seen vs spots vw work) (hq : Kd.Q k123 123 w1 w0.heap.size (fun k => k ≠ bx ∧ k ≠ bm) v1 work1) (hb : Below w0.heap.size w0 w1) (hg : w.grownBy w1 vw.ownBlock) : Hot3 w0 w1 bm bx r c ce pe seen vs spots v1 work1 := by
 have hx : some bx ≠ vw.ownBlock := Kd.Q_away h.rw (fun k hk => hk.1)
 have hmm : some bm ≠ vw.ownBlock := Kd.Q_away h.rw (fun k hk => hk.2)
 refine ⟨hb, mapF_move h.map (hg.block bm (mapF_lt h.map) hmm), ?_, hq, (hg.block bx (blk_lt h.box) hx).trans h.box, h.lo, h.lx⟩
 refine Kd.R_over' h.rs (e' := 123) (fun k hk => ?_) (by decide) hg
 obtain ⟨_, inner, hr, _⟩ := h.rw
 exact (q_typed hr k hk).2
theorem hot_img {W : World} {ad : Addr} {n : Nat} {l : List (List Int)} (h : Kd.C (Kd.slice 2 (Kd.int .i64)) W (some ad) n l) (r : Int) (h0 : 0 ≤ r) (h1 : r < n) : ∃ A1 c1, W.cell? (ad.add r.toNat) = some (.slice A1 (l.getD r.toNat ([] : List Int)).length c1) ∧ Kd.C (Kd.int .i64) W A1 (l.getD r.toNat ([] : List Int)).length (l.getD r.toNat ([] : List Int)) := by
 obtain ⟨ad1, cs, e, _, hK, hcc⟩ := Kd.C_get h ([] : List Int) r h0 h1
 obtain ⟨A1, c1, rfl, hle, hC⟩ := hK
 injection e with e
 subst e
 have hx := hcc 0 _ rfl
 rw [show r.toNat * (Kd.slice 2 (Kd.int .i64)).sz + 0 = r.toNat from by show r.toNat * 1 + 0 = r.toNat; omega] at hx
 exact ⟨A1, c1, hx, hC⟩
theorem hot_start {w0 wr w4 : World} {bm : Nat} {seen : List (Int × Int)} {vs : Value} {spots : List S116} (h : Hot1 w0 wr bm seen vs spots) (r c px : Int)
  (hm : MapF Try.prog 123 4 hotE (fun x : Bool => Lit.bool x) w4 bm (seen.length + 1) (fun y => if y = (r, c) then some true else hotF seen y))
  (hg : ((wr.alloc (.cells #[.int .i64 r, .int .i64 c] 123)).alloc (.cells #[.int .i64 r, .int .i64 c, .int .i64 0, .int .i64 px] 116)).grownBy w4 (some bm)) :
  w4.heap[wr.heap.size]? = some (.cells #[.int .i64 r, .int .i64 c] 123 (0, 0)) ∧
  Hot3 w0 (w4.alloc (.cells #[.int .i64 r, .int .i64 c] 123)) bm (wr.heap.size + 1) r c 0 px (seen ++ [(r, c)]) vs spots (.slice (some ⟨w4.heap.size, 0, none⟩) 1 1) [(⟨r, c⟩ : S123)] := by
 have hlt := mapF_lt h.map
 have hb := below_alloc (below_alloc (Below.refl wr.heap.size wr) (.cells #[.int .i64 r, .int .i64 c] 123)) (.cells #[.int .i64 r, .int .i64 c, .int .i64 0, .int .i64 px] 116)
 have h2 := h.move hb
 have hs1 : (wr.alloc (.cells #[.int .i64 r, .int .i64 c] 123)).heap.size = wr.heap.size + 1 := by simp
 have b1 := blk_below (blk_new wr (.cells #[.int .i64 r, .int .i64 c] 123)) (below_alloc (Below.refl _ _) (.cells #[.int .i64 r, .int .i64 c, .int .i64 0, .int .i64 px] 116))
 have b2 := blk_new (wr.alloc (.cells #[.int .i64 r, .int .i64 c] 123)) (.cells #[.int .i64 r, .int .i64 c, .int .i64 0, .int .i64 px] 116)
 rw [hs1] at b2
 have c1 := (hg.block _ (blk_lt b1) (by intro he; injection he with he; omega)).trans b1
 have c2 := (hg.block _ (blk_lt b2) (by intro he; injection he with he; omega)).trans b2
 rw [hotF_snoc] at hm
 have hr1 : Kd.R k116 116 wr w0.heap.size (fun k => k ≠ wr.heap.size + 1 ∧ k ≠ bm) vs spots := Kd.R_mono (Kd.R_bound h.rs) (fun k hk => ⟨by have := hk.2.2.1; omega, hk.1⟩)
 have hr2 := Kd.R_grown (Kd.R_alloc (Kd.R_alloc hr1 (.cells #[.int .i64 r, .int .i64 c] 123)) (.cells #[.int .i64 r, .int .i64 c, .int .i64 0, .int .i64 px] 116)) hg (fun k hk => by simpa using hk.2)
 have hbe := mapF_grown_below h2.below hg h2.lo h2.below.size
 have hx1 := blk_lt c2
 have hm1 := mapF_lt hm
 refine ⟨c1, below_alloc hbe _, mapF_below (by rw [List.length_append]; exact hm) (below_alloc (Below.refl _ _) _), Kd.R_alloc hr2 _, ?_, blk_below c2 (below_alloc (Below.refl _ _) _), h.lo, Nat.le_succ_of_le h.below.size⟩
 refine ⟨fun k hk => ?_, [.int .i64 r, .int .i64 c], ⟨rfl, .inr ⟨w4.heap.size, 0, 1, #[.int .i64 r, .int .i64 c], by rw [Nat.zero_mul]; rfl, hbe.size, blk_new _ _, Nat.le_refl _, by unfold maxLen; omega, rfl, rfl⟩⟩, rfl, fun j p hp => ?_⟩
 ·
  have e : w4.heap.size = k := by simpa [Value.ownBlock] using hk
  subst e
  exact ⟨by omega, by omega⟩
 ·
  cases j with
  | zero =>
   obtain rfl : (⟨r, c⟩ : S123) = p := by simpa using hp
   exact k123_mkM _ _ _ _
  | succ j => simp at hp
theorem hot_px {w : World} {ad : Addr} {l : List (List Int)} {m0 : Nat} (h : Kd.C (Kd.slice 2 (Kd.int .i64)) w (some ad) l.length l) (hrows : ∀ i : Nat, i < l.length → (l.getD i ([] : List Int)).length = m0) (r c : Int) (h0 : 0 ≤ r) (h1 : r < (l.length : Int)) (h2 : 0 ≤ c) (h3 : c < (m0 : Int)) :
  ∃ ad1 c1, ∀ W : World, Below w.heap.size w W → W.cell? (ad.add r.toNat) = some (.slice (some ad1) m0 c1) ∧ W.cell? (ad1.add c.toNat) = some (.int .i64 (hotV l r c)) := by
 obtain ⟨A1, c1, hx, hC⟩ := hot_img h r h0 h1
 have hm := hrows r.toNat (by omega)
 rw [hm] at hx hC
 obtain ⟨ad1, rfl, hy⟩ := Kd.at_int hC c h2 h3
 exact ⟨ad1, c1, fun W hb => ⟨(hb.cell (World.block_lt_of_cell? _ _ hx)).trans hx, (hb.cell (World.block_lt_of_cell? _ _ hy)).trans hy⟩⟩
theorem Hot3.head {w0 w : World} {bm bx : Nat} {r c ce pe seen vs spots} {ad : Addr} {n cp : Nat} {x : S123} {rest : List S123} (h : Hot3 w0 w bm bx r c ce pe seen vs spots (.slice (some ad) n cp) (x :: rest)) :
  w.cell? ad = some (.int .i64 x.f0) ∧ w.cell? ⟨ad.block, ad.off + 1, none⟩ = some (.int .i64 x.f1) := by
 obtain ⟨hn, hnc, hC⟩ := Kd.Q_reads' h.rw
 obtain ⟨ad', e, h0, h1⟩ := at_T123 hC 0 (by omega) (by rw [List.length_cons]; omega)
 injection e with e
 subst e
 have e : ad.add ((0 : Int).toNat * 2) = ad := by simp [Addr.add]
 rw [e] at h0 h1
 exact ⟨h0, h1⟩
theorem nearL_in (l : List (List Int)) (r c : Int) (i : Nat) : ∀ y ∈ nearL l r c i, 0 ≤ y.f0 ∧ y.f0 < (l.length : Int) ∧ 0 ≤ y.f1 ∧ y.f1 < ((l.getD 0 ([] : List Int)).length : Int) := by
 intro y hy
 have h := (List.mem_filter.1 hy).2
 unfold nearB at h
 simpa using h
theorem hotRect_facts {l : List (List Int)} (h : hotRect l = true) : 0 < l.length ∧ l.length ≤ 1048576 ∧ (l.getD 0 ([] : List Int)).length ≤ 1048576 ∧ ∀ i : Nat, i < l.length → (l.getD i ([] : List Int)).length = (l.getD 0 ([] : List Int)).length := by
 unfold hotRect at h
 simp only [Bool.and_eq_true, decide_eq_true_eq, List.all_eq_true] at h
 obtain ⟨⟨⟨h1, h2⟩, h3⟩, h4⟩ := h
 refine ⟨h1, h2, h3, fun i hi => h4 _ ?_⟩
 rw [List.getD_eq_getElem?_getD, List.getElem?_eq_getElem hi]
 exact List.getElem_mem _
set_option maxHeartbeats 4000000 in
set_option maxRecDepth 100000 in
theorem impl_HotSpots.calls (k : Nat) (A0 : Option Addr) (c0 : Nat) (l0 : List (List Int)) (a1 : Int) (r1 : List S116) (r2 : Int) (w : World) (hr0 : Kd.C (Kd.slice 2 (Kd.int .i64)) w A0 l0.length l0) (hc0 : l0.length ≤ c0) (h : impl_HotSpots.f k l0 a1 = some (r1, r2)) :
  Calls Try.prog 17 #[.slice A0 l0.length c0, .int .i64 a1] w fun e w' => ∃ v0_ : Value, e = .returned (.tuple #[v0_, .int .i64 r2]) ∧ Kd.R k116 116 w' w.heap.size (fun _ => True) v0_ r1 ∧ Below w.heap.size w w' := by
 have HR := Aside0.mk hr0
 have HC := Aside0.mk hc0
 clear hr0 hc0
 obtain ⟨t, ht, h⟩ := Option.bind_eq_some_iff.1 h
 have HV := Aside0.mk (fun W (hb : Below w.heap.size w W) => impl_ValidImage.calls k A0 c0 l0 t W (Kd.C_below HR.out hb) HC.out ht)
 clear ht
 cases t with
 | false =>
  simp only [Bool.false_eq_true, if_false] at h
  obtain ⟨rfl, rfl⟩ := Prod.mk.injEq _ _ _ _ ▸ Option.some.inj h
  go_enter Try.func17, Try.ntmps17
  go_wp2_with (go_at_call 88; refine (HV.out _ (Below.refl _ _)).mono ?_; rintro e w1 ⟨rfl, hb⟩)
  go_ret2
  exact ⟨_, rfl, Kd.R_nil _ _ _ _ _, hb⟩
 | true =>
  simp only [if_true] at h
  cases hib : inB (-5000) 20000 a1 with
  | false =>
   simp only [hib, Bool.false_eq_true, if_false] at h
   obtain ⟨rfl, rfl⟩ := Prod.mk.injEq _ _ _ _ ▸ Option.some.inj h
   have HI := Aside0.mk (fun W => hib ▸ within_all a1 (-5000) 20000 W)
   clear hib
   go_enter Try.func17, Try.ntmps17
   go_wp2_with (first | (go_at_call 88; refine (HV.out _ (Below.refl _ _)).mono ?_; rintro e w1 ⟨rfl, hb⟩) | (go_at_call 89; refine (HI.out _).mono ?_; rintro e w' ⟨rfl, rfl⟩))
   go_ret2
   exact ⟨_, rfl, Kd.R_nil _ _ _ _ _, hb⟩
  | true =>
   simp only [hib, if_true] at h
   split at h
   ·
    rename_i hrect
    have HI := Aside0.mk (fun W => hib ▸ within_all a1 (-5000) 20000 W)
    clear hib
    obtain ⟨⟨seenE, spotsE⟩, hq, h⟩ := Option.bind_eq_some_iff.1 h
    have HQ := Aside0.mk hq
    have HH := Aside0.mk h
    clear hq h
    obtain ⟨hl0, hl1, hm1, hrows⟩ := hotRect_facts hrect
    obtain ⟨m0, hm0⟩ : ∃ m0, m0 = (l0.getD 0 ([] : List Int)).length := ⟨_, rfl⟩
    rw [← hm0] at hm1 hrows
    have HM0 := Aside0.mk hm0
    have HRW := Aside0.mk hrows
    clear hm0 hrows hrect
    obtain ⟨ad0, _, rfl, _, _, _⟩ := Kd.C_get HR.out ([] : List Int) 0 (by omega) (by omega)
    have hmm := @run_makeMap Try.prog
    go_enter Try.func17, Try.ntmps17
    go_wp2_with (first | (go_at_call 88; refine (HV.out _ (Below.refl _ _)).mono ?_; rintro e w1 ⟨rfl, hb⟩) | (go_at_call 89; refine (HI.out _).mono ?_; rintro e w' ⟨rfl, rfl⟩))
    have HS1 := Aside0.mk (show Hot1 w (w1.alloc (.map #[] 0)) w1.heap.size [] (.slice none 0 0) [] from ⟨below_alloc hb _, mapF_made w1, Kd.R_nil _ _ _ _ _, hb.size⟩)
    clear hb hmm
    go_loopg [7, 26] l0.length (fun gg s7 s26 wr => ∃ (r : Nat) (seen : List (Int × Int)) (spots : List S116), r ≤ l0.length ∧ l0.length - r ≤ gg ∧ s26 = .int .i64 (r : Int) ∧ Aside0 (Hot1 w wr w1.heap.size seen s7 spots) ∧ Aside0 (hotR k l0 a1 (l0.length - r) r seen spots = some (seenE, spotsE)))
    case atStart => exact ⟨0, [], [], Nat.zero_le _, by omega, rfl, HS1, ⟨by rw [Nat.sub_zero]; exact HQ.out⟩⟩
    case round =>
     obtain ⟨r, seen, spots, hrn, hgg, rfl, HS, HQR⟩ := hrel
     by_cases hlr : r < l0.length
     ·
      have hlrz : (r : Int) < (l0.length : Int) := by omega
      have HQ2 := HQR.out
      rw [show l0.length - r = (l0.length - (r + 1)) + 1 by omega, hotR] at HQ2
      obtain ⟨⟨seen1, spots1⟩, hqc, HQ3⟩ := Option.bind_eq_some_iff.1 HQ2
      have HQ3 := Aside0.mk HQ3
      rw [HRW.out r hlr] at hqc
      have HQC := Aside0.mk hqc
      clear HQ2 hqc HQR
      obtain ⟨A1, c1, hx1, hC1⟩ := hot_img (Kd.C_below HR.out HS.out.below) (r : Int) (by omega) hlrz
      rw [Int.toNat_natCast, HRW.out r hlr] at hx1
      have HX1 := Aside0.mk hx1
      have HC1 := Aside0.mk hC1
      go_wp2
      clear hx1 hC1
      go_loopg [7, 34] m0 (fun gg s7 s34 wr2 => ∃ (c : Nat) (seen2 : List (Int × Int)) (spots2 : List S116), c ≤ m0 ∧ m0 - c ≤ gg ∧ s34 = .int .i64 (c : Int) ∧ Aside0 (Hot1 w wr2 w1.heap.size seen2 s7 spots2) ∧ Aside0 (hotC k l0 a1 r (m0 - c) c seen2 spots2 = some (seen1, spots1)))
      case atStart => exact ⟨0, seen, spots, Nat.zero_le _, by omega, rfl, HS, ⟨by rw [Nat.sub_zero]; exact HQC.out⟩⟩
      case round =>
       obtain ⟨c, seen2, spots2, hcn, hgg2, rfl, HS2, HQC2⟩ := hrel
       by_cases hlc : c < m0
       ·
        have hlcz : (c : Int) < (m0 : Int) := by omega
        have HQ2 := HQC2.out
        rw [show m0 - c = (m0 - (c + 1)) + 1 by omega, hotC] at HQ2
        split at HQ2
        ·
         rename_i hsmall
         obtain ⟨hs1, hs2⟩ := hsmall
         obtain ⟨kl, hkl⟩ := hot_key ((r : Int), (c : Int)) (by show (0 : Int) ≤ (r : Int); omega) (by show (r : Int) ≤ 1048576; omega) (by show (0 : Int) ≤ (c : Int); omega) (by show (c : Int) ≤ 1048576; omega)
         have HKL := Aside0.mk hkl
         obtain ⟨A1', c1', hx2, hC2⟩ := hot_img (Kd.C_below HR.out HS2.out.below) (r : Int) (by omega) hlrz
         rw [Int.toNat_natCast] at hx2 hC2
         rw [HRW.out r hlr] at hx2 hC2
         obtain ⟨ad1, rfl, hx3⟩ := Kd.at_int hC2 (c : Int) (by omega) hlcz
         rw [Int.toNat_natCast] at hx3
         have hv : rd (l0.getD r ([] : List Int)) (c : Int) = hotV l0 (r : Int) (c : Int) := by unfold hotV; rw [Int.toNat_natCast]
         rw [hv] at hx3
         generalize hotV l0 (r : Int) (c : Int) = px at hx3 HQ2
         have hx2o : ∀ o, (wr.alloc o).cell? (ad0.add r) = some (.slice (some ad1) m0 c1') := fun o => (Below.cell (below_alloc (Below.refl _ wr) o) (World.block_lt_of_cell? _ _ hx2)).trans hx2
         have hx3o : ∀ o, (wr.alloc o).cell? (ad1.add c) = some (.int .i64 px) := fun o => (Below.cell (below_alloc (Below.refl _ wr) o) (World.block_lt_of_cell? _ _ hx3)).trans hx3
         have HMF := Aside0.mk (fun o => mapF_below HS2.out.map (below_alloc (Below.refl _ wr) o))
         have hz4 : ∀ W : World, (zeroValue 4).run Try.prog W = .ok (.bool false) W := fun _ => by kernel_rfl
         have HZ4 := Aside0.mk hz4
         clear hz4 hx2 hx3 hC2 hv hkl
         by_cases hin : ((r : Int), (c : Int)) ∈ seen2
         ·
          have HQ2 := Aside0.mk (show hotC k l0 a1 r (m0 - (c + 1)) (c + 1) seen2 spots2 = some (seen1, spots1) from by rw [if_pos (.inl hin)] at HQ2; exact HQ2)
          have hgf : (hotF seen2 ((r : Int), (c : Int))).getD false = true := by unfold hotF; rw [if_pos hin]; rfl
          have HGF := Aside0.mk hgf
          clear hgf hin
          go_wp2_with (at_lookup; refine wpList_getF_bool (ek := hotE) rfl _ _ 121 rfl hot_law Try.underlying121 Try.underlying4 HZ4.out (HMF.out _) ((r : Int), (c : Int)) kl rfl rfl HKL.out ?_; rw [HGF.out])
          go_roundg (m0 - (c + 1))
          case measure => omega
          case rel => exact ⟨c + 1, seen2, spots2, by omega, by omega, by go_num, ⟨HS2.out.move (below_alloc (Below.refl _ _) _)⟩, HQ2⟩
         ·
          have hgf : (hotF seen2 ((r : Int), (c : Int))).getD false = false := by unfold hotF; rw [if_neg hin]; rfl
          have HGF := Aside0.mk hgf
          clear hgf
          by_cases hpx : px ≤ a1
          ·
           have HQ2 := Aside0.mk (show hotC k l0 a1 r (m0 - (c + 1)) (c + 1) seen2 spots2 = some (seen1, spots1) from by rw [if_pos (.inr hpx)] at HQ2; exact HQ2)
           have dpx : decide (px ≤ a1) = true := decide_eq_true hpx
           clear hin hpx
           go_wp2_with (at_lookup; refine wpList_getF_bool (ek := hotE) rfl _ _ 121 rfl hot_law Try.underlying121 Try.underlying4 HZ4.out (HMF.out _) ((r : Int), (c : Int)) kl rfl rfl HKL.out ?_; rw [HGF.out])
           go_roundg (m0 - (c + 1))
           case measure => omega
           case rel => exact ⟨c + 1, seen2, spots2, by omega, by omega, by go_num, ⟨HS2.out.move (below_alloc (Below.refl _ _) _)⟩, HQ2⟩
          ·
           have HQ2 := (show ((hotW l0 a1 k (seen2 ++ [((r : Int), (c : Int))]) [⟨(r : Int), (c : Int)⟩] 0 px).bind fun q => hotC k l0 a1 r (m0 - (c + 1)) (c + 1) q.1 (spots2 ++ [⟨(r : Int), (c : Int), q.2.1, q.2.2⟩])) = some (seen1, spots1) from by rw [if_neg (fun h => h.elim hin hpx)] at HQ2; exact HQ2)
           obtain ⟨⟨seen3, cells3, peak3⟩, hw3, HQ3'⟩ := Option.bind_eq_some_iff.1 HQ2
           have HW3 := Aside0.mk hw3
           have HQ4 := Aside0.mk HQ3'
           have dpx : decide (px ≤ a1) = false := decide_eq_false hpx
           have HMF2 := Aside0.mk (fun o o' => mapF_below (HMF.out o) (below_alloc (Below.refl _ _) o'))
           clear hin hpx hw3 HQ3' HQ2
           have HBL := Aside0.mk (fun (w4 : World) hm hg => hot_start (w4 := w4) HS2.out (r : Int) (c : Int) px hm hg)
           go_wp2_with (first | (at_lookup; refine wpList_getF_bool (ek := hotE) rfl _ _ 121 rfl hot_law Try.underlying121 Try.underlying4 HZ4.out (HMF.out _) ((r : Int), (c : Int)) kl rfl rfl HKL.out ?_; rw [HGF.out]) | (at_mapUpdate; refine wpList_putF (ek := hotE) hotE_inj rfl _ _ _ 121 rfl hot_law Try.underlying121 (HMF2.out _ _) (by unfold maxLen; omega) ((r : Int), (c : Int)) true kl rfl rfl HKL.out (plainElem_bool Try.underlying4 true) ?_; intro w4 hm4 hg4; have HBB := Aside0.mk (HBL.out w4 hm4 hg4); clear hm4 hg4; have hb0 := (blk_cell HBB.out.1 0).trans rfl; have hb1 := (blk_cell HBB.out.1 1).trans rfl))
           have HS3 := Aside0.mk HBB.out.2
           clear HBB hb0 hb1 HGF HBL HMF2 HMF dpx hx2o hx3o
           obtain ⟨wo, rfl⟩ : ∃ wo : World, wo = wr := ⟨_, rfl⟩
           go_loopg [12] k (fun gg s12 wr3 => ∃ (seen4 : List (Int × Int)) (work : List S123) (cells peak : Int), Aside0 (Hot3 w wr3 w1.heap.size (wo.heap.size + 1) (r : Int) (c : Int) cells peak seen4 u7 spots2 s12 work) ∧ Aside0 (hotW l0 a1 gg seen4 work cells peak = some (seen3, cells3, peak3)) ∧ Aside0 (∀ y ∈ work, 0 ≤ y.f0 ∧ y.f0 < (l0.length : Int) ∧ 0 ≤ y.f1 ∧ y.f1 < (m0 : Int)))
           case atStart => exact ⟨_, _, 0, px, HS3, HW3, ⟨fun y hy => by obtain rfl := List.mem_singleton.1 hy; exact ⟨Int.natCast_nonneg _, hlrz, Int.natCast_nonneg _, hlcz⟩⟩⟩
           case round =>
            obtain ⟨seen4, work, cells, peak, HS4, HW4, HRG⟩ := hrel
            cases gk with
            | zero => exact absurd HW4.out (by simp [hotW])
            | succ g =>
             cases work with
             | nil =>
              have hq := HW4.out
              simp only [hotW] at hq
              injection hq with hq
              injection hq with hq1 hq
              injection hq with hq2 hq3
              subst hq1 hq2 hq3
              obtain ⟨A12, c12, he, _, _⟩ := Kd.Q_reads HS4.out.rw
              rw [List.length_nil] at he
              subst he
              have hb0 := (blk_cell HS4.out.box 0).trans rfl
              have hb1 := (blk_cell HS4.out.box 1).trans rfl
              have hb2 := (blk_cell HS4.out.box 2).trans rfl
              have hb3 := (blk_cell HS4.out.box 3).trans rfl
              have HNB := Aside0.mk (mapF_lt HS4.out.map)
              go_wp2_with ((with_reducible refine gate_builtin (b := .append) (xs := #[.tmp 128, .tmp 130]) rfl ?_); (try (refine gate_guard (by rfl) ?_; dsimp only)); at_builtin; refine Kd.R_append k116 (w0 := w) w.heap.size rfl (.tmp 128) (.tmp 130) 24 116 (.agg #[(.int .i64 0), (.int .i64 0), (.int .i64 0), (.int .i64 0)]) 32 rfl Try.underlying24 info116 rfl (by decide) (by omega) u7 spots2 (⟨(r : Int), (c : Int), cells, peak⟩ : S116) [.int .i64 (r : Int), .int .i64 (c : Int), .int .i64 cells, .int .i64 peak] (fun k => k ≠ w1.heap.size) (fun _ => False) rfl ?aX ?aP (fun _ hk => hk.elim) (fun _ hk he => by have := HNB.out; omega) ?aO ?aB ?aS ?aL ?_; (case aX => (show Value.slice (some ⟨_, 0, none⟩) 1 1 = _; simp)); (case aP => exact k116_mkM _ _ _ _); (case aO => exact Kd.R_mono HS4.out.rs (fun _ h => h.2)); (case aB => exact HS4.out.below); (case aS => exact HS4.out.below.size); (case aL => omega); intro v5 w5 ho hb hg hat; have HS5 := Aside0.mk (show Hot1 w w5 w1.heap.size seen4 v5 (spots2 ++ [(⟨(r : Int), (c : Int), cells, peak⟩ : S116)]) from ⟨hb, mapF_move HS4.out.map (hg.block _ (mapF_lt HS4.out.map) (Kd.R_away HS4.out.rs (fun k hk => hk.2))), ho, HS4.out.lo⟩); clear ho hb hg hat)
              go_roundg (m0 - (c + 1))
              case measure => omega
              case rel => exact ⟨c + 1, seen4, _, by omega, by omega, by go_num, HS5, HQ4⟩
             | cons x rest =>
              have hq := HW4.out
              simp only [hotW] at hq
              split at hq
              ·
               rename_i hck
               obtain ⟨k1, k2, k3, k4⟩ := hck
               have HW5 := Aside0.mk hq
               clear hq HW4
               obtain ⟨rg0, rg1, rg2, rg3⟩ := HRG.out x List.mem_cons_self
               obtain ⟨A12, c12, he, hnc, _⟩ := Kd.Q_reads HS4.out.rw
               rw [List.length_cons] at he hnc k2
               subst he
               obtain ⟨adw, rfl, _⟩ := at_T123 (Kd.Q_reads' HS4.out.rw).2.2 0 (by omega) (by rw [List.length_cons]; omega)
               obtain ⟨adp, cp, hpx⟩ := hot_px HR.out HRW.out x.f0 x.f1 rg0 rg1 rg2 rg3
               have HPX := Aside0.mk hpx
               have hb2 := (blk_cell HS4.out.box 2).trans rfl
               have hf2 := blk_frozen HS4.out.box 2
               clear hpx
               have hfb : impl_besides.f l0 x.f0 x.f1 = some (nearL l0 x.f0 x.f1 4) := by unfold impl_besides.f; rw [if_pos ⟨hl0, rg0, by omega, rg2, by omega⟩]
               have HBE := Aside0.mk (fun W (hb : Below w.heap.size w W) => impl_besides.calls (some ad0) c0 l0 x.f0 x.f1 _ W (Kd.C_below HR.out hb) HC.out hfb)
               clear hfb
               have dn1 : decide (0 < rest.length + 1) = true := decide_eq_true (by omega)
               go_wp2_with ((with_reducible refine gate_store (t := 2) (p := 76) rfl ?_); refine store_event (t := 2) (p := 76) (v := ?vo_76) (w1 := (wr.setCell ⟨wo.heap.size + 1, 2, none⟩ (.int .i64 (cells + 1)))) ?hg ?ho ?hn ?hr ?_; (case ho => rfl); (case hg => rfl); (case hn => rfl); (case hr => first | (go_simp; done) | (go_simp; rfl)); intro w5 hw; have HS5 := Aside0.mk (show Hot3 w w5 _ _ _ _ _ _ _ _ _ _ _ from hw ▸ HS4.out.cells_ (cells + 1)); clear hw hb2 hf2)
               obtain ⟨hx2, hx3⟩ := HPX.out w5 HS5.out.below
               obtain ⟨hw0, hw1⟩ := HS5.out.head
               have hb3 := (blk_cell HS5.out.box 3).trans rfl
               go_still_tail 17, (by kernel_rfl)
               change wpList _ _ _ _ _ w5.drew
               clear hx2 hx3 hw0 hw1 hb3
               have HS6 := Aside0.mk (HS5.out.move (below_drew1 (Below.refl _ _)))
               generalize w5.drew = w6 at HS6 ⊢
               clear HS5
               obtain ⟨hx2, hx3⟩ := HPX.out w6 HS6.out.below
               obtain ⟨hw0, hw1⟩ := HS6.out.head
               have hb3 := (blk_cell HS6.out.box 3).trans rfl
               have hf3 := blk_frozen HS6.out.box 3
               go_wp2_with (first | ((with_reducible refine gate_store (t := 2) (p := 93) rfl ?_); refine store_event (t := 2) (p := 93) (v := ?vo_93) (w1 := (w6.setCell ⟨wo.heap.size + 1, 3, none⟩ (.int .i64 (mx peak (hotV l0 x.f0 x.f1))))) ?hg ?ho ?hn ?hr ?_; (case ho => rfl); (case hg => rfl); (case hn => rfl); (case hr => first | (go_simp; done) | (go_simp; rfl)); intro w7 hw; have HS7 := Aside0.mk (show Hot3 w w7 _ _ _ _ _ _ _ _ _ _ _ from hw ▸ HS6.out.peak_ (mx peak (hotV l0 x.f0 x.f1))); clear hw hb3 hf3 hw0 hw1 hx2 hx3; obtain ⟨hw0, hw1⟩ := HS7.out.head) | (go_at_call 90; refine (HBE.out _ HS7.out.below).mono ?_; rintro e w8 ⟨v8, rfl, hR8, hb8⟩; have HS8 := Aside0.mk (HS7.out.move hb8); have HR8 := Aside0.mk (Kd.R_lower (Kd.R_mono (Kd.R_bound hR8) (ok' := fun k => (k ≠ wo.heap.size + 1 ∧ k ≠ w1.heap.size) ∧ some k ≠ (Value.slice (some adw) (rest.length + 1) c12).ownBlock) (fun k hk => ⟨⟨by have := hk.2.1; have := blk_lt HS7.out.box; omega, by have := hk.2.1; have := mapF_lt HS7.out.map; omega⟩, fun he => by have := hk.2.1; have := Kd.Q_lt HS7.out.rw k he.symm; omega⟩)) HS7.out.below.size); clear hR8 hb8 hw0 hw1; obtain ⟨A8, c8, rfl⟩ := Kd.R_slice HR8.out))
               all_goals
                have HBI := Aside0.mk (nearL_in l0 x.f0 x.f1 4)
                have HBL := nearL_len l0 x.f0 x.f1 4
                generalize nearL l0 x.f0 x.f1 4 = bs at *
                (try clear hw0 hw1)
                clear HBE
                obtain ⟨wi, rfl⟩ : ∃ wi : World, wi = w8 := ⟨_, rfl⟩
                obtain ⟨q5, hq5⟩ : ∃ q5, q5 = hotN l0 a1 bs seen4 (x :: rest) := ⟨_, rfl⟩
                rw [← hq5] at HW5
                have HQ5 := Aside0.mk hq5
                clear hq5
                go_loopg [12, 100] bs.length (fun gg s12 s100 wr4 => ∃ (i : Nat) (seen6 : List (Int × Int)) (work6 : List S123), i ≤ bs.length ∧ bs.length - i ≤ gg ∧ s100 = .int .i64 (i : Int) ∧ Aside0 (Hot3 w wr4 w1.heap.size (wo.heap.size + 1) (r : Int) (c : Int) (cells + 1) (mx peak (hotV l0 x.f0 x.f1)) seen6 u7 spots2 s12 work6) ∧ Aside0 (q5 = hotN l0 a1 (bs.drop i) seen6 work6) ∧ Aside0 (∀ y ∈ work6, 0 ≤ y.f0 ∧ y.f0 < (l0.length : Int) ∧ 0 ≤ y.f1 ∧ y.f1 < (m0 : Int)) ∧ Aside0 (Kd.R k123 123 wr4 w.heap.size (fun k => (k ≠ wo.heap.size + 1 ∧ k ≠ w1.heap.size) ∧ some k ≠ s12.ownBlock) (.slice A8 bs.length c8) bs) ∧ seen6.length ≤ 1000000 + i ∧ work6.length ≤ 1000000 + i ∧ 0 < work6.length)
                case atStart => exact ⟨0, seen4, x :: rest, Nat.zero_le _, by omega, rfl, HS8, HQ5, HRG, HR8, by omega, by rw [List.length_cons]; omega, by rw [List.length_cons]; omega⟩
                case round =>
                 obtain ⟨i, seen6, work6, hib, hgi, rfl, HS9, HQ6, HRG6, HR9, hs6, hw6, hw60⟩ := hrel
                 by_cases hli : i < bs.length
                 ·
                  have hliz : (i : Int) < (bs.length : Int) := by omega
                  obtain ⟨ad8, rfl, hy0, hy1⟩ := at_T123 (Kd.R_reads' HR9.out).2.2 (i : Int) (by omega) hliz
                  rw [Int.toNat_natCast] at hy0 hy1
                  have hdr : bs.drop i = rd_T123 bs (i : Int) :: bs.drop (i + 1) := by
                   unfold rd_T123
                   rw [Int.toNat_natCast, List.drop_eq_getElem_cons hli, List.getD_eq_getElem?_getD, List.getElem?_eq_getElem hli]
                   rfl
                  have hym : rd_T123 bs (i : Int) ∈ bs := by
                   unfold rd_T123
                   rw [Int.toNat_natCast, List.getD_eq_getElem?_getD, List.getElem?_eq_getElem hli]
                   exact List.getElem_mem _
                  have HQ7 := HQ6.out
                  rw [hdr] at HQ7
                  obtain ⟨yg0, yg1, yg2, yg3⟩ := HBI.out _ hym
                  rw [← HM0.out] at yg3
                  clear hdr hym HQ6
                  generalize rd_T123 bs (i : Int) = y at *
                  obtain ⟨kl2, hkl2⟩ := hot_key (y.f0, y.f1) yg0 (by show y.f0 ≤ 1048576; omega) yg2 (by show y.f1 ≤ 1048576; omega)
                  have HKL2 := Aside0.mk hkl2
                  obtain ⟨adq, cq, hpq⟩ := hot_px HR.out HRW.out y.f0 y.f1 yg0 yg1 yg2 yg3
                  have HPQ := Aside0.mk hpq
                  clear hkl2 hpq
                  have hxo : ∀ o, (wr.alloc o).cell? (ad0.add y.f0.toNat) = some (.slice (some adq) m0 cq) := fun o => (HPQ.out _ (below_alloc HS9.out.below o)).1
                  have hyo : ∀ o, (wr.alloc o).cell? (adq.add y.f1.toNat) = some (.int .i64 (hotV l0 y.f0 y.f1)) := fun o => (HPQ.out _ (below_alloc HS9.out.below o)).2
                  simp only [hotN] at HQ7
                  generalize hotV l0 y.f0 y.f1 = py at *
                  have HB14 := Aside0.mk (blk_new wr (.cells #[.int .i64 y.f0, .int .i64 y.f1] 123 (0, 0)))
                  by_cases hin : (y.f0, y.f1) ∈ seen6
                  ·
                   have HQ8 := Aside0.mk (show q5 = hotN l0 a1 (bs.drop (i + 1)) seen6 work6 from by rw [if_neg (fun h => h.1 hin)] at HQ7; exact HQ7)
                   have hgf : (hotF seen6 (y.f0, y.f1)).getD false = true := by unfold hotF; rw [if_pos hin]; rfl
                   have hlk : ∀ o n, (Instr.lookup 121 (.map (some w1.heap.size)) (.agg #[.int .i64 y.f0, .int .i64 y.f1]) false).run Try.prog ((wr.alloc o).drewN n) = .ok (.bool true) ((wr.alloc o).drewN n) := fun o n => by
                    have h := mapF_get_bool HS9.out.map hot_law Try.underlying121 Try.underlying4 HZ4.out (y.f0, y.f1) HKL2.out ((wr.alloc o).drewN n) ((below_alloc (Below.refl _ _) o).block _ (mapF_lt HS9.out.map))
                    rw [hgf] at h
                    exact h
                   clear hgf hin HQ7
                   go_wp2
                   go_quiet (fail)
                   go_wp2
                   go_roundg (bs.length - (i + 1))
                   case measure => omega
                   case rel => exact ⟨i + 1, seen6, work6, by omega, by omega, by go_num, ⟨HS9.out.move (pw_below_drewN (below_alloc (Below.refl _ _) _) _)⟩, HQ8, HRG6, ⟨Kd.R_below HR9.out (pw_below_drewN (below_alloc (Below.refl _ _) _) _)⟩, by omega, by omega, hw60⟩
                  ·
                   have hgf : (hotF seen6 (y.f0, y.f1)).getD false = false := by unfold hotF; rw [if_neg hin]; rfl
                   have hlk : ∀ o n, (Instr.lookup 121 (.map (some w1.heap.size)) (.agg #[.int .i64 y.f0, .int .i64 y.f1]) false).run Try.prog ((wr.alloc o).drewN n) = .ok (.bool false) ((wr.alloc o).drewN n) := fun o n => by
                    have h := mapF_get_bool HS9.out.map hot_law Try.underlying121 Try.underlying4 HZ4.out (y.f0, y.f1) HKL2.out ((wr.alloc o).drewN n) ((below_alloc (Below.refl _ _) o).block _ (mapF_lt HS9.out.map))
                    rw [hgf] at h
                    exact h
                   clear hgf
                   by_cases hpy : a1 < py
                   ·
                    have HQ8 := Aside0.mk (show q5 = hotN l0 a1 (bs.drop (i + 1)) (seen6 ++ [(y.f0, y.f1)]) (work6 ++ [y]) from by rw [if_pos ⟨hin, hpy⟩] at HQ7; exact HQ7)
                    have dpy : decide (a1 < py) = true := decide_eq_true hpy
                    clear hin HQ7 hpy
                    go_wp2
                    go_quiet (fail)
                    clear hlk hxo hyo
                    rw [drewN_self (wr.alloc (.cells #[.int .i64 y.f0, .int .i64 y.f1] 123))]
                    generalize hq_ : World.drewN (wr.alloc (.cells #[.int .i64 y.f0, .int .i64 y.f1] 123)) _ = w9
                    have hbq : Below wr.heap.size wr w9 := hq_ ▸ pw_below_drewN (below_alloc (Below.refl wr.heap.size wr) _) _
                    have HS10 := Aside0.mk (HS9.out.move hbq)
                    have HR10 := Aside0.mk (Kd.R_below HR9.out hbq)
                    have HB10 := Aside0.mk (show w9.heap[wr.heap.size]? = some (.cells #[.int .i64 y.f0, .int .i64 y.f1] 123 (0, 0)) from hq_ ▸ blk_drewN HB14.out _)
                    clear hbq hq_
                    have hb0 := (blk_cell HB10.out 0).trans rfl
                    have hb1 := (blk_cell HB10.out 1).trans rfl
                    go_wp2_with (first | (at_mapUpdate; refine wpList_putF (ek := hotE) hotE_inj rfl _ _ _ 121 rfl hot_law Try.underlying121 HS10.out.map (by unfold maxLen; omega) (y.f0, y.f1) true kl2 rfl rfl HKL2.out (plainElem_bool Try.underlying4 true) ?_; intro w10 hm10 hg10; have HS11 := Aside0.mk (HS10.out.put_ (y.f0, y.f1) hm10 hg10); have HR11 := Aside0.mk (Kd.R_grown HR10.out hg10 (fun k hk => by have := hk.1.2; simpa using this)); have HB11 := Aside0.mk ((hg10.block _ (blk_lt HB10.out) (by have := mapF_ne HS10.out.map HB10.out; intro he; injection he with he; exact this he.symm)).trans HB10.out); clear hm10 hg10 hb0 hb1; have hb0 := (blk_cell HB11.out 0).trans rfl; have hb1 := (blk_cell HB11.out 1).trans rfl; have HLM := Aside0.mk (And.intro (blk_lt HS11.out.box) (mapF_lt HS11.out.map))) | ((with_reducible refine gate_builtin (b := .append) (xs := #[.tmp 123, .tmp 125]) rfl ?_); (try (refine gate_guard (by rfl) ?_; dsimp only)); at_builtin; refine Kd.Q_append k123 (w0 := w) w.heap.size rfl (.tmp 123) (.tmp 125) 124 123 (.agg #[.int .i64 0, .int .i64 0]) 16 rfl Try.underlying124 info123 rfl (by decide) (by omega) u12 work6 y [.int .i64 y.f0, .int .i64 y.f1] (fun k => k ≠ wo.heap.size + 1 ∧ k ≠ w1.heap.size) (fun _ => False) rfl ?aX ?aP (fun _ hk => hk.elim) (fun _ hk => ⟨fun he => by have := HLM.out.1; omega, fun he => by have := HLM.out.2; omega⟩) ?aO ?aB ?aS ?aL ?_; (case aX => (show Value.slice (some ⟨_, 0, none⟩) 1 1 = _; simp)); (case aP => exact k123_mkM _ _ _ _); (case aO => exact HS11.out.rw); (case aB => exact HS11.out.below); (case aS => exact HS11.out.below.size); (case aL => omega); intro v12 w12 hq hb hg hat; have HS12 := Aside0.mk (HS11.out.app_ hq hb hg); have HR12 := Aside0.mk (Kd.R_after HR11.out hg hat); clear hq hb hg hat))
                    go_roundg (bs.length - (i + 1))
                    case measure => omega
                    case rel => exact ⟨i + 1, seen6 ++ [(y.f0, y.f1)], work6 ++ [y], by omega, by omega, by go_num, HS12, HQ8, ⟨fun z hz => (List.mem_append.1 hz).elim (HRG6.out z) (fun h => by obtain rfl := List.mem_singleton.1 h; exact ⟨yg0, yg1, yg2, yg3⟩)⟩, HR12, by rw [List.length_append, List.length_singleton]; omega, by rw [List.length_append, List.length_singleton]; omega, by rw [List.length_append]; omega⟩
                   ·
                    have HQ8 := Aside0.mk (show q5 = hotN l0 a1 (bs.drop (i + 1)) seen6 work6 from by rw [if_neg (fun h => hpy h.2)] at HQ7; exact HQ7)
                    have dpy : decide (a1 < py) = false := decide_eq_false hpy
                    clear hin HQ7 hpy
                    go_wp2
                    go_quiet (fail)
                    go_wp2
                    go_roundg (bs.length - (i + 1))
                    case measure => omega
                    case rel => exact ⟨i + 1, seen6, work6, by omega, by omega, by go_num, ⟨HS9.out.move (pw_below_drewN (below_alloc (Below.refl _ _) _) _)⟩, HQ8, HRG6, ⟨Kd.R_below HR9.out (pw_below_drewN (below_alloc (Below.refl _ _) _) _)⟩, by omega, by omega, hw60⟩
                 ·
                  obtain rfl : i = bs.length := by omega
                  have HQ7 := HQ6.out
                  rw [List.drop_length] at HQ7
                  simp only [hotN] at HQ7
                  subst HQ7
                  obtain ⟨A13, c13, rfl, hle13, _⟩ := Kd.Q_reads HS9.out.rw
                  obtain ⟨i0, hi0, hh⟩ := Option.map_eq_some_iff.1 info123
                  simp only [Prod.mk.injEq] at hh
                  have hcut := cut_from (P := Try.prog) 124 123 .i64 Try.underlying124 hi0 2 hh.2.1 A13 work6.length c13 1 (by omega) (by omega)
                  simp only [show (1 : Int).toNat = 1 from rfl] at hcut
                  have HQD := Aside0.mk (show Kd.Q k123 123 wr w.heap.size (fun k => k ≠ wo.heap.size + 1 ∧ k ≠ w1.heap.size) (.slice (if c13 = 1 then A13 else A13.map (·.add (1 * 2))) (work6.length - 1) (c13 - 1)) (work6.drop 1) from Kd.Q_drop HS9.out.rw (by omega))
                  obtain ⟨A14, hA14⟩ : ∃ A14, A14 = (if c13 = 1 then A13 else A13.map (·.add (1 * 2))) := ⟨_, rfl⟩
                  rw [← hA14] at hcut HQD
                  clear hA14 hh hi0
                  go_wp2
                  go_roundg g
                  case measure => omega
                  case rel => exact ⟨seen6, work6.drop 1, cells + 1, _, ⟨{ HS9.out with rw := HQD.out }⟩, HW5, ⟨fun y hy => HRG6.out y (List.mem_of_mem_drop hy)⟩⟩
              ·
               cases hq
        ·
         cases HQ2
       ·
        have hlcz : ¬ (c : Int) < (m0 : Int) := by omega
        have hce : c = m0 := by omega
        have HQ2 := HQC2.out
        rw [hce, Nat.sub_self, hotC] at HQ2
        injection HQ2 with HQ2
        injection HQ2 with hq1 hq2
        subst hq1 hq2
        clear hce
        go_wp2
        go_roundg (l0.length - (r + 1))
        case measure => omega
        case rel => exact ⟨r + 1, seen2, spots2, by omega, by omega, by go_num, HS2, HQ3⟩
     ·
      have hlrz : ¬ (r : Int) < (l0.length : Int) := by omega
      have hre : r = l0.length := by omega
      have HQ2 := HQR.out
      rw [hre, Nat.sub_self, hotR] at HQ2
      clear hre
      injection HQ2 with HQ2
      injection HQ2 with hq1 hq2
      subst hq1 hq2
      obtain ⟨A7, c7, rfl, hc7⟩ := Kd.R_slice HS.out.rs
      have HH2 := HH.out
      by_cases h64 : spots.length > 64
      ·
       rw [if_pos h64] at HH2
       obtain ⟨rfl, rfl⟩ := Prod.mk.injEq _ _ _ _ ▸ Option.some.inj HH2
       have d1 : decide ((64 : Int) < (spots.length : Int)) = true := decide_eq_true (by omega)
       have d2 : decide (64 < spots.length) = true := decide_eq_true (by omega)
       clear HH2
       go_wp2
       go_ret2
       exact ⟨_, rfl, Kd.R_nil _ _ _ _ _, HS.out.below⟩
      ·
       rw [if_neg h64] at HH2
       obtain ⟨rfl, rfl⟩ := Prod.mk.injEq _ _ _ _ ▸ Option.some.inj HH2
       have d1 : decide ((64 : Int) < (spots.length : Int)) = false := decide_eq_false (by omega)
       have d2 : decide (64 < spots.length) = false := decide_eq_false (by omega)
       clear HH2
       go_wp2
       go_ret2
       exact ⟨_, rfl, Kd.R_mono HS.out.rs (fun _ _ => trivial), HS.out.below⟩
   ·
    cases h

/-! ### laws_eqSpot: function 91 -/
def laws_eqSpot.f (a0_0 : Int) (a0_1 : Int) (a0_2 : Int) (a0_3 : Int) (a1_0 : Int) (a1_1 : Int) (a1_2 : Int) (a1_3 : Int) : Option (Bool) := if a0_0 = a1_0 then (if a0_1 = a1_1 then (if a0_2 = a1_2 then (if a0_3 = a1_3 then (some true) else (some false)) else (some false)) else (some false)) else (some false)
set_option maxHeartbeats 8000000 in
set_option maxRecDepth 100000 in
theorem laws_eqSpot.calls (a0_0 : Int) (a0_1 : Int) (a0_2 : Int) (a0_3 : Int) (a1_0 : Int) (a1_1 : Int) (a1_2 : Int) (a1_3 : Int) (r : Bool) (w : World) (h : laws_eqSpot.f a0_0 a0_1 a0_2 a0_3 a1_0 a1_1 a1_2 a1_3 = some r) :
  Calls Try.prog 91 #[.agg #[.int .i64 a0_0, .int .i64 a0_1, .int .i64 a0_2, .int .i64 a0_3], .agg #[.int .i64 a1_0, .int .i64 a1_1, .int .i64 a1_2, .int .i64 a1_3]] w fun e w' => e = .returned (.bool r) ∧ Below w.heap.size w w' := by
 have hu116 := Try.underlying116
 have HB := Aside0.mk (Below.refl w.heap.size w)
 have H : (if a0_0 = a1_0 then (if a0_1 = a1_1 then (if a0_2 = a1_2 then (if a0_3 = a1_3 then (some true) else (some false)) else (some false)) else (some false)) else (some false)) = some r := h
 clear h
 by_cases c3 : a0_0 = a1_0
 ·
  rw [if_pos c3] at H
  have c3b0 : (a0_0 == a1_0) = true := beq_iff_eq.mpr c3
  have c3b1 : (a0_0 != a1_0) = false := bne_eq_false_iff_eq.mpr c3
  clear c3
  by_cases c4 : a0_1 = a1_1
  ·
   rw [if_pos c4] at H
   have c4b0 : (a0_1 == a1_1) = true := beq_iff_eq.mpr c4
   have c4b1 : (a0_1 != a1_1) = false := bne_eq_false_iff_eq.mpr c4
   clear c4
   by_cases c5 : a0_2 = a1_2
   ·
    rw [if_pos c5] at H
    have c5b0 : (a0_2 == a1_2) = true := beq_iff_eq.mpr c5
    have c5b1 : (a0_2 != a1_2) = false := bne_eq_false_iff_eq.mpr c5
    clear c5
    by_cases c6 : a0_3 = a1_3
    ·
     rw [if_pos c6] at H
     have c6b0 : (a0_3 == a1_3) = true := beq_iff_eq.mpr c6
     have c6b1 : (a0_3 != a1_3) = false := bne_eq_false_iff_eq.mpr c6
     clear c6
     obtain rfl := Option.some.inj H
     go_enter Try.func91, Try.ntmps91
     go_wp2_with (first | ((with_reducible refine gate_dst (N := 2) rfl ?_); refine box_event ?hg (N := 2) ?hd (cs := #[.int .i64 a0_0, .int .i64 a0_1, .int .i64 a0_2, .int .i64 a0_3]) (t := 116) ?hr ?_; (case hd => rfl); (case hg => rfl); (case hr => first | (go_simp; done) | (go_simp; rfl)); intro gb181 hg w7 hbox hb; have n0_ := Aside0.mk (below_step (by repeat (first | (with_reducible first | exact HB.out | apply below_alloc | apply pw_below_drewN | apply below_drew1) | exact HB.out)) hb); have n1_ := Aside0.mk (hbox); have n2_ := Aside0.mk ((by rw [hg]; exact (below_size (by repeat (first | (with_reducible first | exact HB.out | apply below_alloc | apply pw_below_drewN | apply below_drew1) | exact HB.out))) : w.heap.size ≤ gb181)); have n3_ := Aside0.mk ((by rw [hg]; exact (below_size (by repeat (first | (with_reducible first | exact HB.out | apply below_alloc | apply pw_below_drewN | apply below_drew1) | exact HB.out))) : w.heap.size ≤ gb181)); clear HB; have HB := n0_; have BK181 := n1_; have GW181 := n2_; have GE181 := n3_; clear n0_ n1_ n2_ n3_; clear hb hbox hg) | ((with_reducible refine gate_dst (N := 3) rfl ?_); refine box_event ?hg (N := 3) ?hd (cs := #[.int .i64 a1_0, .int .i64 a1_1, .int .i64 a1_2, .int .i64 a1_3]) (t := 116) ?hr ?_; (case hd => rfl); (case hg => rfl); (case hr => first | (go_simp; done) | (go_simp; rfl)); intro gb182 hg w8 hbox hb; have n0_ := Aside0.mk (blk_below (g := gb181) (o := .cells #[.int .i64 a0_0, .int .i64 a0_1, .int .i64 a0_2, .int .i64 a0_3] 116 (0, 0)) (by (with_reducible repeat (first | refine blk_drewN ?_ _ | refine blk_drew ?_ | refine blk_alloc ?_ _)); exact BK181.out) hb); have n1_ := Aside0.mk (below_step (by repeat (first | (with_reducible first | exact HB.out | apply below_alloc | apply pw_below_drewN | apply below_drew1 | refine below_set ?_ GE181.out) | exact HB.out)) hb); have n2_ := Aside0.mk (hbox); have n3_ := Aside0.mk ((by rw [hg]; exact (below_size (by repeat (first | (with_reducible first | exact HB.out | apply below_alloc | apply pw_below_drewN | apply below_drew1 | refine below_set ?_ GE181.out) | exact HB.out))) : w.heap.size ≤ gb182)); have n4_ := Aside0.mk ((by rw [hg]; exact (below_size (by repeat (first | (with_reducible first | exact HB.out | apply below_alloc | apply pw_below_drewN | apply below_drew1 | refine below_set ?_ GE181.out) | exact HB.out))) : w.heap.size ≤ gb182)); have n5_ := Aside0.mk ((by rw [hg]; exact Nat.ne_of_lt (blk_lt (g := gb181) (o := .cells #[.int .i64 a0_0, .int .i64 a0_1, .int .i64 a0_2, .int .i64 a0_3] 116 (0, 0)) (by (with_reducible repeat (first | refine blk_drewN ?_ _ | refine blk_drew ?_ | refine blk_alloc ?_ _)); exact BK181.out)) : gb181 ≠ gb182)); have n6_ := Aside0.mk ((by rw [hg]; exact Nat.ne_of_gt (blk_lt (g := gb181) (o := .cells #[.int .i64 a0_0, .int .i64 a0_1, .int .i64 a0_2, .int .i64 a0_3] 116 (0, 0)) (by (with_reducible repeat (first | refine blk_drewN ?_ _ | refine blk_drew ?_ | refine blk_alloc ?_ _)); exact BK181.out)) : gb182 ≠ gb181)); clear BK181; clear HB; have BK181 := n0_; have HB := n1_; have BK182 := n2_; have GW182 := n3_; have GE182 := n4_; have NB181_182 := n5_; have NB182_181 := n6_; clear n0_ n1_ n2_ n3_ n4_ n5_ n6_; clear hb hbox hg; have hnb9 := NB181_182.out; have hnc9 := NB182_181.out; have hcz10_0 : w8.cell? ⟨gb181, 0, none⟩ = some (.int .i64 a0_0) := (blk_cell BK181.out 0).trans rfl; have hcz10_1 : w8.cell? ⟨gb181, 1, none⟩ = some (.int .i64 a0_1) := (blk_cell BK181.out 1).trans rfl; have hcz10_2 : w8.cell? ⟨gb181, 2, none⟩ = some (.int .i64 a0_2) := (blk_cell BK181.out 2).trans rfl; have hcz10_3 : w8.cell? ⟨gb181, 3, none⟩ = some (.int .i64 a0_3) := (blk_cell BK181.out 3).trans rfl; have hfz10_0 := blk_frozen BK181.out 0; have hfz10_1 := blk_frozen BK181.out 1; have hfz10_2 := blk_frozen BK181.out 2; have hfz10_3 := blk_frozen BK181.out 3; have hcz11_0 : w8.cell? ⟨gb182, 0, none⟩ = some (.int .i64 a1_0) := (blk_cell BK182.out 0).trans rfl; have hcz11_1 : w8.cell? ⟨gb182, 1, none⟩ = some (.int .i64 a1_1) := (blk_cell BK182.out 1).trans rfl; have hcz11_2 : w8.cell? ⟨gb182, 2, none⟩ = some (.int .i64 a1_2) := (blk_cell BK182.out 2).trans rfl; have hcz11_3 : w8.cell? ⟨gb182, 3, none⟩ = some (.int .i64 a1_3) := (blk_cell BK182.out 3).trans rfl; have hfz11_0 := blk_frozen BK182.out 0; have hfz11_1 := blk_frozen BK182.out 1; have hfz11_2 := blk_frozen BK182.out 2; have hfz11_3 := blk_frozen BK182.out 3))
     go_ret
     exact ⟨by first | rfl | (simp [errW_none, errW_some] <;> rfl) | (simp [*, errW_none, errW_some] <;> rfl), by repeat (first | (with_reducible first | exact HB.out | apply below_alloc | apply pw_below_drewN | apply below_drew1 | refine below_set ?_ GE181.out | refine below_set ?_ GE182.out) | exact HB.out)⟩
    ·
     rw [if_neg c6] at H
     have c6b0 : (a0_3 == a1_3) = false := beq_eq_false_iff_ne.mpr c6
     have c6b1 : (a0_3 != a1_3) = true := bne_iff_ne.mpr c6
     obtain rfl := Option.some.inj H
     go_enter Try.func91, Try.ntmps91
     go_wp2_with (first | ((with_reducible refine gate_dst (N := 2) rfl ?_); refine box_event ?hg (N := 2) ?hd (cs := #[.int .i64 a0_0, .int .i64 a0_1, .int .i64 a0_2, .int .i64 a0_3]) (t := 116) ?hr ?_; (case hd => rfl); (case hg => rfl); (case hr => first | (go_simp; done) | (go_simp; rfl)); intro gb181 hg w12 hbox hb; have n0_ := Aside0.mk (below_step (by repeat (first | (with_reducible first | exact HB.out | apply below_alloc | apply pw_below_drewN | apply below_drew1) | exact HB.out)) hb); have n1_ := Aside0.mk (hbox); have n2_ := Aside0.mk ((by rw [hg]; exact (below_size (by repeat (first | (with_reducible first | exact HB.out | apply below_alloc | apply pw_below_drewN | apply below_drew1) | exact HB.out))) : w.heap.size ≤ gb181)); have n3_ := Aside0.mk ((by rw [hg]; exact (below_size (by repeat (first | (with_reducible first | exact HB.out | apply below_alloc | apply pw_below_drewN | apply below_drew1) | exact HB.out))) : w.heap.size ≤ gb181)); clear HB; have HB := n0_; have BK181 := n1_; have GW181 := n2_; have GE181 := n3_; clear n0_ n1_ n2_ n3_; clear hb hbox hg) | ((with_reducible refine gate_dst (N := 3) rfl ?_); refine box_event ?hg (N := 3) ?hd (cs := #[.int .i64 a1_0, .int .i64 a1_1, .int .i64 a1_2, .int .i64 a1_3]) (t := 116) ?hr ?_; (case hd => rfl); (case hg => rfl); (case hr => first | (go_simp; done) | (go_simp; rfl)); intro gb182 hg w13 hbox hb; have n0_ := Aside0.mk (blk_below (g := gb181) (o := .cells #[.int .i64 a0_0, .int .i64 a0_1, .int .i64 a0_2, .int .i64 a0_3] 116 (0, 0)) (by (with_reducible repeat (first | refine blk_drewN ?_ _ | refine blk_drew ?_ | refine blk_alloc ?_ _)); exact BK181.out) hb); have n1_ := Aside0.mk (below_step (by repeat (first | (with_reducible first | exact HB.out | apply below_alloc | apply pw_below_drewN | apply below_drew1 | refine below_set ?_ GE181.out) | exact HB.out)) hb); have n2_ := Aside0.mk (hbox); have n3_ := Aside0.mk ((by rw [hg]; exact (below_size (by repeat (first | (with_reducible first | exact HB.out | apply below_alloc | apply pw_below_drewN | apply below_drew1 | refine below_set ?_ GE181.out) | exact HB.out))) : w.heap.size ≤ gb182)); have n4_ := Aside0.mk ((by rw [hg]; exact (below_size (by repeat (first | (with_reducible first | exact HB.out | apply below_alloc | apply pw_below_drewN | apply below_drew1 | refine below_set ?_ GE181.out) | exact HB.out))) : w.heap.size ≤ gb182)); have n5_ := Aside0.mk ((by rw [hg]; exact Nat.ne_of_lt (blk_lt (g := gb181) (o := .cells #[.int .i64 a0_0, .int .i64 a0_1, .int .i64 a0_2, .int .i64 a0_3] 116 (0, 0)) (by (with_reducible repeat (first | refine blk_drewN ?_ _ | refine blk_drew ?_ | refine blk_alloc ?_ _)); exact BK181.out)) : gb181 ≠ gb182)); have n6_ := Aside0.mk ((by rw [hg]; exact Nat.ne_of_gt (blk_lt (g := gb181) (o := .cells #[.int .i64 a0_0, .int .i64 a0_1, .int .i64 a0_2, .int .i64 a0_3] 116 (0, 0)) (by (with_reducible repeat (first | refine blk_drewN ?_ _ | refine blk_drew ?_ | refine blk_alloc ?_ _)); exact BK181.out)) : gb182 ≠ gb181)); clear BK181; clear HB; have BK181 := n0_; have HB := n1_; have BK182 := n2_; have GW182 := n3_; have GE182 := n4_; have NB181_182 := n5_; have NB182_181 := n6_; clear n0_ n1_ n2_ n3_ n4_ n5_ n6_; clear hb hbox hg; have hnb14 := NB181_182.out; have hnc14 := NB182_181.out; have hcz15_0 : w13.cell? ⟨gb181, 0, none⟩ = some (.int .i64 a0_0) := (blk_cell BK181.out 0).trans rfl; have hcz15_1 : w13.cell? ⟨gb181, 1, none⟩ = some (.int .i64 a0_1) := (blk_cell BK181.out 1).trans rfl; have hcz15_2 : w13.cell? ⟨gb181, 2, none⟩ = some (.int .i64 a0_2) := (blk_cell BK181.out 2).trans rfl; have hcz15_3 : w13.cell? ⟨gb181, 3, none⟩ = some (.int .i64 a0_3) := (blk_cell BK181.out 3).trans rfl; have hfz15_0 := blk_frozen BK181.out 0; have hfz15_1 := blk_frozen BK181.out 1; have hfz15_2 := blk_frozen BK181.out 2; have hfz15_3 := blk_frozen BK181.out 3; have hcz16_0 : w13.cell? ⟨gb182, 0, none⟩ = some (.int .i64 a1_0) := (blk_cell BK182.out 0).trans rfl; have hcz16_1 : w13.cell? ⟨gb182, 1, none⟩ = some (.int .i64 a1_1) := (blk_cell BK182.out 1).trans rfl; have hcz16_2 : w13.cell? ⟨gb182, 2, none⟩ = some (.int .i64 a1_2) := (blk_cell BK182.out 2).trans rfl; have hcz16_3 : w13.cell? ⟨gb182, 3, none⟩ = some (.int .i64 a1_3) := (blk_cell BK182.out 3).trans rfl; have hfz16_0 := blk_frozen BK182.out 0; have hfz16_1 := blk_frozen BK182.out 1; have hfz16_2 := blk_frozen BK182.out 2; have hfz16_3 := blk_frozen BK182.out 3))
     go_ret
     exact ⟨by first | rfl | (simp [errW_none, errW_some] <;> rfl) | (simp [*, errW_none, errW_some] <;> rfl), by repeat (first | (with_reducible first | exact HB.out | apply below_alloc | apply pw_below_drewN | apply below_drew1 | refine below_set ?_ GE181.out | refine below_set ?_ GE182.out) | exact HB.out)⟩
   ·
    rw [if_neg c5] at H
    have c5b0 : (a0_2 == a1_2) = false := beq_eq_false_iff_ne.mpr c5
    have c5b1 : (a0_2 != a1_2) = true := bne_iff_ne.mpr c5
    obtain rfl := Option.some.inj H
    go_enter Try.func91, Try.ntmps91
    go_wp2_with (first | ((with_reducible refine gate_dst (N := 2) rfl ?_); refine box_event ?hg (N := 2) ?hd (cs := #[.int .i64 a0_0, .int .i64 a0_1, .int .i64 a0_2, .int .i64 a0_3]) (t := 116) ?hr ?_; (case hd => rfl); (case hg => rfl); (case hr => first | (go_simp; done) | (go_simp; rfl)); intro gb181 hg w17 hbox hb; have n0_ := Aside0.mk (below_step (by repeat (first | (with_reducible first | exact HB.out | apply below_alloc | apply pw_below_drewN | apply below_drew1) | exact HB.out)) hb); have n1_ := Aside0.mk (hbox); have n2_ := Aside0.mk ((by rw [hg]; exact (below_size (by repeat (first | (with_reducible first | exact HB.out | apply below_alloc | apply pw_below_drewN | apply below_drew1) | exact HB.out))) : w.heap.size ≤ gb181)); have n3_ := Aside0.mk ((by rw [hg]; exact (below_size (by repeat (first | (with_reducible first | exact HB.out | apply below_alloc | apply pw_below_drewN | apply below_drew1) | exact HB.out))) : w.heap.size ≤ gb181)); clear HB; have HB := n0_; have BK181 := n1_; have GW181 := n2_; have GE181 := n3_; clear n0_ n1_ n2_ n3_; clear hb hbox hg) | ((with_reducible refine gate_dst (N := 3) rfl ?_); refine box_event ?hg (N := 3) ?hd (cs := #[.int .i64 a1_0, .int .i64 a1_1, .int .i64 a1_2, .int .i64 a1_3]) (t := 116) ?hr ?_; (case hd => rfl); (case hg => rfl); (case hr => first | (go_simp; done) | (go_simp; rfl)); intro gb182 hg w18 hbox hb; have n0_ := Aside0.mk (blk_below (g := gb181) (o := .cells #[.int .i64 a0_0, .int .i64 a0_1, .int .i64 a0_2, .int .i64 a0_3] 116 (0, 0)) (by (with_reducible repeat (first | refine blk_drewN ?_ _ | refine blk_drew ?_ | refine blk_alloc ?_ _)); exact BK181.out) hb); have n1_ := Aside0.mk (below_step (by repeat (first | (with_reducible first | exact HB.out | apply below_alloc | apply pw_below_drewN | apply below_drew1 | refine below_set ?_ GE181.out) | exact HB.out)) hb); have n2_ := Aside0.mk (hbox); have n3_ := Aside0.mk ((by rw [hg]; exact (below_size (by repeat (first | (with_reducible first | exact HB.out | apply below_alloc | apply pw_below_drewN | apply below_drew1 | refine below_set ?_ GE181.out) | exact HB.out))) : w.heap.size ≤ gb182)); have n4_ := Aside0.mk ((by rw [hg]; exact (below_size (by repeat (first | (with_reducible first | exact HB.out | apply below_alloc | apply pw_below_drewN | apply below_drew1 | refine below_set ?_ GE181.out) | exact HB.out))) : w.heap.size ≤ gb182)); have n5_ := Aside0.mk ((by rw [hg]; exact Nat.ne_of_lt (blk_lt (g := gb181) (o := .cells #[.int .i64 a0_0, .int .i64 a0_1, .int .i64 a0_2, .int .i64 a0_3] 116 (0, 0)) (by (with_reducible repeat (first | refine blk_drewN ?_ _ | refine blk_drew ?_ | refine blk_alloc ?_ _)); exact BK181.out)) : gb181 ≠ gb182)); have n6_ := Aside0.mk ((by rw [hg]; exact Nat.ne_of_gt (blk_lt (g := gb181) (o := .cells #[.int .i64 a0_0, .int .i64 a0_1, .int .i64 a0_2, .int .i64 a0_3] 116 (0, 0)) (by (with_reducible repeat (first | refine blk_drewN ?_ _ | refine blk_drew ?_ | refine blk_alloc ?_ _)); exact BK181.out)) : gb182 ≠ gb181)); clear BK181; clear HB; have BK181 := n0_; have HB := n1_; have BK182 := n2_; have GW182 := n3_; have GE182 := n4_; have NB181_182 := n5_; have NB182_181 := n6_; clear n0_ n1_ n2_ n3_ n4_ n5_ n6_; clear hb hbox hg; have hnb19 := NB181_182.out; have hnc19 := NB182_181.out; have hcz20_0 : w18.cell? ⟨gb181, 0, none⟩ = some (.int .i64 a0_0) := (blk_cell BK181.out 0).trans rfl; have hcz20_1 : w18.cell? ⟨gb181, 1, none⟩ = some (.int .i64 a0_1) := (blk_cell BK181.out 1).trans rfl; have hcz20_2 : w18.cell? ⟨gb181, 2, none⟩ = some (.int .i64 a0_2) := (blk_cell BK181.out 2).trans rfl; have hcz20_3 : w18.cell? ⟨gb181, 3, none⟩ = some (.int .i64 a0_3) := (blk_cell BK181.out 3).trans rfl; have hfz20_0 := blk_frozen BK181.out 0; have hfz20_1 := blk_frozen BK181.out 1; have hfz20_2 := blk_frozen BK181.out 2; have hfz20_3 := blk_frozen BK181.out 3; have hcz21_0 : w18.cell? ⟨gb182, 0, none⟩ = some (.int .i64 a1_0) := (blk_cell BK182.out 0).trans rfl; have hcz21_1 : w18.cell? ⟨gb182, 1, none⟩ = some (.int .i64 a1_1) := (blk_cell BK182.out 1).trans rfl; have hcz21_2 : w18.cell? ⟨gb182, 2, none⟩ = some (.int .i64 a1_2) := (blk_cell BK182.out 2).trans rfl; have hcz21_3 : w18.cell? ⟨gb182, 3, none⟩ = some (.int .i64 a1_3) := (blk_cell BK182.out 3).trans rfl; have hfz21_0 := blk_frozen BK182.out 0; have hfz21_1 := blk_frozen BK182.out 1; have hfz21_2 := blk_frozen BK182.out 2; have hfz21_3 := blk_frozen BK182.out 3))
    go_ret
    exact ⟨by first | rfl | (simp [errW_none, errW_some] <;> rfl) | (simp [*, errW_none, errW_some] <;> rfl), by repeat (first | (with_reducible first | exact HB.out | apply below_alloc | apply pw_below_drewN | apply below_drew1 | refine below_set ?_ GE181.out | refine below_set ?_ GE182.out) | exact HB.out)⟩
  ·
   rw [if_neg c4] at H
   have c4b0 : (a0_1 == a1_1) = false := beq_eq_false_iff_ne.mpr c4
   have c4b1 : (a0_1 != a1_1) = true := bne_iff_ne.mpr c4
   obtain rfl := Option.some.inj H
   go_enter Try.func91, Try.ntmps91
   go_wp2_with (first | ((with_reducible refine gate_dst (N := 2) rfl ?_); refine box_event ?hg (N := 2) ?hd (cs := #[.int .i64 a0_0, .int .i64 a0_1, .int .i64 a0_2, .int .i64 a0_3]) (t := 116) ?hr ?_; (case hd => rfl); (case hg => rfl); (case hr => first | (go_simp; done) | (go_simp; rfl)); intro gb181 hg w22 hbox hb; have n0_ := Aside0.mk (below_step (by repeat (first | (with_reducible first | exact HB.out | apply below_alloc | apply pw_below_drewN | apply below_drew1) | exact HB.out)) hb); have n1_ := Aside0.mk (hbox); have n2_ := Aside0.mk ((by rw [hg]; exact (below_size (by repeat (first | (with_reducible first | exact HB.out | apply below_alloc | apply pw_below_drewN | apply below_drew1) | exact HB.out))) : w.heap.size ≤ gb181)); have n3_ := Aside0.mk ((by rw [hg]; exact (below_size (by repeat (first | (with_reducible first | exact HB.out | apply below_alloc | apply pw_below_drewN | apply below_drew1) | exact HB.out))) : w.heap.size ≤ gb181)); clear HB; have HB := n0_; have BK181 := n1_; have GW181 := n2_; have GE181 := n3_; clear n0_ n1_ n2_ n3_; clear hb hbox hg) | ((with_reducible refine gate_dst (N := 3) rfl ?_); refine box_event ?hg (N := 3) ?hd (cs := #[.int .i64 a1_0, .int .i64 a1_1, .int .i64 a1_2, .int .i64 a1_3]) (t := 116) ?hr ?_; (case hd => rfl); (case hg => rfl); (case hr => first | (go_simp; done) | (go_simp; rfl)); intro gb182 hg w23 hbox hb; have n0_ := Aside0.mk (blk_below (g := gb181) (o := .cells #[.int .i64 a0_0, .int .i64 a0_1, .int .i64 a0_2, .int .i64 a0_3] 116 (0, 0)) (by (with_reducible repeat (first | refine blk_drewN ?_ _ | refine blk_drew ?_ | refine blk_alloc ?_ _)); exact BK181.out) hb); have n1_ := Aside0.mk (below_step (by repeat (first | (with_reducible first | exact HB.out | apply below_alloc | apply pw_below_drewN | apply below_drew1 | refine below_set ?_ GE181.out) | exact HB.out)) hb); have n2_ := Aside0.mk (hbox); have n3_ := Aside0.mk ((by rw [hg]; exact (below_size (by repeat (first | (with_reducible first | exact HB.out | apply below_alloc | apply pw_below_drewN | apply below_drew1 | refine below_set ?_ GE181.out) | exact HB.out))) : w.heap.size ≤ gb182)); have n4_ := Aside0.mk ((by rw [hg]; exact (below_size (by repeat (first | (with_reducible first | exact HB.out | apply below_alloc | apply pw_below_drewN | apply below_drew1 | refine below_set ?_ GE181.out) | exact HB.out))) : w.heap.size ≤ gb182)); have n5_ := Aside0.mk ((by rw [hg]; exact Nat.ne_of_lt (blk_lt (g := gb181) (o := .cells #[.int .i64 a0_0, .int .i64 a0_1, .int .i64 a0_2, .int .i64 a0_3] 116 (0, 0)) (by (with_reducible repeat (first | refine blk_drewN ?_ _ | refine blk_drew ?_ | refine blk_alloc ?_ _)); exact BK181.out)) : gb181 ≠ gb182)); have n6_ := Aside0.mk ((by rw [hg]; exact Nat.ne_of_gt (blk_lt (g := gb181) (o := .cells #[.int .i64 a0_0, .int .i64 a0_1, .int .i64 a0_2, .int .i64 a0_3] 116 (0, 0)) (by (with_reducible repeat (first | refine blk_drewN ?_ _ | refine blk_drew ?_ | refine blk_alloc ?_ _)); exact BK181.out)) : gb182 ≠ gb181)); clear BK181; clear HB; have BK181 := n0_; have HB := n1_; have BK182 := n2_; have GW182 := n3_; have GE182 := n4_; have NB181_182 := n5_; have NB182_181 := n6_; clear n0_ n1_ n2_ n3_ n4_ n5_ n6_; clear hb hbox hg; have hnb24 := NB181_182.out; have hnc24 := NB182_181.out; have hcz25_0 : w23.cell? ⟨gb181, 0, none⟩ = some (.int .i64 a0_0) := (blk_cell BK181.out 0).trans rfl; have hcz25_1 : w23.cell? ⟨gb181, 1, none⟩ = some (.int .i64 a0_1) := (blk_cell BK181.out 1).trans rfl; have hcz25_2 : w23.cell? ⟨gb181, 2, none⟩ = some (.int .i64 a0_2) := (blk_cell BK181.out 2).trans rfl; have hcz25_3 : w23.cell? ⟨gb181, 3, none⟩ = some (.int .i64 a0_3) := (blk_cell BK181.out 3).trans rfl; have hfz25_0 := blk_frozen BK181.out 0; have hfz25_1 := blk_frozen BK181.out 1; have hfz25_2 := blk_frozen BK181.out 2; have hfz25_3 := blk_frozen BK181.out 3; have hcz26_0 : w23.cell? ⟨gb182, 0, none⟩ = some (.int .i64 a1_0) := (blk_cell BK182.out 0).trans rfl; have hcz26_1 : w23.cell? ⟨gb182, 1, none⟩ = some (.int .i64 a1_1) := (blk_cell BK182.out 1).trans rfl; have hcz26_2 : w23.cell? ⟨gb182, 2, none⟩ = some (.int .i64 a1_2) := (blk_cell BK182.out 2).trans rfl; have hcz26_3 : w23.cell? ⟨gb182, 3, none⟩ = some (.int .i64 a1_3) := (blk_cell BK182.out 3).trans rfl; have hfz26_0 := blk_frozen BK182.out 0; have hfz26_1 := blk_frozen BK182.out 1; have hfz26_2 := blk_frozen BK182.out 2; have hfz26_3 := blk_frozen BK182.out 3))
   go_ret
   exact ⟨by first | rfl | (simp [errW_none, errW_some] <;> rfl) | (simp [*, errW_none, errW_some] <;> rfl), by repeat (first | (with_reducible first | exact HB.out | apply below_alloc | apply pw_below_drewN | apply below_drew1 | refine below_set ?_ GE181.out | refine below_set ?_ GE182.out) | exact HB.out)⟩
 ·
  rw [if_neg c3] at H
  have c3b0 : (a0_0 == a1_0) = false := beq_eq_false_iff_ne.mpr c3
  have c3b1 : (a0_0 != a1_0) = true := bne_iff_ne.mpr c3
  obtain rfl := Option.some.inj H
  go_enter Try.func91, Try.ntmps91
  go_wp2_with (first | ((with_reducible refine gate_dst (N := 2) rfl ?_); refine box_event ?hg (N := 2) ?hd (cs := #[.int .i64 a0_0, .int .i64 a0_1, .int .i64 a0_2, .int .i64 a0_3]) (t := 116) ?hr ?_; (case hd => rfl); (case hg => rfl); (case hr => first | (go_simp; done) | (go_simp; rfl)); intro gb181 hg w27 hbox hb; have n0_ := Aside0.mk (below_step (by repeat (first | (with_reducible first | exact HB.out | apply below_alloc | apply pw_below_drewN | apply below_drew1) | exact HB.out)) hb); have n1_ := Aside0.mk (hbox); have n2_ := Aside0.mk ((by rw [hg]; exact (below_size (by repeat (first | (with_reducible first | exact HB.out | apply below_alloc | apply pw_below_drewN | apply below_drew1) | exact HB.out))) : w.heap.size ≤ gb181)); have n3_ := Aside0.mk ((by rw [hg]; exact (below_size (by repeat (first | (with_reducible first | exact HB.out | apply below_alloc | apply pw_below_drewN | apply below_drew1) | exact HB.out))) : w.heap.size ≤ gb181)); clear HB; have HB := n0_; have BK181 := n1_; have GW181 := n2_; have GE181 := n3_; clear n0_ n1_ n2_ n3_; clear hb hbox hg) | ((with_reducible refine gate_dst (N := 3) rfl ?_); refine box_event ?hg (N := 3) ?hd (cs := #[.int .i64 a1_0, .int .i64 a1_1, .int .i64 a1_2, .int .i64 a1_3]) (t := 116) ?hr ?_; (case hd => rfl); (case hg => rfl); (case hr => first | (go_simp; done) | (go_simp; rfl)); intro gb182 hg w28 hbox hb; have n0_ := Aside0.mk (blk_below (g := gb181) (o := .cells #[.int .i64 a0_0, .int .i64 a0_1, .int .i64 a0_2, .int .i64 a0_3] 116 (0, 0)) (by (with_reducible repeat (first | refine blk_drewN ?_ _ | refine blk_drew ?_ | refine blk_alloc ?_ _)); exact BK181.out) hb); have n1_ := Aside0.mk (below_step (by repeat (first | (with_reducible first | exact HB.out | apply below_alloc | apply pw_below_drewN | apply below_drew1 | refine below_set ?_ GE181.out) | exact HB.out)) hb); have n2_ := Aside0.mk (hbox); have n3_ := Aside0.mk ((by rw [hg]; exact (below_size (by repeat (first | (with_reducible first | exact HB.out | apply below_alloc | apply pw_below_drewN | apply below_drew1 | refine below_set ?_ GE181.out) | exact HB.out))) : w.heap.size ≤ gb182)); have n4_ := Aside0.mk ((by rw [hg]; exact (below_size (by repeat (first | (with_reducible first | exact HB.out | apply below_alloc | apply pw_below_drewN | apply below_drew1 | refine below_set ?_ GE181.out) | exact HB.out))) : w.heap.size ≤ gb182)); have n5_ := Aside0.mk ((by rw [hg]; exact Nat.ne_of_lt (blk_lt (g := gb181) (o := .cells #[.int .i64 a0_0, .int .i64 a0_1, .int .i64 a0_2, .int .i64 a0_3] 116 (0, 0)) (by (with_reducible repeat (first | refine blk_drewN ?_ _ | refine blk_drew ?_ | refine blk_alloc ?_ _)); exact BK181.out)) : gb181 ≠ gb182)); have n6_ := Aside0.mk ((by rw [hg]; exact Nat.ne_of_gt (blk_lt (g := gb181) (o := .cells #[.int .i64 a0_0, .int .i64 a0_1, .int .i64 a0_2, .int .i64 a0_3] 116 (0, 0)) (by (with_reducible repeat (first | refine blk_drewN ?_ _ | refine blk_drew ?_ | refine blk_alloc ?_ _)); exact BK181.out)) : gb182 ≠ gb181)); clear BK181; clear HB; have BK181 := n0_; have HB := n1_; have BK182 := n2_; have GW182 := n3_; have GE182 := n4_; have NB181_182 := n5_; have NB182_181 := n6_; clear n0_ n1_ n2_ n3_ n4_ n5_ n6_; clear hb hbox hg; have hnb29 := NB181_182.out; have hnc29 := NB182_181.out; have hcz30_0 : w28.cell? ⟨gb181, 0, none⟩ = some (.int .i64 a0_0) := (blk_cell BK181.out 0).trans rfl; have hcz30_1 : w28.cell? ⟨gb181, 1, none⟩ = some (.int .i64 a0_1) := (blk_cell BK181.out 1).trans rfl; have hcz30_2 : w28.cell? ⟨gb181, 2, none⟩ = some (.int .i64 a0_2) := (blk_cell BK181.out 2).trans rfl; have hcz30_3 : w28.cell? ⟨gb181, 3, none⟩ = some (.int .i64 a0_3) := (blk_cell BK181.out 3).trans rfl; have hfz30_0 := blk_frozen BK181.out 0; have hfz30_1 := blk_frozen BK181.out 1; have hfz30_2 := blk_frozen BK181.out 2; have hfz30_3 := blk_frozen BK181.out 3; have hcz31_0 : w28.cell? ⟨gb182, 0, none⟩ = some (.int .i64 a1_0) := (blk_cell BK182.out 0).trans rfl; have hcz31_1 : w28.cell? ⟨gb182, 1, none⟩ = some (.int .i64 a1_1) := (blk_cell BK182.out 1).trans rfl; have hcz31_2 : w28.cell? ⟨gb182, 2, none⟩ = some (.int .i64 a1_2) := (blk_cell BK182.out 2).trans rfl; have hcz31_3 : w28.cell? ⟨gb182, 3, none⟩ = some (.int .i64 a1_3) := (blk_cell BK182.out 3).trans rfl; have hfz31_0 := blk_frozen BK182.out 0; have hfz31_1 := blk_frozen BK182.out 1; have hfz31_2 := blk_frozen BK182.out 2; have hfz31_3 := blk_frozen BK182.out 3))
  go_ret
  exact ⟨by first | rfl | (simp [errW_none, errW_some] <;> rfl) | (simp [*, errW_none, errW_some] <;> rfl), by repeat (first | (with_reducible first | exact HB.out | apply below_alloc | apply pw_below_drewN | apply below_drew1 | refine below_set ?_ GE181.out | refine below_set ?_ GE182.out) | exact HB.out)⟩

end Go.Proofs.Ytobhjkpegcfdfaa.PFnExactHotSpots
